import PyProof.Rows.All
import Wide.All
import OpenK.AllK
import Wide.FinOn
import HandS.Exc
import HandS.ExcOwn
import HandS.ExcValue
import HandS.WordsExc
import HandS.IsInst
import HandS.ExcIs
import HandS.ForMost
import HandS.Wide
import HandS.WideBits
import HandS.Zip
import HandS.Style
import HandS.TupAny
import HandS.List
import HandS.Text
import HandS.SetFor
import HandS.Dict
import HandS.SetKeys
import HandS.Small
import HandS.More
import KE.KIntText
import PyProof.Rows.StrOr
import PyProof.StrOps2
import HandS.Codes
import HandS.Steps
import HandS.Replace
import HandS.ReplaceLit
import KE.IntTextLaws
import PySem.Challenge.RW_royaltree_k05_texts_that_are_no_fraction
set_option Elab.async false
set_option linter.all false
set_option maxRecDepth 100000
namespace L2
open PySem PySem.Spec PyProof.Rows
/-! ### a caught exception that stays in a name: its class is known behind the try -/
/-- at a: an exception of the class cls -/
def ExcAt (a : Addr) (cls : Value) (dx : Option Addr) : HO := .ext fun h => ∃ o, h.get? a = some o ∧ Zc cls dx o ∧ ∃ vs, o.data = .fields vs
theorem excAt_ok {P : Program} {w : World} {H : Hp} {h : Heap} {a : Addr} {cls : Value} {dx : Option Addr} {o : Obj} {vs : Array Value} (e : h.get? a = some o) (c : Zc cls dx o) (d : o.data = .fields vs) : ObjOk P w H h a (ExcAt a cls dx) :=
  ⟨⟨o, e, c, vs, d⟩, ⟨o, e⟩, fun _ _ ⟨q, e1, r⟩ k => ⟨q, k q e1, r⟩⟩
section
variable {X : Cx} {pins : List (Addr × Obj)} {σ σ' : St} {H H' : Hp} {s sI : Shared}
/-- an object that is new since sI is tracked from now on -/
theorem Inv.track (I : Inv X pins σ H s) (J : Inv X pins σ' H' sI) (hx : X.ex = []) {a : Addr} {oe : Obj} {vs : Array Value} {o : HO} (fresh : sI.heap.get? a = none) (ha : s.heap.get? a = some oe) (hd : oe.data = .fields vs) (na : H a = none) (nL : a ≠ X.env.locals)
    (new : ObjOk X.prog X.w (upd H a o) s.heap a o) : Inv X pins σ (upd H a o) s := by
  have noEx : ∀ b, b ∉ X.ex := fun b => by rw [hx]; exact fun z => nomatch z
  have at0 : X.s_0.heap.get? a = none := by
    cases e : X.s_0.heap.get? a with
    | none => rfl
    | some u =>
      obtain ⟨v, hv⟩ := J.base.there a u e (noEx a)
      rw [fresh] at hv
      cases hv
  have off : ∀ b u, H b = some u → b ≠ a := fun b u e z => by rw [z, na] at e; cases e
  refine { I with base := { I.base with free := fun b u e n x => ?_, tups := fun b xs e => ?_, frzs := fun b u v e => ?_, tbls := fun b ps e => ?_ }, free := ?_, freeC := fun x c e => ?_, pin := fun p hp => ?_, hok := fun b u e => ?_ }
  · rw [upd_ne fun z => by rw [z, at0] at e; cases e]
    exact I.base.free b u e n x
  · have := I.base.tups b xs e
    rw [upd_ne (off _ _ this)]
    exact this
  · have := I.base.frzs b u v e
    rw [upd_ne (off _ _ this)]
    exact this
  · obtain ⟨more, h1⟩ := I.base.tbls b ps e
    exact ⟨more, by rw [upd_ne (off _ _ h1)]; exact h1⟩
  · rw [upd_ne (Ne.symm nL)]
    exact I.free
  · obtain ⟨v, z⟩ := I.cell x c e
    rw [upd_ne fun q => ?_]
    · exact I.freeC x c e
    · subst q
      obtain ⟨oc, e1, e2⟩ := z
      rw [ha] at e1
      cases e1
      rw [hd] at e2
      cases e2
  · obtain ⟨h1, h2, h3, h4, h5⟩ := I.pin p hp
    refine ⟨h1, ?_, h3, h4, h5⟩
    rw [upd_ne fun q => ?_]
    · exact h2
    · have := (J.pin p hp).1
      rw [q, fresh] at this
      cases this
  · by_cases hb : b = a
    · subst hb
      rw [upd_same] at e
      cases e
      exact new
    · rw [upd_ne hb] at e
      exact (I.hok b u e).stay (fun c v _ q => q) (fun c q => by rw [upd_ne (off _ _ q)]; exact q) fun c xs q => by rw [upd_ne (off _ _ q)]; exact q
end
/-- what 'except x as n' wishes where the exception stays in a name of the suite's: it is tracked behind the try -/
def wNote (K : PySem.W.Frag) (c : Value) (i : Nat) (ts : Addr → Value → Option Addr → TS) (Wout : WX) (D : Ends) : WX := fun cls d σ H =>
  ∃ b, PySem.W.exmOne K cls c = some b ∧ (b = true → ∀ a, H a = none → ts a cls d { nx := fun σ' H' => H' a = none → D.nx (σ'.set i none) (upd H' a (ExcAt a cls d)), rt := fun _ _ => False } (σ.set i (some (.ref a))) H) ∧ (b = false → Wout cls d σ H)
section
variable {X : Cx} {x n : Str} {c : Value} {i : Nat} {body suite : List Stmt} {b₀ : Stmt} {np pos pos' : Pos} {tb : WX → TS} {ts : Addr → Value → Option Addr → TS} {Wout : WX}
theorem ps_try_note (hx : X.ex = []) (stk : X.stack = X.env :: X.outer) (frm : X.env.frame = some X.env.locals) (nodup : X.N.Nodup) (hi : X.N[i]? = some n) (lcl : X.env.kindOf n = some .local) (nm : Names X x c) (tk : Takes X Wout)
    (hb : ∀ (W : WX) (pn : List (Addr × Obj)) (xe : Value → Shared → Prop), Takes (X.tr pn xe) W → PassesOwn (model X.prog X.w) X.A X.env xe → PSs (X.tr pn xe) body (tb W))
    (hsu : ∀ (a : Addr) (oe : Obj) (cls : Value) (d : Option Addr) (pn : List (Addr × Obj)), Zc cls d oe → (∃ vs, oe.data = .fields vs) → PSs (X.suite a ((a, oe) :: pn)) (b₀ :: suite) (ts a cls d)) :
    PS X (.Try body [.ExceptHandler (some (.Name x np)) (some n) (b₀ :: suite) pos'] [] [] pos) (fun D σ H => tb (wNote X.K c i ts Wout D) D σ H) := by
  refine ⟨fun pins s σ H D I start => ?_⟩
  have okX := I.ok
  have frames : X.A.frames = some (X.env :: X.outer) := by rw [okX.frames, stk]
  -- what is done with what flies out of the body
  have catch_ : ∀ (xe : Value → Shared → Prop) (u : Value) (s' : Shared), XE (X.tr (X.pn ++ pins) xe) (wNote X.K c i ts Wout D) u s' → wpAny (model X.prog X.w) X.A (noteFrame u X.env) (fun _ s2 => wpAny (model X.prog X.w) X.A (setFlight u none) (fun _ s3 =>
      wpAny (model X.prog X.w) X.A (handleBy u X.env [.ExceptHandler (some (.Name x np)) (some n) (b₀ :: suite) pos']) (SP X pins D) X.xe s3) X.xe s2) X.xe s' := by
    rintro xe u s' ⟨a, B, sI, pins', σ', H', cls, d, rfl, J0, nb, up, sky, na, os, ag, b, isB, yes, no⟩
    have J : Inv X pins σ' H' sI := J0.ofTry okX
    refine Sky.land Zc.steady frames frm (show Sky B (X.env :: X.outer) a (Zc cls d) X.env.locals s'.heap by rw [← stk]; exact sky) fun h3 fl up3 => ?_
    have J3 : Inv X pins σ' H' { s' with heap := h3 } := J.landed nb fl.1 (up.trans up3) os ag
    obtain ⟨o3, vs3, at3, z3, d3⟩ := fl.there
    have notFrame : a ∉ frs (X.env :: X.outer) := fun hm => by
      obtain ⟨_, o', at', nf⟩ := fl.2.2.1.mem hm
      rw [at3] at at'; cases at'
      exact nf _ d3
    have fresh : sI.heap.get? a = none := by
      cases e : sI.heap.get? a with
      | none => rfl
      | some q =>
        have := nb a q e (by rw [show (X.tr (X.pn ++ pins) xe).stack = X.env :: X.outer from stk]; exact notFrame)
        rw [fl.2.1] at this; cases this
    have notLoc : a ≠ X.env.locals := fun z => notFrame (List.mem_filterMap.mpr ⟨X.env, List.mem_cons_self, by rw [frm, z]⟩)
    have notFs : a ∉ X.fs := fun hm => let ⟨e, he, q⟩ := List.mem_filterMap.mp hm; notFrame (List.mem_filterMap.mpr ⟨e, List.mem_cons_of_mem _ he, q⟩)
    have S3 := J3.suite at3 d3 na notLoc notFs
    have isT : PySem.W.Looks (model X.prog X.w) h3 (typeOf (.ref a)) cls := fun A Q E s k q => wpAny_typeOf_ref (k _ _ at3) (by rw [z3.1]; exact q)
    have named : ∀ {Q : Value → Shared → Prop} {E : Value → Shared → Prop}, Q c { s' with heap := h3 } → wpAny (model X.prog X.w) (X.A.mark (some (.ref a))) (eval (.Name x np) X.env) Q E { s' with heap := h3 } := fun {Q E} q => by
      rcases nm with ⟨g1, g2, g3 | ⟨g3, g4, g5⟩⟩
      · exact ld_glob (X := X.suite a ((a, o3) :: (X.pn ++ pins))) S3 g1 g3 q g2
      · exact ld_blt (X := X.suite a ((a, o3) :: (X.pn ++ pins))) S3 g1 g3 g4 q g5 g2
    refine wpAny_handleBy_cons (codeAny_handlers_test (named ((PySem.W.exm_one (M := model X.prog X.w) J3.kIn isT isB).here ?_))) (by intro q; cases q)
    match b, yes, no with
    | true, yes, _ =>
      refine codeAny_handlers_suite_as (HandSPX.lands_againZ fl fun h4 fl4 up4 => ?_)
      obtain ⟨o4, vs4, at4, z4, d4⟩ := fl4.there
      have S4 := (J.landed nb fl4.1 ((up.trans up3).trans up4) os ag : Inv X pins σ' H' { s' with heap := h4 }).suite at4 d4 na notLoc notFs
      refine store_ok (X := X.suite a ((a, o4) :: (X.pn ++ pins))) (v := .ref a) S4 nodup hi (.inl lcl : Loc X.env.scope n) rfl (fun s5 S5 => ?_) (.inr lcl)
      refine wpAny_mono ((hsu a o4 cls d (X.pn ++ pins) z4 ⟨_, d4⟩).run [] s5 _ H' _ S5 (yes rfl a na)) (fun f s6 out => ?_) (fun _ _ z => z.elim)
      match f, out with
      | .next, ⟨σ6, H6, S6, q6⟩ =>
        have keep : Inv X (pins ++ [(a, o4)]) σ6 H6 s6 := ⟨okX, S6.os, S6.bare, S6.base, S6.loc, S6.cell, S6.free, S6.freeC, fun p hp => S6.pin p (by
          rw [List.append_nil]
          show p ∈ (a, o4) :: (X.pn ++ pins)
          rw [← List.append_assoc, List.mem_append, List.mem_singleton] at hp
          exact List.mem_cons.mpr hp.symm), S6.hok, S6.len⟩
        refine gone_ok keep nodup hi lcl fun s7 J7 => ?_
        obtain ⟨at7, n7, _⟩ := J7.pin (a, o4) (List.mem_append_right _ (List.mem_append_right _ (List.mem_singleton.mpr rfl)))
        have J7' : Inv X pins (σ6.set i none) H6 s7 := ⟨okX, J7.os, J7.bare, J7.base, J7.loc, J7.cell, J7.free, J7.freeC, fun p hp => J7.pin p (by rw [← List.append_assoc]; exact List.mem_append_left _ hp), J7.hok, J7.len⟩
        exact ⟨_, _, J7'.track J hx fresh at7 d4 n7 notLoc (excAt_ok at7 z4 d4), q6 n7⟩
      | .brk, ⟨_, _, _, q6⟩ => exact q6.elim
      | .cont, ⟨_, _, _, q6⟩ => exact q6.elim
      | .ret u, ⟨_, _, _, _, _, q6⟩ => exact q6.elim
    | false, _, no =>
      show wpAny _ X.A (handleBy (.ref a) X.env []) _ _ _
      refine wpAny_handleBy_nil ?_
      obtain ⟨_, _, _, oe, vs, T, _, _, atE, _, dE, one, _⟩ := id fl
      have fin : wpAny (model X.prog X.w) X.A (setFlight (.ref a) X.env.frame) (fun _ s4 => wpAny (model X.prog X.w) X.A (throw (.ref a) : Sem Flow) (SP X pins D) X.xe s4) X.xe { s' with heap := h3 } := by
        rw [frm]
        exact HandSPX.setFlight_upZ fl fun h4 held up4 => wpAny_throw (tk _ _ ⟨a, B, sI, pins, σ', H', cls, d, rfl, J, nb, (up.trans up3).trans up4, .inr (.inr (by rw [stk]; exact held)), na, os, ag, no rfl⟩)
      unfold PySem.passOn
      refine wpAny_bind (wpAny_field atE dE one ?_)
      rw [if_neg (show ¬ ((Value.ref T == Value.none) = true) by simp)]
      first
        | exact wpAny_bind (wpAny_pure (wpAny_bind fin))
        | exact wpAny_bind fin
  refine wpAny_Try_except (wpAny_mono ((hb (wNote X.K c i ts Wout D) (X.pn ++ pins) _ (fun u s' air => catch_ _ u s' air) PassesOwn.looking).run [] s σ H D (I.toTry _) start) (fun f s1 out => ?_) (fun e s1 he => he))
  match f, out with
  | .next, ⟨σ', H', J, q⟩ => exact wpAny_execs_nil ⟨σ', H', J.ofTry okX, q⟩
  | .brk, ⟨σ', H', J, q⟩ => exact ⟨σ', H', J.ofTry okX, q⟩
  | .cont, ⟨σ', H', J, q⟩ => exact ⟨σ', H', J.ofTry okX, q⟩
  | .ret u, ⟨v, σ', H', J, r, q⟩ => exact ⟨v, σ', H', J.ofTry okX, r, q⟩
end
/-- isinstance(x, c), x a tracked exception of an own class without fields -/
def rIsiE (K : PySem.W.Frag) : List V → Hp → VK → Prop := fun xs H Q => ∃ (a D : Addr) (c : V) (u : Value) (b : Bool), xs = [.ref a, c] ∧ ExcC K D ∧ H a = some (ExcAt a (.ref D) none) ∧ ClsV c u ∧ PySem.W.kitOne K (.ref D) u = some b ∧ Q (.bl b) H
/-- .., (c1, c2, ..)) -/
def rIsiTE (K : PySem.W.Frag) : List V → Hp → VK → Prop := fun xs H Q => ∃ (a D tp : Addr) (cs : List V) (us : List Value) (b : Bool), xs = [.ref a, .ref tp] ∧ ExcC K D ∧ H a = some (ExcAt a (.ref D) none) ∧ H tp = some (.tup cs) ∧ Paired ClsV cs us ∧ PySem.W.kitAny K (.ref D) us = some b ∧ Q (.bl b) H
section
variable {X : Cx} {pins : List (Addr × Obj)} {σ : St} {H : Hp} {s : Shared}
theorem excAt_inst (I : Inv X pins σ H s) {a D : Addr} (h : H a = some (ExcAt a (.ref D) none)) : ∃ oe, PySem.W.InstAt s.heap a oe D none := by
  obtain ⟨⟨oc, od, oda, osl⟩, e, ⟨z1, z2⟩, vs, v⟩ := (I.hok a _ h).1
  dsimp only at z1 z2 v
  subst z1 z2 v
  exact ⟨_, e, rfl, rfl, trivial⟩
theorem call_isiE : CallR X (.builtin "isinstance") (rIsiE X.K) := by
  intro pins s σ H xs us Q I r h
  obtain ⟨a, D, c, u, b, rfl, C, hH, k, e, q⟩ := h
  obtain ⟨u1, u2, rfl, r1, r2⟩ := vals2 r
  cases (show u1 = Value.ref a from r1)
  have e2 := k.eq r2
  subst e2
  obtain ⟨oe, J⟩ := excAt_inst I hH
  exact PySem.W.kia_one (PySem.W.handS_kitx_exc C.hg C.hk C.hs C.hd C.ha C.hn C.ht C.hm) I.kIn J e (fun z => nomatch z) fun tk => ⟨.bl b, H, I.tok tk, rfl, q⟩
theorem call_isiTE : CallR X (.builtin "isinstance") (rIsiTE X.K) := by
  intro pins s σ H xs us Q I r h
  obtain ⟨a, D, tp, cs, ws, b, rfl, C, hH, hT, k, e, q⟩ := h
  obtain ⟨u1, u2, rfl, r1, r2⟩ := vals2 r
  cases (show u1 = Value.ref a from r1)
  cases (show u2 = Value.ref tp from r2)
  obtain ⟨oe, J⟩ := excAt_inst I hH
  obtain ⟨_, its, rv, ⟨oc, od, dt, sl⟩, h1, h2, n, h3⟩ := (show ObjOk X.prog X.w H s.heap tp (.tup cs) from I.hok tp _ hT)
  have e3 := ClsV.all k rv
  subst e3
  simp only at h2 h3; subst h2 h3
  exact PySem.W.kia_tup (PySem.W.handS_kitx_exc C.hg C.hk C.hs C.hd C.ha C.hn C.ht C.hm) I.kIn J h1 e (fun z => nomatch z) fun tk => ⟨.bl b, H, I.tok tk, rfl, q⟩
end
end L2

namespace DL
open PySem PySem.Spec PyProof.Rows L2

/-! ### data -/
inductive D where
  | non | bl (b : Bool) | int (i : Int) | str (x : Str)
  | lst (xs : List D) | tup (xs : List D)
  | rf (i : Nat) | st | ob (v : V) | scr (ns : List Int)

/-- what stands at a place that may change -/
inductive Cell where
  | dead | lst (xs : List D) | dk (kvs : List (Key × D)) | ins (C : Addr) (fs : List (Str × D))
  /-- a caught exception of the class at C, without fields -/
  | exc (C : Addr)

structure Wd where
  M : List Cell
  n : Option Nat

structure Gh where
  al : List Addr
  st : Option (Addr × Addr)
  fr : List (Addr × HO)

def isOb : V → Bool
  | .ty _ => true
  | .ref _ => true
  | _ => false

mutual
inductive Rep (K : PySem.W.Frag) (G : Gh) (S : Hp) : V → D → Prop
  | non : Rep K G S .non .non
  | bl (b : Bool) : Rep K G S (.bl b) (.bl b)
  | int (i : Int) : Rep K G S (.int i) (.int i)
  | str (x : Str) : Rep K G S (.str x) (.str x)
  | lst {a : Addr} {xs : List V} {ds : List D} : S a = some (.lst xs) → RepAll K G S xs ds → Rep K G S (.ref a) (.lst ds)
  | tup {a : Addr} {xs : List V} {ds : List D} : S a = some (.tup xs) → RepAll K G S xs ds → Rep K G S (.ref a) (.tup ds)
  | rf {a : Addr} {i : Nat} : G.al[i]? = some a → Rep K G S (.ref a) (.rf i)
  | st {a c : Addr} : G.st = some (a, c) → Rep K G S (.ref a) .st
  | ob {v : V} : isOb v = true → Rep K G S v (.ob v)
  | scr {a : Addr} {ns : List Int} : SqL K S a (ns.map V.int) → Rep K G S (.ref a) (.scr ns)
inductive RepAll (K : PySem.W.Frag) (G : Gh) (S : Hp) : List V → List D → Prop
  | nil : RepAll K G S [] []
  | cons {v : V} {vs : List V} {d : D} {ds : List D} : Rep K G S v d → RepAll K G S vs ds → RepAll K G S (v :: vs) (d :: ds)
end

structure Ext (G : Gh) (S : Hp) (G' : Gh) (S' : Hp) : Prop where
  al : ∃ r, G'.al = G.al ++ r
  st : ∀ p, G.st = some p → G'.st = some p
  fr : ∀ p ∈ G.fr, p ∈ G'.fr
  same : Same S S'
theorem Ext.refl (G : Gh) (S : Hp) : Ext G S G S := ⟨⟨[], by simp⟩, fun _ h => h, fun _ h => h, Same.refl S⟩
theorem Ext.trans {G G1 G2 : Gh} {S S1 S2 : Hp} (a : Ext G S G1 S1) (b : Ext G1 S1 G2 S2) : Ext G S G2 S2 := by
  obtain ⟨r1, e1⟩ := a.al
  obtain ⟨r2, e2⟩ := b.al
  exact ⟨⟨r1 ++ r2, by rw [e2, e1, List.append_assoc]⟩, fun p h => b.st p (a.st p h), fun p h => b.fr p (a.fr p h), a.same.trans b.same⟩
theorem Ext.alGet {G G' : Gh} {S S' : Hp} (x : Ext G S G' S') {i : Nat} {a : Addr} (h : G.al[i]? = some a) : G'.al[i]? = some a := by
  obtain ⟨r, e⟩ := x.al
  rw [e, List.getElem?_append_left (List.getElem?_eq_some_iff.mp h).1]
  exact h

section
variable {K : PySem.W.Frag} {G G' : Gh} {S S' : Hp}
mutual
theorem Rep.mono (x : Ext G S G' S') : ∀ {v : V} {d : D}, Rep K G S v d → Rep K G' S' v d
  | _, _, .non => .non
  | _, _, .bl b => .bl b
  | _, _, .int i => .int i
  | _, _, .str i => .str i
  | _, _, .lst h r => .lst (x.same _ _ h) (RepAll.mono x r)
  | _, _, .tup h r => .tup (x.same _ _ h) (RepAll.mono x r)
  | _, _, .rf h => .rf (x.alGet h)
  | _, _, .st h => .st (x.st _ h)
  | _, _, .ob h => .ob h
  | _, _, .scr h => .scr (x.same.seq h)
theorem RepAll.mono (x : Ext G S G' S') : ∀ {v : List V} {d : List D}, RepAll K G S v d → RepAll K G' S' v d
  | _, _, .nil => .nil
  | _, _, .cons h r => .cons (Rep.mono x h) (RepAll.mono x r)
end
theorem RepAll.length : ∀ {vs : List V} {ds : List D}, RepAll K G S vs ds → vs.length = ds.length
  | _, _, .nil => rfl
  | _, _, .cons _ r => congrArg (· + 1) (RepAll.length r)
theorem RepAll.get : ∀ {vs : List V} {ds : List D} {i : Nat} {d : D}, RepAll K G S vs ds → ds[i]? = some d → ∃ v, vs[i]? = some v ∧ Rep K G S v d
  | _, _, _, _, .nil, h => by simp at h
  | _, _, 0, _, .cons h _, e => by
    simp at e
    subst e
    exact ⟨_, rfl, h⟩
  | _, _, i + 1, d, .cons _ r, e => by
    obtain ⟨v, h1, h2⟩ := RepAll.get (i := i) (d := d) r (by simpa using e)
    exact ⟨v, by simpa using h1, h2⟩
theorem RepAll.getV : ∀ {vs : List V} {ds : List D} {i : Nat} {v : V}, RepAll K G S vs ds → vs[i]? = some v → ∃ d, ds[i]? = some d ∧ Rep K G S v d
  | _, _, _, _, .nil, h => by simp at h
  | _, _, 0, _, .cons h _, e => by
    simp at e
    subst e
    exact ⟨_, rfl, h⟩
  | _, _, i + 1, d, .cons _ r, e => by
    obtain ⟨v, h1, h2⟩ := RepAll.getV (i := i) (v := d) r (by simpa using e)
    exact ⟨v, by simpa using h1, h2⟩
theorem RepAll.append : ∀ {vs ws : List V} {ds es : List D}, RepAll K G S vs ds → RepAll K G S ws es → RepAll K G S (vs ++ ws) (ds ++ es)
  | _, _, _, _, .nil, h => h
  | _, _, _, _, .cons h r, q => .cons h (RepAll.append r q)
theorem RepAll.set {v : V} {d : D} (h : Rep K G S v d) : ∀ {vs : List V} {ds : List D} (i : Nat), RepAll K G S vs ds → RepAll K G S (vs.set i v) (ds.set i d)
  | _, _, _, .nil => .nil
  | _, _, 0, .cons _ r => .cons h r
  | _, _, i + 1, .cons q r => .cons q (RepAll.set h i r)
theorem RepAll.drop : ∀ {vs : List V} {ds : List D} (i : Nat), RepAll K G S vs ds → RepAll K G S (vs.drop i) (ds.drop i)
  | _, _, 0, h => h
  | _, _, _ + 1, .nil => .nil
  | _, _, i + 1, .cons _ r => RepAll.drop i r
theorem RepAll.take : ∀ {vs : List V} {ds : List D} (i : Nat), RepAll K G S vs ds → RepAll K G S (vs.take i) (ds.take i)
  | _, _, 0, _ => .nil
  | _, _, _ + 1, .nil => .nil
  | _, _, i + 1, .cons h r => .cons h (RepAll.take i r)
theorem RepAll.eraseIdx : ∀ {vs : List V} {ds : List D} (i : Nat), RepAll K G S vs ds → RepAll K G S (vs.eraseIdx i) (ds.eraseIdx i)
  | _, _, _, .nil => .nil
  | _, _, 0, .cons _ r => r
  | _, _, i + 1, .cons h r => .cons h (RepAll.eraseIdx i r)
theorem RepAll.reverse {vs : List V} {ds : List D} (h : RepAll K G S vs ds) : RepAll K G S vs.reverse ds.reverse := by
  induction h using RepAll.rec (motive_1 := fun _ _ _ => True) with
  | nil => exact .nil
  | cons h r _ ih =>
    rw [List.reverse_cons, List.reverse_cons]
    exact RepAll.append ih (.cons h .nil)
  | _ => trivial
end

section
variable {K : PySem.W.Frag} {S : Hp} {al : List Addr} {st : Option (Addr × Addr)} {f f' : List (Addr × HO)}
mutual
theorem Rep.refr : ∀ {v : V} {d : D}, Rep K ⟨al, st, f⟩ S v d → Rep K ⟨al, st, f'⟩ S v d
  | _, _, .non => .non
  | _, _, .bl b => .bl b
  | _, _, .int i => .int i
  | _, _, .str i => .str i
  | _, _, .lst h r => .lst h (RepAll.refr r)
  | _, _, .tup h r => .tup h (RepAll.refr r)
  | _, _, .rf h => .rf h
  | _, _, .st h => .st h
  | _, _, .ob h => .ob h
  | _, _, .scr h => .scr h
theorem RepAll.refr : ∀ {v : List V} {d : List D}, RepAll K ⟨al, st, f⟩ S v d → RepAll K ⟨al, st, f'⟩ S v d
  | _, _, .nil => .nil
  | _, _, .cons h r => .cons (Rep.refr h) (RepAll.refr r)
end
end

/-! ### the heap behind the data -/
def FsRep (K : PySem.W.Frag) (G : Gh) (S : Hp) {κ : Type} : List (κ × V) → List (κ × D) → Prop := Paired fun p q => p.1 = q.1 ∧ Rep K G S p.2 q.2
def CellOk (K : PySem.W.Frag) (G : Gh) (S H : Hp) (a : Addr) : Cell → Prop
  | .dead => H a ≠ none
  | .lst ds => S a = none ∧ ∃ xs, H a = some (.lst xs) ∧ RepAll K G S xs ds
  | .dk kvs => S a = none ∧ ∃ ks, H a = some (.dK ks) ∧ FsRep K G S ks kvs
  | .ins C fs => S a = none ∧ ∃ dx gs, H a = some (.ins C dx gs) ∧ FsRep K G S gs fs
  | .exc C => S a = none ∧ H a = some (ExcAt a (.ref C) none)
theorem CellOk.some {K : PySem.W.Frag} {G : Gh} {S H : Hp} {a : Addr} {c : Cell} (h : CellOk K G S H a c) : H a ≠ none := by
  cases c with
  | dead => exact h
  | lst ds => obtain ⟨_, xs, e, _⟩ := h; rw [e]; exact fun z => nomatch z
  | dk ds => obtain ⟨_, xs, e, _⟩ := h; rw [e]; exact fun z => nomatch z
  | ins C ds => obtain ⟨_, xs, _, e, _⟩ := h; rw [e]; exact fun z => nomatch z
  | exc C => rw [h.2]; exact fun z => nomatch z

/-- the law's own drawing state -/
def StOk (G : Gh) (S : Hp) (n : Option Nat) (H : Hp) : Prop := (n = none → G.st = none) ∧ ∀ a c, G.st = some (a, c) → S a = none ∧ S c = none ∧ a ≠ c ∧ a ∉ G.al ∧ c ∉ G.al ∧ (∀ p ∈ G.fr, p.1 ≠ a ∧ p.1 ≠ c) ∧
  ∃ (cells : List Int) (turn : Int), H a = some (.dK [(.inr "cells", .ref c), (.inr "turn", .int turn)]) ∧ H c = some (.lst (cells.map V.int)) ∧ cells ≠ [] ∧ cells.length ≤ 63 ∧ 0 ≤ turn ∧ turn + (n.getD 0 : Nat) ≤ 1000000000

structure HR (K : PySem.W.Frag) (G : Gh) (S : Hp) (w : Wd) (H : Hp) : Prop where
  same : Same S H
  len : G.al.length = w.M.length
  nod : G.al.Nodup
  cell : ∀ (i : Nat) (a : Addr) (c : Cell), G.al[i]? = some a → w.M[i]? = some c → CellOk K G S H a c
  st : StOk G S w.n H
  fr : ∀ p ∈ G.fr, S p.1 = none ∧ p.1 ∉ G.al ∧ H p.1 = some p.2

end DL

namespace DL
open PySem PySem.Spec PyProof.Rows L2
section
variable {K : PySem.W.Frag} {G G' : Gh} {S S' H : Hp} {w : Wd}

theorem HR.alSome (h : HR K G S w H) {a : Addr} (ha : a ∈ G.al) : H a ≠ none := by
  obtain ⟨i, hi⟩ := List.getElem?_of_mem ha
  have l : i < w.M.length := by
    rw [← h.len]
    exact (List.getElem?_eq_some_iff.mp hi).1
  exact (h.cell i a _ hi (List.getElem?_eq_getElem l)).some
theorem HR.freshAl (h : HR K G S w H) {p : Addr} (hp : H p = none) : p ∉ G.al := fun z => h.alSome z hp
theorem HR.freshS (h : HR K G S w H) {p : Addr} (hp : H p = none) : S p = none := h.same.free hp
theorem HR.freshSt (h : HR K G S w H) {p : Addr} (hp : H p = none) {a c : Addr} (e : G.st = some (a, c)) : p ≠ a ∧ p ≠ c := by
  obtain ⟨_, _, _, _, _, _, cells, turn, h1, h2, _⟩ := h.st.2 a c e
  exact ⟨fun z => (by rw [← z, hp] at h1; cases h1), fun z => (by rw [← z, hp] at h2; cases h2)⟩
theorem HR.freshFr (h : HR K G S w H) {p : Addr} (hp : H p = none) : ∀ q ∈ G.fr, q.1 ≠ p := fun q hq z => by
  have e := (h.fr q hq).2.2
  rw [z, hp] at e
  cases e
theorem CellOk.mono {a : Addr} {c : Cell} {H H' : Hp} (x : Ext G S G' S') (h : CellOk K G S H a c) (e : H' a = H a) (n : S' a = none ∨ c = .dead) : CellOk K G' S' H' a c := by
  cases c with
  | dead =>
    show H' a ≠ none
    rw [e]
    exact h
  | exc C => exact ⟨n.elim id (fun z => nomatch z), by rw [e]; exact h.2⟩
  | lst ds =>
    obtain ⟨_, xs, e1, r⟩ := h
    exact ⟨n.elim id (fun z => nomatch z), xs, by rw [e]; exact e1, r.mono x⟩
  | dk ds =>
    obtain ⟨_, xs, e1, r⟩ := h
    exact ⟨n.elim id (fun z => nomatch z), xs, by rw [e]; exact e1, Paired.mapP r fun p q z => ⟨z.1, z.2.mono x⟩⟩
  | ins C ds =>
    obtain ⟨_, dx, xs, e1, r⟩ := h
    exact ⟨n.elim id (fun z => nomatch z), dx, xs, by rw [e]; exact e1, Paired.mapP r fun p q z => ⟨z.1, z.2.mono x⟩⟩
theorem CellOk.sNone {a : Addr} {c : Cell} {H : Hp} (h : CellOk K G S H a c) : S a = none ∨ c = .dead := by
  cases c with
  | dead => exact .inr rfl
  | exc C => exact .inl h.1
  | lst ds => exact .inl h.1
  | dk ds => exact .inl h.1
  | ins C ds => exact .inl h.1

/-- a new object that never changes -/
theorem HR.newS (h : HR K G S w H) {p : Addr} (hp : H p = none) (o : HO) : HR K G (upd S p o) w (upd H p o) ∧ Ext G S G (upd S p o) := by
  have sp := h.freshS hp
  have x : Ext G S G (upd S p o) := ⟨⟨[], by simp⟩, fun _ z => z, fun _ z => z, fun b u e => by rw [upd_ne (ne_of_none e sp)]; exact e⟩
  refine ⟨⟨fun b u e => ?_, h.len, h.nod, fun i a c e1 e2 => ?_, ⟨h.st.1, fun a c e => ?_⟩, fun q hq => ?_⟩, x⟩
  · by_cases hb : b = p
    · subst hb
      rw [upd_same] at e ⊢
      exact e
    · rw [upd_ne hb] at e ⊢
      exact h.same _ _ e
  · have ne : a ≠ p := fun z => h.freshAl hp (z ▸ List.mem_of_getElem? e1)
    have q := h.cell i a c e1 e2
    exact q.mono x (upd_ne ne) (by rw [upd_ne ne]; exact q.sNone)
  · obtain ⟨n1, n2⟩ := h.freshSt hp e
    obtain ⟨z1, z2, z3, z4, z5, z6, cells, turn, z7, z8, z9⟩ := h.st.2 a c e
    exact ⟨by rw [upd_ne n1.symm]; exact z1, by rw [upd_ne n2.symm]; exact z2, z3, z4, z5, z6, cells, turn, by rw [upd_ne n1.symm]; exact z7, by rw [upd_ne n2.symm]; exact z8, z9⟩
  · obtain ⟨z1, z2, z3⟩ := h.fr q hq
    have ne := h.freshFr hp q hq
    exact ⟨by rw [upd_ne ne]; exact z1, z2, by rw [upd_ne ne]; exact z3⟩

/-- a new object that may change: cell number M.length -/
theorem HR.newC (h : HR K G S w H) {p : Addr} (hp : H p = none) (o : HO) (c : Cell) (hc : CellOk K ⟨G.al ++ [p], G.st, G.fr⟩ S (upd H p o) p c) :
    HR K ⟨G.al ++ [p], G.st, G.fr⟩ S ⟨w.M ++ [c], w.n⟩ (upd H p o) ∧ Ext G S ⟨G.al ++ [p], G.st, G.fr⟩ S := by
  have sp := h.freshS hp
  have x : Ext G S ⟨G.al ++ [p], G.st, G.fr⟩ S := ⟨⟨[p], rfl⟩, fun _ z => z, fun _ z => z, Same.refl S⟩
  refine ⟨⟨fun b u e => ?_, by simp [h.len], ?_, fun i a c' e1 e2 => ?_, ⟨h.st.1, fun a c' e => ?_⟩, fun q hq => ?_⟩, x⟩
  · rw [upd_ne (ne_of_none e sp)]
    exact h.same _ _ e
  · show (G.al ++ [p]).Nodup
    rw [List.nodup_append]
    refine ⟨h.nod, by simp, fun a ha b hb z => ?_⟩
    rw [List.mem_singleton] at hb
    exact h.freshAl hp (by rw [← hb, ← z]; exact ha)
  · have e1 : (G.al ++ [p])[i]? = some a := e1
    have e2 : (w.M ++ [c])[i]? = some c' := e2
    by_cases hi : i < G.al.length
    · rw [List.getElem?_append_left hi] at e1
      rw [List.getElem?_append_left (by rw [← h.len]; exact hi)] at e2
      have ne : a ≠ p := fun z => h.freshAl hp (z ▸ List.mem_of_getElem? e1)
      have q := h.cell i a c' e1 e2
      exact q.mono x (upd_ne ne) q.sNone
    · have hi2 : G.al.length ≤ i := Nat.le_of_not_lt hi
      rw [List.getElem?_append_right hi2] at e1
      rw [List.getElem?_append_right (by rw [← h.len]; exact hi2), ← h.len] at e2
      have l := (List.getElem?_eq_some_iff.mp e1).1
      have l0 : i - G.al.length = 0 := by
        rw [List.length_singleton] at l
        omega
      rw [l0] at e1 e2
      have e1' : p = a := by simpa using e1
      have e2' : c = c' := by simpa using e2
      subst e1'
      subst e2'
      exact hc
  · obtain ⟨n1, n2⟩ := h.freshSt hp e
    obtain ⟨z1, z2, z3, z4, z5, z6, cells, turn, z7, z8, z9⟩ := h.st.2 a c' e
    refine ⟨z1, z2, z3, fun hm => ?_, fun hm => ?_, z6, cells, turn, by rw [upd_ne n1.symm]; exact z7, by rw [upd_ne n2.symm]; exact z8, z9⟩
    · rcases List.mem_append.mp hm with hm | hm
      · exact z4 hm
      · exact n1 (List.mem_singleton.mp hm).symm
    · rcases List.mem_append.mp hm with hm | hm
      · exact z5 hm
      · exact n2 (List.mem_singleton.mp hm).symm
  · obtain ⟨z1, z2, z3⟩ := h.fr q hq
    have ne := h.freshFr hp q hq
    refine ⟨z1, fun hm => ?_, by rw [upd_ne ne]; exact z3⟩
    rcases List.mem_append.mp hm with hm | hm
    · exact z2 hm
    · exact ne (List.mem_singleton.mp hm)

/-- a cell is written -/
theorem HR.setC (h : HR K G S w H) {i : Nat} {a : Addr} {c0 c : Cell} {o : HO} (e1 : G.al[i]? = some a) (e2 : w.M[i]? = some c0) (hs : S a = none) (hc : CellOk K G S (upd H a o) a c) : HR K G S ⟨w.M.set i c, w.n⟩ (upd H a o) := by
  have il : i < w.M.length := (List.getElem?_eq_some_iff.mp e2).1
  refine ⟨fun b u e => ?_, by simp [h.len], h.nod, fun j b c' f1 f2 => ?_, ⟨h.st.1, fun b c' e => ?_⟩, fun q hq => ?_⟩
  · rw [upd_ne (ne_of_none e hs)]
    exact h.same _ _ e
  · have f2 : (w.M.set i c)[j]? = some c' := f2
    by_cases hj : j = i
    · subst hj
      rw [List.getElem?_set_self il] at f2
      cases f2
      rw [e1] at f1
      cases f1
      exact hc
    · rw [List.getElem?_set_ne (Ne.symm hj)] at f2
      have ne : b ≠ a := fun z => by
        subst z
        exact hj ((List.getElem?_inj (List.getElem?_eq_some_iff.mp f1).1 h.nod).mp (f1.trans e1.symm))
      have q := h.cell j b c' f1 f2
      exact q.mono (Ext.refl _ _) (upd_ne ne) q.sNone
  · obtain ⟨z1, z2, z3, z4, z5, z6, cells, turn, z7, z8, z9⟩ := h.st.2 b c' e
    have n1 : b ≠ a := fun z => z4 (z ▸ List.mem_of_getElem? e1)
    have n2 : c' ≠ a := fun z => z5 (z ▸ List.mem_of_getElem? e1)
    exact ⟨z1, z2, z3, z4, z5, z6, cells, turn, by rw [upd_ne n1]; exact z7, by rw [upd_ne n2]; exact z8, z9⟩
  · obtain ⟨z1, z2, z3⟩ := h.fr q hq
    have ne : q.1 ≠ a := fun z => z2 (z ▸ List.mem_of_getElem? e1)
    exact ⟨z1, z2, by rw [upd_ne ne]; exact z3⟩

/-- a list that changes no more -/
theorem HR.freeze (h : HR K G S w H) {i : Nat} {a : Addr} {ds : List D} (e1 : G.al[i]? = some a) (e2 : w.M[i]? = some (.lst ds)) :
    ∃ S', HR K G S' ⟨w.M.set i .dead, w.n⟩ H ∧ Ext G S G S' ∧ Rep K G S' (.ref a) (.lst ds) := by
  obtain ⟨sa, xs, ha, r⟩ := h.cell i a _ e1 e2
  have il : i < w.M.length := (List.getElem?_eq_some_iff.mp e2).1
  have x : Ext G S G (upd S a (.lst xs)) := ⟨⟨[], by simp⟩, fun _ z => z, fun _ z => z, fun b u e => by rw [upd_ne (ne_of_none e sa)]; exact e⟩
  refine ⟨upd S a (.lst xs), ⟨fun b u e => ?_, by simp [h.len], h.nod, fun j b c' f1 f2 => ?_, ⟨h.st.1, fun b c' e => ?_⟩, fun q hq => ?_⟩, x, .lst upd_same (r.mono x)⟩
  · by_cases hb : b = a
    · subst hb
      rw [upd_same] at e
      cases e
      exact ha
    · rw [upd_ne hb] at e
      exact h.same _ _ e
  · have f2 : (w.M.set i .dead)[j]? = some c' := f2
    by_cases hj : j = i
    · subst hj
      rw [List.getElem?_set_self il] at f2
      cases f2
      rw [e1] at f1
      cases f1
      show H _ ≠ none
      rw [ha]
      exact fun z => nomatch z
    · rw [List.getElem?_set_ne (Ne.symm hj)] at f2
      have ne : b ≠ a := fun z => by
        subst z
        exact hj ((List.getElem?_inj (List.getElem?_eq_some_iff.mp f1).1 h.nod).mp (f1.trans e1.symm))
      have q := h.cell j b c' f1 f2
      exact q.mono x rfl (by rw [upd_ne ne]; exact q.sNone)
  · obtain ⟨z1, z2, z3, z4, z5, z6, z7⟩ := h.st.2 b c' e
    have n1 : b ≠ a := fun z => z4 (z ▸ List.mem_of_getElem? e1)
    have n2 : c' ≠ a := fun z => z5 (z ▸ List.mem_of_getElem? e1)
    exact ⟨by rw [upd_ne n1]; exact z1, by rw [upd_ne n2]; exact z2, z3, z4, z5, z6, z7⟩
  · obtain ⟨z1, z2, z3⟩ := h.fr q hq
    have ne : q.1 ≠ a := fun z => z2 (z ▸ List.mem_of_getElem? e1)
    exact ⟨by rw [upd_ne ne]; exact z1, z2, z3⟩

/-- an object kept apart: a frame -/
theorem HR.push (h : HR K G S w H) {p : Addr} {o : HO} (hp : H p = none) : HR K ⟨G.al, G.st, (p, o) :: G.fr⟩ S w (upd H p o) ∧ Ext G S ⟨G.al, G.st, (p, o) :: G.fr⟩ S := by
  have sp := h.freshS hp
  have x : Ext G S ⟨G.al, G.st, (p, o) :: G.fr⟩ S := ⟨⟨[], by simp⟩, fun _ z => z, fun _ z => List.mem_cons_of_mem _ z, Same.refl S⟩
  refine ⟨⟨fun b u e => ?_, h.len, h.nod, fun i a c e1 e2 => ?_, ⟨h.st.1, fun a c e => ?_⟩, fun q hq => ?_⟩, x⟩
  · rw [upd_ne (ne_of_none e sp)]
    exact h.same _ _ e
  · have ne : a ≠ p := fun z => h.freshAl hp (z ▸ List.mem_of_getElem? e1)
    have q := h.cell i a c e1 e2
    exact q.mono x (upd_ne ne) q.sNone
  · obtain ⟨n1, n2⟩ := h.freshSt hp e
    obtain ⟨z1, z2, z3, z4, z5, z6, cells, turn, z7, z8, z9⟩ := h.st.2 a c e
    refine ⟨z1, z2, z3, z4, z5, fun q hq => ?_, cells, turn, by rw [upd_ne n1.symm]; exact z7, by rw [upd_ne n2.symm]; exact z8, z9⟩
    rcases List.mem_cons.mp hq with rfl | hq
    · exact ⟨n1, n2⟩
    · exact z6 q hq
  · rcases List.mem_cons.mp hq with rfl | hq
    · exact ⟨sp, h.freshAl hp, upd_same⟩
    · obtain ⟨z1, z2, z3⟩ := h.fr q hq
      have ne := h.freshFr hp q hq
      exact ⟨z1, z2, by rw [upd_ne ne]; exact z3⟩
/-- what stands apart is written -/
theorem HR.poke (h : HR K G S w H) {p : Addr} {o o' : HO} {fr : List (Addr × HO)} (hp : (p, o) ∈ G.fr) (hf : ∀ q ∈ fr, q ∈ G.fr ∧ q.1 ≠ p) : HR K ⟨G.al, G.st, (p, o') :: fr⟩ S w (upd H p o') := by
  obtain ⟨y1, y2, y3⟩ := h.fr _ hp
  refine ⟨fun b u e => ?_, h.len, h.nod, fun i a c e1 e2 => ?_, ⟨h.st.1, fun a c e => ?_⟩, fun q hq => ?_⟩
  · rw [upd_ne (ne_of_none e y1)]
    exact h.same _ _ e
  · have ne : a ≠ p := fun z => y2 (z ▸ List.mem_of_getElem? e1)
    have q := h.cell i a c e1 e2
    have x : Ext G S ⟨G.al, G.st, G.fr⟩ S := Ext.refl _ _
    have x2 : Ext G S G S := Ext.refl _ _
    have q2 := q.mono x2 (upd_ne (o := o') ne) q.sNone
    cases c with
    | dead => exact q2
    | exc C => exact q2
    | lst ds =>
      obtain ⟨n0, xs, e3, r⟩ := q2
      exact ⟨n0, xs, e3, RepAll.refr r⟩
    | dk ds =>
      obtain ⟨n0, xs, e3, r⟩ := q2
      exact ⟨n0, xs, e3, Paired.mapP r fun p q z => ⟨z.1, Rep.refr z.2⟩⟩
    | ins C ds =>
      obtain ⟨n0, dx, xs, e3, r⟩ := q2
      exact ⟨n0, dx, xs, e3, Paired.mapP r fun p q z => ⟨z.1, Rep.refr z.2⟩⟩
  · obtain ⟨z1, z2, z3, z4, z5, z6, cells, turn, z7, z8, z9⟩ := h.st.2 a c e
    obtain ⟨n1, n2⟩ := z6 _ hp
    refine ⟨z1, z2, z3, z4, z5, fun q hq => ?_, cells, turn, by rw [upd_ne (Ne.symm n1)]; exact z7, by rw [upd_ne (Ne.symm n2)]; exact z8, z9⟩
    rcases List.mem_cons.mp hq with rfl | hq
    · exact ⟨n1, n2⟩
    · exact z6 q (hf q hq).1
  · rcases List.mem_cons.mp hq with rfl | hq
    · exact ⟨y1, y2, upd_same⟩
    · obtain ⟨z1, z2, z3⟩ := h.fr q (hf q hq).1
      exact ⟨z1, z2, by rw [upd_ne (hf q hq).2]; exact z3⟩
end
end DL

namespace DL
open PySem PySem.Spec PyProof.Rows L2

/-! ### readings over data -/
/-- an exception of an own class: without fields, with them -/
inductive Exn where
  | own (C : Addr)
  | flds (C : Addr) (fs : List (Str × D))
def ExRep (K : PySem.W.Frag) (G : Gh) (S H : Hp) (cls : Value) (d : Option Addr) : Exn → Prop
  | .own C => cls = .ref C ∧ d = none
  | .flds C fs => cls = .ref C ∧ ∃ a gs, d = some a ∧ H a = some (.xd gs) ∧ FsRep K G S gs fs
abbrev KD := D → Wd → Prop
abbrev KX := Exn → Wd → Prop
abbrev KB := Bool → Wd → Prop
abbrev KA := List D → Wd → Prop
abbrev Rho := List (Option D)
abbrev GE := Rho → Wd → KX → KD → Prop
abbrev GT := Rho → Wd → KX → KB → Prop
abbrev GA := Rho → Wd → KX → KA → Prop
structure DEnds where
  nx : Rho → Wd → Prop
  rt : KD
  ex : KX
  bk : Rho → Wd → Prop := fun _ _ => False
  ct : Rho → Wd → Prop := fun _ _ => False
abbrev GS := DEnds → Rho → Wd → Prop

section
variable (K : PySem.W.Frag) (G : Gh) (S : Hp)
def SR (σ : L2.St) (ρ : Rho) : Prop := σ.length = ρ.length ∧ ∀ (i : Nat) (d : D), ρ[i]? = some (some d) → ∃ v, σ[i]? = some (some v) ∧ Rep K G S v d
def XL (kx : KX) (E : XK) : Prop := ∀ G' S' H' w' e cls d, Ext G S G' S' → HR K G' S' w' H' → ExRep K G' S' H' cls d e → kx e w' → E cls d H'
def KL (k : KD) (Q : VK) : Prop := ∀ G' S' H' w' d v, Ext G S G' S' → HR K G' S' w' H' → Rep K G' S' v d → k d w' → Q v H'
def BL (k : KB) (Q : Bool → Hp → Prop) : Prop := ∀ G' S' H' w' b, Ext G S G' S' → HR K G' S' w' H' → k b w' → Q b H'
def AL (k : KA) (Q : List V → Hp → Prop) : Prop := ∀ G' S' H' w' ds vs, Ext G S G' S' → HR K G' S' w' H' → RepAll K G' S' vs ds → k ds w' → Q vs H'
def NL (k : Rho → Wd → Prop) (Q : L2.St → Hp → Prop) : Prop := ∀ G' S' H' w' ρ' σ', Ext G S G' S' → HR K G' S' w' H' → SR K G' S' σ' ρ' → k ρ' w' → Q σ' H'
end
section
variable {K : PySem.W.Frag} {G G' : Gh} {S S' : Hp}
theorem SR.mono {σ : L2.St} {ρ : Rho} (x : Ext G S G' S') (h : SR K G S σ ρ) : SR K G' S' σ ρ := ⟨h.1, fun i d e => let ⟨v, h1, h2⟩ := h.2 i d e; ⟨v, h1, h2.mono x⟩⟩
theorem XL.mono {kx : KX} {E : XK} (x : Ext G S G' S') (h : XL K G S kx E) : XL K G' S' kx E := fun G1 S1 H1 w1 e c d x1 => h G1 S1 H1 w1 e c d (x.trans x1)
theorem KL.mono {k : KD} {Q : VK} (x : Ext G S G' S') (h : KL K G S k Q) : KL K G' S' k Q := fun G1 S1 H1 w1 d v x1 => h G1 S1 H1 w1 d v (x.trans x1)
theorem BL.mono {k : KB} {Q : Bool → Hp → Prop} (x : Ext G S G' S') (h : BL K G S k Q) : BL K G' S' k Q := fun G1 S1 H1 w1 d x1 => h G1 S1 H1 w1 d (x.trans x1)
theorem AL.mono {k : KA} {Q : List V → Hp → Prop} (x : Ext G S G' S') (h : AL K G S k Q) : AL K G' S' k Q := fun G1 S1 H1 w1 d v x1 => h G1 S1 H1 w1 d v (x.trans x1)
theorem NL.mono {k : Rho → Wd → Prop} {Q : L2.St → Hp → Prop} (x : Ext G S G' S') (h : NL K G S k Q) : NL K G' S' k Q := fun G1 S1 H1 w1 d v x1 => h G1 S1 H1 w1 d v (x.trans x1)
theorem SR.set {σ : L2.St} {ρ : Rho} {v : V} {d : D} (h : SR K G S σ ρ) (r : Rep K G S v d) (i : Nat) : SR K G S (σ.set i (some v)) (ρ.set i (some d)) := by
  refine ⟨by simp [h.1], fun j e hj => ?_⟩
  by_cases hi : j = i
  · subst hi
    have hl : j < ρ.length := by
      have := (List.getElem?_eq_some_iff.mp hj).1
      simpa using this
    rw [List.getElem?_set_self hl] at hj
    cases hj
    exact ⟨v, List.getElem?_set_self (by rw [h.1]; exact hl), r⟩
  · rw [List.getElem?_set_ne (Ne.symm hi)] at hj
    obtain ⟨u, h1, h2⟩ := h.2 j e hj
    exact ⟨u, by rw [List.getElem?_set_ne (Ne.symm hi)]; exact h1, h2⟩
end

def upE (K : PySem.W.Frag) (E : XK) (g : GE) : TE := fun σ H Q => ∃ G S ρ w kx k, HR K G S w H ∧ SR K G S σ ρ ∧ XL K G S kx E ∧ KL K G S k Q ∧ g ρ w kx k
def upT (K : PySem.W.Frag) (E : XK) (g : GT) : TT := fun σ H Q => ∃ G S ρ w kx k, HR K G S w H ∧ SR K G S σ ρ ∧ XL K G S kx E ∧ BL K G S k Q ∧ g ρ w kx k
def upA (K : PySem.W.Frag) (E : XK) (g : GA) : TA := fun σ H Q => ∃ G S ρ w kx k, HR K G S w H ∧ SR K G S σ ρ ∧ XL K G S kx E ∧ AL K G S k Q ∧ g ρ w kx k
structure EL (K : PySem.W.Frag) (G : Gh) (S : Hp) (E : XK) (F : DEnds) (D : Ends) : Prop where
  nx : NL K G S F.nx D.nx
  rt : KL K G S F.rt D.rt
  bk : NL K G S F.bk D.bk
  ct : NL K G S F.ct D.ct
  ex : XL K G S F.ex E
theorem EL.mono {K : PySem.W.Frag} {G G' : Gh} {S S' : Hp} {E : XK} {F : DEnds} {D : Ends} (x : Ext G S G' S') (h : EL K G S E F D) : EL K G' S' E F D := ⟨h.nx.mono x, h.rt.mono x, h.bk.mono x, h.ct.mono x, h.ex.mono x⟩
def upS (K : PySem.W.Frag) (E : XK) (g : GS) : TS := fun D σ H => ∃ G S ρ w F, HR K G S w H ∧ SR K G S σ ρ ∧ EL K G S E F D ∧ g F ρ w

def DE (X : Cx) (E : XK) (e : Expr) (g : GE) : Prop := PE X e (upE X.K E g)
def DT (X : Cx) (E : XK) (e : Expr) (g : GT) : Prop := PT X e (upT X.K E g)
def DW (X : Cx) (E : XK) (e : Expr) (g : GT) : Prop := PW X e (upT X.K E g)
def DA (X : Cx) (E : XK) (es : List Expr) (g : GA) : Prop := PA X es (upA X.K E g)
def DS (X : Cx) (E : XK) (st : Stmt) (g : GS) : Prop := PS X st (upS X.K E g)
def DSs (X : Cx) (E : XK) (st : List Stmt) (g : GS) : Prop := PSs X st (upS X.K E g)
section
variable {X : Cx}
theorem pe_imp {e : Expr} {t t' : TE} (h : PE X e t) (i : ∀ σ H Q, t' σ H Q → t σ H Q) : PE X e t' := ⟨fun pins s σ H Q I q => h.run pins s σ H Q I (i _ _ _ q)⟩
theorem pt_imp {e : Expr} {t t' : TT} (h : PT X e t) (i : ∀ σ H Q, t' σ H Q → t σ H Q) : PT X e t' := ⟨fun pins s σ H Q I q => h.run pins s σ H Q I (i _ _ _ q)⟩
theorem pw_imp {e : Expr} {t t' : TT} (h : PW X e t) (i : ∀ σ H Q, t' σ H Q → t σ H Q) : PW X e t' := ⟨fun wh pins s σ H Q I q => h.run wh pins s σ H Q I (i _ _ _ q)⟩
theorem pa_imp {e : List Expr} {t t' : TA} (h : PA X e t) (i : ∀ σ H Q, t' σ H Q → t σ H Q) : PA X e t' := ⟨fun pos pins s σ H Q I q => h.run pos pins s σ H Q I (i _ _ _ q)⟩
theorem ps_imp {e : Stmt} {t t' : TS} (h : PS X e t) (i : ∀ D σ H, t' D σ H → t D σ H) : PS X e t' := ⟨fun pins s σ H D I q => h.run pins s σ H D I (i _ _ _ q)⟩
theorem pss_imp {e : List Stmt} {t t' : TS} (h : PSs X e t) (i : ∀ D σ H, t' D σ H → t D σ H) : PSs X e t' := ⟨fun pins s σ H D I q => h.run pins s σ H D I (i _ _ _ q)⟩
end

/-! ### names, constants -/
def gVar (i : Nat) : GE := fun ρ w _ k => match ρ[i]? with
  | some (some d) => k d w
  | _ => False
def gC (d : D) : GE := fun _ w _ k => k d w
section
variable {X : Cx} {E : XK}
theorem de_var (i : Nat) {x : Str} {pos : Pos} (hN : X.N[i]? = some x := by rfl) (hv : Vis X.env.scope x := by first | exact Or.inl rfl | exact Or.inr (Or.inl rfl) | exact Or.inr (Or.inr rfl)) (hd : (x == ("__debug__" : Str)) = false := by decide)
    (hcd : (x == ("__classdict__" : Str)) = false := by decide) : DE X E (.Name x pos) (gVar i) := by
  refine pe_imp (pe_var hN hv hd hcd) ?_
  rintro σ H Q ⟨G, S, ρ, w, kx, k, hr, sr, xl, kl, h⟩
  unfold gVar at h
  split at h
  · rename_i d e
    obtain ⟨v, h1, h2⟩ := sr.2 i d e
    exact ⟨v, h1, kl _ _ _ _ _ _ (Ext.refl _ _) hr h2 h⟩
  · exact h.elim
theorem de_int {i : Int} {j pos} : DE X E (.Constant (.int i) j pos) (gC (.int i)) := pe_imp pe_int (by
  rintro σ H Q ⟨G, S, ρ, w, kx, k, hr, sr, xl, kl, h⟩
  exact kl _ _ _ _ _ _ (Ext.refl _ _) hr (.int i) h)
theorem de_bl {i : Bool} {j pos} : DE X E (.Constant (.bool i) j pos) (gC (.bl i)) := pe_imp pe_bl (by
  rintro σ H Q ⟨G, S, ρ, w, kx, k, hr, sr, xl, kl, h⟩
  exact kl _ _ _ _ _ _ (Ext.refl _ _) hr (.bl i) h)
theorem de_non {j pos} : DE X E (.Constant .none j pos) (gC .non) := pe_imp pe_non (by
  rintro σ H Q ⟨G, S, ρ, w, kx, k, hr, sr, xl, kl, h⟩
  exact kl _ _ _ _ _ _ (Ext.refl _ _) hr .non h)
theorem de_str {x : Str} {j pos} : DE X E (.Constant (.str x) j pos) (gC (.str x)) := pe_imp pe_str (by
  rintro σ H Q ⟨G, S, ρ, w, kx, k, hr, sr, xl, kl, h⟩
  exact kl _ _ _ _ _ _ (Ext.refl _ _) hr (.str x) h)
/-- a module's constant -/
theorem de_gint {x : Str} {i : Int} {t : Tok} {pos : Pos} (hg : Gl X x) (hm : X.mg x = some (.int i t)) (hd : (x == ("__debug__" : Str)) = false := by decide) : DE X E (.Name x pos) (gC (.int i)) := pe_imp (pe_glob (v := .int i) hg hm ⟨_, rfl⟩ hd) (by
  rintro σ H Q ⟨G, S, ρ, w, kx, k, hr, sr, xl, kl, h⟩
  exact kl _ _ _ _ _ _ (Ext.refl _ _) hr (.int i) h)
theorem de_gstr {x : Str} {i : Str} {t : Tok} {pos : Pos} (hg : Gl X x) (hm : X.mg x = some (.str i t)) (hd : (x == ("__debug__" : Str)) = false := by decide) : DE X E (.Name x pos) (gC (.str i)) := pe_imp (pe_glob (v := .str i) hg hm ⟨_, rfl⟩ hd) (by
  rintro σ H Q ⟨G, S, ρ, w, kx, k, hr, sr, xl, kl, h⟩
  exact kl _ _ _ _ _ _ (Ext.refl _ _) hr (.str i) h)
/-- an own class, as a value -/
theorem de_gcls {x : Str} {C : Addr} {pos : Pos} (hg : Gl X x) (hm : X.mg x = some (.ref C)) (hd : (x == ("__debug__" : Str)) = false := by decide) : DE X E (.Name x pos) (gC (.ob (.ref C))) := pe_imp (pe_glob (v := .ref C) hg hm rfl hd) (by
  rintro σ H Q ⟨G, S, ρ, w, kx, k, hr, sr, xl, kl, h⟩
  exact kl _ _ _ _ _ _ (Ext.refl _ _) hr (.ob rfl) h)
/-- a built-in class, as a value -/
theorem de_type {x : Str} {n : String} {pos : Pos} (hg : Gl X x) (hm : X.mg x = none) (hv : bootBuiltins x = some (.type n)) (hn : x ≠ "__name__" := by decide) (hd : (x == ("__debug__" : Str)) = false := by decide) : DE X E (.Name x pos) (gC (.ob (.ty n))) := pe_imp (pe_bltn (v := .ty n) hg hm hv rfl hn hd) (by
  rintro σ H Q ⟨G, S, ρ, w, kx, k, hr, sr, xl, kl, h⟩
  exact kl _ _ _ _ _ _ (Ext.refl _ _) hr (.ob rfl) h)
end

/-! ### operators -/
abbrev F2 := D → D → Wd → KD → Prop
def gBin (f : F2) (ga gb : GE) : GE := fun ρ w kx k => ga ρ w kx fun x w1 => gb ρ w1 kx fun y w2 => f x y w2 k
def BinOk (K : PySem.W.Frag) (r : R2) (f : F2) : Prop := ∀ {G S H w x y d e k Q}, HR K G S w H → Rep K G S x d → Rep K G S y e → KL K G S k Q → f d e w k → r x y H Q
section
variable {X : Cx} {E : XK} {a b c : Expr} {ga gb gc : GE} {pos : Pos}
theorem bin_up {K : PySem.W.Frag} {r : R2} {f : F2} (hf : BinOk K r f) : ∀ σ H Q, upE K E (gBin f ga gb) σ H Q → tOp r (upE K E ga) (upE K E gb) σ H Q := by
  rintro σ H Q ⟨G, S, ρ, w, kx, k, hr, sr, xl, kl, h⟩
  exact ⟨G, S, ρ, w, kx, _, hr, sr, xl, fun G1 S1 H1 w1 d x x1 hr1 rp h1 => ⟨G1, S1, ρ, w1, kx, _, hr1, sr.mono x1, xl.mono x1, fun G2 S2 H2 w2 e y x2 hr2 rp2 h2 => hf hr2 (rp.mono x2) rp2 (kl.mono (x1.trans x2)) h2, h1⟩, h⟩
theorem de_bin {op : Operator} {r : R2} {f : F2} (ho : OpR X (binaryOp op) r) (hf : BinOk X.K r f) (ha : DE X E a ga) (hb : DE X E b gb) : DE X E (.BinOp a op b pos) (gBin f ga gb) :=
  pe_imp (pe_op ho ha hb) (bin_up hf)
theorem de_cmp {op : CmpOp} {r : R2} {f : F2} (ho : OpR X (compareOp op) r) (hf : BinOk X.K r f) (ha : DE X E a ga) (hb : DE X E b gb) (hm : behindInMarks op b = false) : DE X E (.Compare a [op] [b] pos) (gBin f ga gb) :=
  pe_imp (pe_cmpR ho ha hb hm) (bin_up hf)
end

def addD : F2 := fun x y w k => match x, y with
  | .int i, .int j => k (.int (i + j)) w
  | .str i, .str j => i.length + j.length ≤ sizeLine ∧ k (.str (i ++ j)) w
  | .lst i, .lst j => i.length + j.length ≤ sizeLine ∧ k (.lst (i ++ j)) w
  | .tup i, .tup j => i ≠ [] ∧ i.length + j.length ≤ sizeLine ∧ k (.tup (i ++ j)) w
  | _, _ => False
def subD : F2 := fun x y w k => match x, y with
  | .int i, .int j => k (.int (i - j)) w
  | _, _ => False
def mulD : F2 := fun x y w k => match x, y with
  | .int i, .int j => CMulX i j ∧ k (.int (i * j)) w
  | .lst i, .int j => -(2 ^ 63) ≤ j ∧ j < 2 ^ 63 ∧ i.length * j.toNat ≤ sizeLine ∧ k (.lst (List.replicate j.toNat i).flatten) w
  | _, _ => False
def fdivD : F2 := fun x y w k => match x, y with
  | .int i, .int j => (j ≠ 0 ∧ j.natAbs.log2 < 9000) ∧ k (.int (i.fdiv j)) w
  | _, _ => False
def modD : F2 := fun x y w k => match x, y with
  | .int i, .int j => j ≠ 0 ∧ k (.int (i.fmod j)) w
  | _, _ => False
def powD : F2 := fun x y w k => match x, y with
  | .int i, .int j => CPow i j ∧ k (.int (i ^ j.toNat)) w
  | _, _ => False
def ltD : F2 := fun x y w k => match x, y with
  | .int i, .int j => k (.bl (decide (i < j))) w
  | .str i, .str j => k (.bl (decide (i.cps.toList < j.cps.toList))) w
  | _, _ => False
def leD : F2 := fun x y w k => match x, y with
  | .int i, .int j => k (.bl (decide (i ≤ j))) w
  | _, _ => False
def gtD : F2 := fun x y w k => match x, y with
  | .int i, .int j => k (.bl (decide (j < i))) w
  | _, _ => False
def geD : F2 := fun x y w k => match x, y with
  | .int i, .int j => k (.bl (decide (j ≤ i))) w
  | _, _ => False
mutual
def toPD : D → Option PyData
  | .non => some .none
  | .bl b => some (.bool b)
  | .int i => some (.int i)
  | .str x => some (.str x)
  | .lst xs => (toPDs xs).map .list
  | .tup xs => (toPDs xs).map .tuple
  | .rf _ => none
  | .st => none
  | .ob _ => none
  | .scr _ => none
def toPDs : List D → Option (List PyData)
  | [] => some []
  | x :: xs => match toPD x, toPDs xs with
    | some p, some ps => some (p :: ps)
    | _, _ => none
end
def eqD0 : F2 := fun x y w k => match toPD x, toPD y with
  | some p, some q => SeqAt.shaped p = true ∧ SeqAt.shaped q = true ∧ k (.bl (PyData.eqv p q)) w
  | _, _ => False
def neD0 : F2 := fun x y w k => match toPD x, toPD y with
  | some p, some q => SeqAt.shaped p = true ∧ SeqAt.shaped q = true ∧ k (.bl (!PyData.eqv p q)) w
  | _, _ => False
def eqD : F2 := fun x y w k => match x, y with
  | .str s, .str t => k (.bl (decide (s = t))) w
  | x, y => eqD0 x y w k
def neD : F2 := fun x y w k => match x, y with
  | .str s, .str t => k (.bl (!decide (s = t))) w
  | x, y => neD0 x y w k
def isNonD : D → Bool
  | .non => true
  | _ => false
def isD : F2 := fun x y w k => match y with
  | .non => k (.bl (isNonD x)) w
  | _ => False
def isnotD : F2 := fun x y w k => match y with
  | .non => k (.bl (!isNonD x)) w
  | _ => False
section
variable {K : PySem.W.Frag} {G : Gh} {S H : Hp}
mutual
theorem rep_dp (h : Same S H) : ∀ {v : V} {d : D} {p : PyData}, Rep K G S v d → toPD d = some p → Dp K H v p
  | _, _, _, .non, e => by cases e; exact .non
  | _, _, _, .bl b, e => by cases e; exact .bl b
  | _, _, _, .int i, e => by cases e; exact .int i
  | _, _, _, .str i, e => by cases e; exact .str i
  | _, _, _, .lst h1 r, e => by
    rw [toPD] at e
    obtain ⟨ps, e1, rfl⟩ := Option.map_eq_some_iff.mp e
    exact .lst (.inl (.inl (h _ _ h1))) (reps_dp h r e1)
  | _, _, _, .tup h1 r, e => by
    rw [toPD] at e
    obtain ⟨ps, e1, rfl⟩ := Option.map_eq_some_iff.mp e
    exact .tup (.inl (.inl (h _ _ h1))) (reps_dp h r e1)
  | _, _, _, .rf _, e => by cases e
  | _, _, _, .st _, e => by cases e
  | _, _, _, .ob _, e => by cases e
  | _, _, _, .scr _, e => by cases e
theorem reps_dp (h : Same S H) : ∀ {vs : List V} {ds : List D} {ps : List PyData}, RepAll K G S vs ds → toPDs ds = some ps → DpAll K H vs ps
  | _, _, _, .nil, e => by cases e; exact .nil
  | _, _, _, .cons h1 r, e => by
    rw [toPDs] at e
    split at e
    · rename_i p ps e1 e2
      cases e
      exact .cons (rep_dp h h1 e1) (reps_dp h r e2)
    · cases e
end
end
/-- behind an unchanged heap -/
theorem KL.here {K : PySem.W.Frag} {G : Gh} {S H : Hp} {w : Wd} {k : KD} {Q : VK} {v : V} {d : D} (kl : KL K G S k Q) (hr : HR K G S w H) (r : Rep K G S v d) (h : k d w) : Q v H := kl _ _ _ _ _ _ (Ext.refl _ _) hr r h
/-- a new list or tuple -/
theorem KL.newL {K : PySem.W.Frag} {G : Gh} {S H : Hp} {w : Wd} {k : KD} {Q : VK} {xs : List V} {ds : List D} (kl : KL K G S k Q) (hr : HR K G S w H) (r : RepAll K G S xs ds) (h : k (.lst ds) w) : ∀ p, H p = none → Q (.ref p) (upd H p (.lst xs)) := fun p hp => by
  obtain ⟨h1, x⟩ := hr.newS hp (.lst xs)
  exact kl _ _ _ _ _ _ x h1 (.lst upd_same (r.mono x)) h
theorem KL.newT {K : PySem.W.Frag} {G : Gh} {S H : Hp} {w : Wd} {k : KD} {Q : VK} {xs : List V} {ds : List D} (kl : KL K G S k Q) (hr : HR K G S w H) (r : RepAll K G S xs ds) (h : k (.tup ds) w) : ∀ p, H p = none → Q (.ref p) (upd H p (.tup xs)) := fun p hp => by
  obtain ⟨h1, x⟩ := hr.newS hp (.tup xs)
  exact kl _ _ _ _ _ _ x h1 (.tup upd_same (r.mono x)) h

def rAddD (K : PySem.W.Frag) : R2 := fun x y H Q => (rI0 (fun i j => .int (i + j))) x y H Q ∨ (fun x y H Q => ∃ i j, x = .str i ∧ y = .str j ∧ i.length + j.length ≤ sizeLine ∧ Q (.str (i ++ j)) H : R2) x y H Q ∨ rCat x y H Q ∨ rCatT K x y H Q
theorem op_addD {X : Cx} : OpR X (binaryOp .Add) (rAddD X.K) := op_add.or (op_add_str.or (op_cat.or op_catT))
theorem ok_addD {K : PySem.W.Frag} : BinOk K (rAddD K) addD := by
  intro G S H w x y d e k Q hr rx ry kl h
  unfold addD at h
  split at h
  · cases rx; cases ry
    exact .inl ⟨_, _, rfl, rfl, kl.here hr (.int _) h⟩
  · cases rx; cases ry
    exact .inr (.inl ⟨_, _, rfl, rfl, h.1, kl.here hr (.str _) h.2⟩)
  · cases rx with
    | lst h1 r1 => cases ry with
      | lst h2 r2 => exact .inr (.inr (.inl ⟨_, _, _, _, rfl, rfl, hr.same _ _ h1, hr.same _ _ h2, by rw [r1.length, r2.length]; exact h.1, kl.newL hr (r1.append r2) h.2⟩))
  · cases rx with
    | tup h1 r1 => cases ry with
      | tup h2 r2 =>
        obtain ⟨hne, hz, hk⟩ := h
        have l1 := r1.length
        have l2 := r2.length
        refine .inr (.inr (.inr ⟨_, _, _, _, rfl, rfl, .inl (.inl (hr.same _ _ h1)), .inl (.inl (hr.same _ _ h2)), fun z => hne ?_, by rw [l1, l2]; exact hz, fun z => ?_, fun _ => kl.newT hr (r1.append r2) hk⟩))
        · rw [z] at l1
          exact List.length_eq_zero_iff.mp l1.symm
        · rw [z] at l2
          have e := List.length_eq_zero_iff.mp l2.symm
          subst e
          rw [List.append_nil] at hk
          exact kl.here hr (.tup h1 r1) hk
  · exact h.elim
def rI2 (C : Int → Int → Prop) (g : Int → Int → V) : R2 := rI C g
theorem ok_subD {K : PySem.W.Frag} : BinOk K (rI0 fun i j => .int (i - j)) subD := by
  intro G S H w x y d e k Q hr rx ry kl h
  unfold subD at h
  split at h
  · cases rx; cases ry
    exact ⟨_, _, rfl, rfl, kl.here hr (.int _) h⟩
  · exact h.elim
def rMulD : R2 := fun x y H Q => (rI CMulX fun i j => .int (i * j)) x y H Q ∨ rRep x y H Q
theorem op_mulD {X : Cx} : OpR X (binaryOp .Mult) rMulD := op_mulX.or op_rep
theorem RepAll.rep {K : PySem.W.Frag} {G : Gh} {S : Hp} {xs : List V} {ds : List D} (h : RepAll K G S xs ds) : ∀ k : Nat, RepAll K G S (List.replicate k xs).flatten (List.replicate k ds).flatten
  | 0 => .nil
  | k + 1 => by
    rw [List.replicate_succ, List.replicate_succ, List.flatten_cons, List.flatten_cons]
    exact h.append (RepAll.rep h k)
theorem ok_mulD {K : PySem.W.Frag} : BinOk K rMulD mulD := by
  intro G S H w x y d e k Q hr rx ry kl h
  unfold mulD at h
  split at h
  · cases rx; cases ry
    exact .inl ⟨_, _, rfl, rfl, h.1, kl.here hr (.int _) h.2⟩
  · cases ry
    cases rx with
    | lst h1 r1 =>
      obtain ⟨z1, z2, z3, z4⟩ := h
      exact .inr ⟨_, _, _, rfl, rfl, hr.same _ _ h1, z1, z2, by rw [r1.length]; exact z3, kl.newL hr (r1.rep _) z4⟩
  · exact h.elim
theorem op_fdivX {X : Cx} : OpR X (binaryOp .FloorDiv) (rI (fun _ j => j ≠ 0 ∧ j.natAbs.log2 < 9000) fun i j => .int (i.fdiv j)) := opI fun i j _ _ _ _ _ hc q =>
  floordiv_int hc.1 q (.inl (PyProof.noPylong_of_log2 hc.2))
theorem ok_fdivD {K : PySem.W.Frag} : BinOk K (rI (fun _ j => j ≠ 0 ∧ j.natAbs.log2 < 9000) fun i j => .int (i.fdiv j)) fdivD := by
  intro G S H w x y d e k Q hr rx ry kl h
  unfold fdivD at h
  split at h
  · cases rx; cases ry
    exact ⟨_, _, rfl, rfl, h.1, kl.here hr (.int _) h.2⟩
  · exact h.elim
theorem ok_modD {K : PySem.W.Frag} : BinOk K (rI (fun _ j => j ≠ 0) fun i j => .int (i.fmod j)) modD := by
  intro G S H w x y d e k Q hr rx ry kl h
  unfold modD at h
  split at h
  · cases rx; cases ry
    exact ⟨_, _, rfl, rfl, h.1, kl.here hr (.int _) h.2⟩
  · exact h.elim
theorem ok_powD {K : PySem.W.Frag} : BinOk K (rI CPow fun i j => .int (i ^ j.toNat)) powD := by
  intro G S H w x y d e k Q hr rx ry kl h
  unfold powD at h
  split at h
  · cases rx; cases ry
    exact ⟨_, _, rfl, rfl, h.1, kl.here hr (.int _) h.2⟩
  · exact h.elim
def rLtD : R2 := fun x y H Q => (rI0 fun i j => .bl (decide (i < j))) x y H Q ∨ (fun x y H Q => ∃ i j, x = .str i ∧ y = .str j ∧ Q (.bl (decide (i.cps.toList < j.cps.toList))) H : R2) x y H Q
theorem op_ltD {X : Cx} : OpR X (compareOp .Lt) rLtD := op_lt.or op_lt_str
theorem ok_ltD {K : PySem.W.Frag} : BinOk K rLtD ltD := by
  intro G S H w x y d e k Q hr rx ry kl h
  unfold ltD at h
  split at h
  · cases rx; cases ry
    exact .inl ⟨_, _, rfl, rfl, kl.here hr (.bl _) h⟩
  · cases rx; cases ry
    exact .inr ⟨_, _, rfl, rfl, kl.here hr (.bl _) h⟩
  · exact h.elim
theorem ok_leD {K : PySem.W.Frag} : BinOk K (rI0 fun i j => .bl (decide (i ≤ j))) leD := by
  intro G S H w x y d e k Q hr rx ry kl h
  unfold leD at h
  split at h
  · cases rx; cases ry
    exact ⟨_, _, rfl, rfl, kl.here hr (.bl _) h⟩
  · exact h.elim
theorem ok_gtD {K : PySem.W.Frag} : BinOk K (rI0 fun i j => .bl (decide (j < i))) gtD := by
  intro G S H w x y d e k Q hr rx ry kl h
  unfold gtD at h
  split at h
  · cases rx; cases ry
    exact ⟨_, _, rfl, rfl, kl.here hr (.bl _) h⟩
  · exact h.elim
theorem ok_geD {K : PySem.W.Frag} : BinOk K (rI0 fun i j => .bl (decide (j ≤ i))) geD := by
  intro G S H w x y d e k Q hr rx ry kl h
  unfold geD at h
  split at h
  · cases rx; cases ry
    exact ⟨_, _, rfl, rfl, kl.here hr (.bl _) h⟩
  · exact h.elim
theorem ok_eqD0 {K : PySem.W.Frag} : BinOk K (rEqD K) eqD0 := by
  intro G S H w x y d e k Q hr rx ry kl h
  unfold eqD0 at h
  split at h
  · rename_i p q e1 e2
    exact ⟨p, q, rep_dp hr.same rx e1, rep_dp hr.same ry e2, h.1, h.2.1, kl.here hr (.bl _) h.2.2⟩
  · exact h.elim
theorem ok_neD0 {K : PySem.W.Frag} : BinOk K (rNeD K) neD0 := by
  intro G S H w x y d e k Q hr rx ry kl h
  unfold neD0 at h
  split at h
  · rename_i p q e1 e2
    exact ⟨p, q, rep_dp hr.same rx e1, rep_dp hr.same ry e2, h.1, h.2.1, kl.here hr (.bl _) h.2.2⟩
  · exact h.elim
def rEqS (K : PySem.W.Frag) : R2 := fun x y H Q => rEq x y H Q ∨ rEqD K x y H Q
def rNeS (K : PySem.W.Frag) : R2 := fun x y H Q => rNe x y H Q ∨ rNeD K x y H Q
theorem dec_strV {s t : Str} : decide (V.str s = V.str t) = decide (s = t) := by
  rw [Bool.eq_iff_iff]
  simp
theorem ok_eqD {K : PySem.W.Frag} : BinOk K (rEqS K) eqD := by
  intro G S H w x y d e k Q hr rx ry kl h
  unfold eqD at h
  split at h
  · cases rx; cases ry
    refine .inl ⟨rfl, ?_⟩
    rw [dec_strV]
    exact kl.here hr (.bl _) h
  · exact .inr (ok_eqD0 hr rx ry kl h)
theorem ok_neD {K : PySem.W.Frag} : BinOk K (rNeS K) neD := by
  intro G S H w x y d e k Q hr rx ry kl h
  unfold neD at h
  split at h
  · cases rx; cases ry
    refine .inl ⟨rfl, ?_⟩
    rw [dec_strV]
    exact kl.here hr (.bl _) h
  · exact .inr (ok_neD0 hr rx ry kl h)
theorem rep_non {K : PySem.W.Frag} {G : Gh} {S : Hp} {v : V} {d : D} (r : Rep K G S v d) : decide (v = .non) = isNonD d := by
  cases r
  case ob h => cases v <;> first | rfl | cases h
  all_goals rfl
theorem ok_isD {K : PySem.W.Frag} : BinOk K (fun x y H Q => y = .non ∧ Q (.bl (decide (x = .non))) H) isD := by
  intro G S H w x y d e k Q hr rx ry kl h
  unfold isD at h
  split at h
  · cases ry
    refine ⟨rfl, ?_⟩
    rw [rep_non rx]
    exact kl.here hr (.bl _) h
  · exact h.elim
theorem ok_isnotD {K : PySem.W.Frag} : BinOk K (fun x y H Q => y = .non ∧ Q (.bl (!decide (x = .non))) H) isnotD := by
  intro G S H w x y d e k Q hr rx ry kl h
  unfold isnotD at h
  split at h
  · cases ry
    refine ⟨rfl, ?_⟩
    rw [rep_non rx]
    exact kl.here hr (.bl _) h
  · exact h.elim

section
variable {X : Cx} {E : XK} {a b c : Expr} {ga gb gc : GE} {pos : Pos}
theorem de_add (ha : DE X E a ga) (hb : DE X E b gb) : DE X E (.BinOp a .Add b pos) (gBin addD ga gb) := de_bin op_addD ok_addD ha hb
theorem de_sub (ha : DE X E a ga) (hb : DE X E b gb) : DE X E (.BinOp a .Sub b pos) (gBin subD ga gb) := de_bin op_sub ok_subD ha hb
theorem de_mul (ha : DE X E a ga) (hb : DE X E b gb) : DE X E (.BinOp a .Mult b pos) (gBin mulD ga gb) := de_bin op_mulD ok_mulD ha hb
theorem de_fdiv (ha : DE X E a ga) (hb : DE X E b gb) : DE X E (.BinOp a .FloorDiv b pos) (gBin fdivD ga gb) := de_bin op_fdivX ok_fdivD ha hb
theorem de_mod (ha : DE X E a ga) (hb : DE X E b gb) : DE X E (.BinOp a .Mod b pos) (gBin modD ga gb) := de_bin op_modN ok_modD ha hb
theorem de_pow (ha : DE X E a ga) (hb : DE X E b gb) : DE X E (.BinOp a .Pow b pos) (gBin powD ga gb) := de_bin op_pow ok_powD ha hb
theorem de_lt (ha : DE X E a ga) (hb : DE X E b gb) : DE X E (.Compare a [.Lt] [b] pos) (gBin ltD ga gb) := de_cmp op_ltD ok_ltD ha hb (nomark _)
theorem de_le (ha : DE X E a ga) (hb : DE X E b gb) : DE X E (.Compare a [.LtE] [b] pos) (gBin leD ga gb) := de_cmp op_le ok_leD ha hb (nomark _)
theorem de_gt (ha : DE X E a ga) (hb : DE X E b gb) : DE X E (.Compare a [.Gt] [b] pos) (gBin gtD ga gb) := de_cmp op_gt ok_gtD ha hb (nomark _)
theorem de_ge (ha : DE X E a ga) (hb : DE X E b gb) : DE X E (.Compare a [.GtE] [b] pos) (gBin geD ga gb) := de_cmp op_ge ok_geD ha hb (nomark _)
theorem de_eq {k : Nat} (hr : Room k X.A) (ha : DE X E a ga) (hb : DE X E b gb) : DE X E (.Compare a [.Eq] [b] pos) (gBin eqD ga gb) := de_cmp (op_eq.or (op_eqD hr.units)) ok_eqD ha hb (nomark _)
theorem de_ne {k : Nat} (hr : Room k X.A) (ha : DE X E a ga) (hb : DE X E b gb) : DE X E (.Compare a [.NotEq] [b] pos) (gBin neD ga gb) := de_cmp (op_ne.or (op_neD hr.units)) ok_neD ha hb (nomark _)
theorem de_is (ha : DE X E a ga) (hb : DE X E b gb) : DE X E (.Compare a [.Is] [b] pos) (gBin isD ga gb) := de_cmp op_isN ok_isD ha hb (nomark _)
theorem de_isnot (ha : DE X E a ga) (hb : DE X E b gb) : DE X E (.Compare a [.IsNot] [b] pos) (gBin isnotD ga gb) := de_cmp op_notN ok_isnotD ha hb (nomark _)
/-- a op1 b op2 c -/
def gChain (f f' : F2) (ga gb gc : GE) : GE := fun ρ w kx k => ga ρ w kx fun x w1 => gb ρ w1 kx fun y w2 => f x y w2 fun z w3 => match z with
  | .bl true => gc ρ w3 kx fun u w4 => f' y u w4 k
  | .bl false => k (.bl false) w3
  | _ => False
theorem de_chain {op op' : CmpOp} {r r' : R2} {f f' : F2} (ho : OpR X (compareOp op) r) (hf : BinOk X.K r f) (ho' : OpR X (compareOp op') r') (hf' : BinOk X.K r' f') (ha : DE X E a ga) (hb : DE X E b gb) (hc : DE X E c gc)
    (hm : lastMarks [op, op'] [b, c] = false := by with_unfolding_all rfl) : DE X E (.Compare a [op, op'] [b, c] pos) (gChain f f' ga gb gc) := by
  refine pe_imp (pe_chain ho ho' ha hb hc hm) ?_
  rintro σ H Q ⟨G, S, ρ, w, kx, k, hr, sr, xl, kl, h⟩
  refine ⟨G, S, ρ, w, kx, _, hr, sr, xl, fun G1 S1 H1 w1 d x x1 hr1 rp h1 => ⟨G1, S1, ρ, w1, kx, _, hr1, sr.mono x1, xl.mono x1, fun G2 S2 H2 w2 e y x2 hr2 rp2 h2 => hf hr2 (rp.mono x2) rp2 (k := fun z w3 => match z with
    | .bl true => gc ρ w3 kx fun u w4 => f' e u w4 k
    | .bl false => k (.bl false) w3
    | _ => False) ?_ h2, h1⟩, h⟩
  intro G3 S3 H3 w3 z v x3 hr3 rp3 h3
  cases z with
  | bl q =>
    cases rp3
    cases q with
    | false => exact ⟨false, rfl, (kl.mono ((x1.trans x2).trans x3)).here hr3 (.bl _) h3⟩
    | true => exact ⟨true, rfl, G3, S3, ρ, w3, kx, _, hr3, sr.mono ((x1.trans x2).trans x3), xl.mono ((x1.trans x2).trans x3), fun G4 S4 H4 w4 u v' x4 hr4 rp4 h4 => hf' hr4 ((rp2.mono x3).mono x4) rp4 (kl.mono (((x1.trans x2).trans x3).trans x4)) h4, h3⟩
  | _ => exact h3.elim
/-- -a, not a -/
def negD : D → Wd → KD → Prop := fun x w k => match x with
  | .int i => k (.int (-i)) w
  | _ => False
def gUn (f : D → Wd → KD → Prop) (ga : GE) : GE := fun ρ w kx k => ga ρ w kx fun x w1 => f x w1 k
theorem de_neg (ha : DE X E a ga) : DE X E (.UnaryOp .USub a pos) (gUn negD ga) := by
  refine pe_imp (pe_un un_neg ha) ?_
  rintro σ H Q ⟨G, S, ρ, w, kx, k, hr, sr, xl, kl, h⟩
  refine ⟨G, S, ρ, w, kx, _, hr, sr, xl, fun G1 S1 H1 w1 d x x1 hr1 rp h1 => ?_, h⟩
  unfold negD at h1
  split at h1
  · cases rp
    exact ⟨_, rfl, (kl.mono x1).here hr1 (.int _) h1⟩
  · exact h1.elim
end

/-! ### tests -/
def gB (g : GE) : GT := fun ρ w kx k => g ρ w kx fun x w1 => match x with
  | .bl b => k b w1
  | _ => False
section
variable {X : Cx} {E : XK} {a b c : Expr} {ga gb gc : GE} {ta tb tc : GT} {pos : Pos} {rest : List Expr}
theorem b_up {K : PySem.W.Frag} {g : GE} : ∀ σ H Q, upT K E (gB g) σ H Q → tB (upE K E g) σ H Q := by
  rintro σ H Q ⟨G, S, ρ, w, kx, k, hr, sr, xl, kl, h⟩
  refine ⟨G, S, ρ, w, kx, _, hr, sr, xl, fun G1 S1 H1 w1 d x x1 hr1 rp h1 => ?_, h⟩
  split at h1
  · cases rp
    exact ⟨_, rfl, kl _ _ _ _ _ x1 hr1 h1⟩
  · exact h1.elim
theorem dt_val {e : Expr} {g : GE} (h : DE X E e g) (he : ∀ whole, isTrue e X.env whole = (do let v ← whole; standAt e.pos; holding [v] (truthy v)) := by intro _; rfl) : DT X E e (gB g) := pt_imp (pt_val h he) b_up
theorem dt_cmp {op : CmpOp} {r : R2} {f : F2} (ho : OpR X (compareOp op) r) (hf : BinOk X.K r f) (ha : DE X E a ga) (hb : DE X E b gb) (hm : behindInMarks op b = false) : DT X E (.Compare a [op] [b] pos) (gB (gBin f ga gb)) := by
  refine pt_imp (pt_cmpR ho ha hb hm) ?_
  rintro σ H Q ⟨G, S, ρ, w, kx, k, hr, sr, xl, kl, h⟩
  refine ⟨G, S, ρ, w, kx, _, hr, sr, xl, fun G1 S1 H1 w1 d x x1 hr1 rp h1 => ⟨G1, S1, ρ, w1, kx, _, hr1, sr.mono x1, xl.mono x1, fun G2 S2 H2 w2 e y x2 hr2 rp2 h2 => hf hr2 (rp.mono x2) rp2 (k := fun x w1 => match x with
    | .bl b => k b w1
    | _ => False) ?_ h2, h1⟩, h⟩
  intro G3 S3 H3 w3 z v x3 hr3 rp3 h3
  cases z with
  | bl q =>
    cases rp3
    exact ⟨q, rfl, kl _ _ _ _ _ ((x1.trans x2).trans x3) hr3 h3⟩
  | _ => exact h3.elim
theorem dt_lt (ha : DE X E a ga) (hb : DE X E b gb) : DT X E (.Compare a [.Lt] [b] pos) (gB (gBin ltD ga gb)) := dt_cmp op_ltD ok_ltD ha hb (nomark _)
theorem dt_le (ha : DE X E a ga) (hb : DE X E b gb) : DT X E (.Compare a [.LtE] [b] pos) (gB (gBin leD ga gb)) := dt_cmp op_le ok_leD ha hb (nomark _)
theorem dt_gt (ha : DE X E a ga) (hb : DE X E b gb) : DT X E (.Compare a [.Gt] [b] pos) (gB (gBin gtD ga gb)) := dt_cmp op_gt ok_gtD ha hb (nomark _)
theorem dt_ge (ha : DE X E a ga) (hb : DE X E b gb) : DT X E (.Compare a [.GtE] [b] pos) (gB (gBin geD ga gb)) := dt_cmp op_ge ok_geD ha hb (nomark _)
theorem dt_eq {k : Nat} (hr : Room k X.A) (ha : DE X E a ga) (hb : DE X E b gb) : DT X E (.Compare a [.Eq] [b] pos) (gB (gBin eqD ga gb)) := dt_cmp (op_eq.or (op_eqD hr.units)) ok_eqD ha hb (nomark _)
theorem dt_ne {k : Nat} (hr : Room k X.A) (ha : DE X E a ga) (hb : DE X E b gb) : DT X E (.Compare a [.NotEq] [b] pos) (gB (gBin neD ga gb)) := dt_cmp (op_ne.or (op_neD hr.units)) ok_neD ha hb (nomark _)
theorem dt_is (ha : DE X E a ga) (hb : DE X E b gb) : DT X E (.Compare a [.Is] [b] pos) (gB (gBin isD ga gb)) := dt_cmp op_isN ok_isD ha hb (nomark _)
theorem dt_isnot (ha : DE X E a ga) (hb : DE X E b gb) : DT X E (.Compare a [.IsNot] [b] pos) (gB (gBin isnotD ga gb)) := dt_cmp op_notN ok_isnotD ha hb (nomark _)
theorem dt_chain {op op' : CmpOp} {r r' : R2} {f f' : F2} (ho : OpR X (compareOp op) r) (hf : BinOk X.K r f) (ho' : OpR X (compareOp op') r') (hf' : BinOk X.K r' f') (ha : DE X E a ga) (hb : DE X E b gb) (hc : DE X E c gc)
    (hm : lastMarks [op, op'] [b, c] = false := by with_unfolding_all rfl) : DT X E (.Compare a [op, op'] [b, c] pos) (gB (gChain f f' ga gb gc)) := by
  refine pt_imp (pt_chain ho ho' ha hb hc hm) ?_
  rintro σ H Q ⟨G, S, ρ, w, kx, k, hr, sr, xl, kl, h⟩
  refine ⟨G, S, ρ, w, kx, _, hr, sr, xl, fun G1 S1 H1 w1 d x x1 hr1 rp h1 => ⟨G1, S1, ρ, w1, kx, _, hr1, sr.mono x1, xl.mono x1, fun G2 S2 H2 w2 e y x2 hr2 rp2 h2 => hf hr2 (rp.mono x2) rp2 (k := fun z w3 => match z with
    | .bl true => gc ρ w3 kx fun u w4 => f' e u w4 fun x w1 => match x with
      | .bl b => k b w1
      | _ => False
    | .bl false => k false w3
    | _ => False) ?_ h2, h1⟩, h⟩
  intro G3 S3 H3 w3 z v x3 hr3 rp3 h3
  have x03 := (x1.trans x2).trans x3
  cases z with
  | bl q =>
    cases rp3
    cases q with
    | false => exact ⟨false, rfl, false, rfl, kl _ _ _ _ _ x03 hr3 h3⟩
    | true => exact ⟨true, rfl, G3, S3, ρ, w3, kx, _, hr3, sr.mono x03, xl.mono x03, fun G4 S4 H4 w4 u v' x4 hr4 rp4 h4 => hf' hr4 ((rp2.mono x3).mono x4) rp4 (k := fun x w1 => match x with
      | .bl b => k b w1
      | _ => False) (fun G5 S5 H5 w5 z5 v5 x5 hr5 rp5 h5 => by
        cases z5 with
        | bl q5 =>
          cases rp5
          exact ⟨q5, rfl, kl _ _ _ _ _ ((x03.trans x4).trans x5) hr5 h5⟩
        | _ => exact h5.elim) h4, h3⟩
  | _ => exact h3.elim
/-- truth of any value -/
def truD : D → Wd → KB → Prop := fun x w k => match x with
  | .non => k false w
  | .bl b => k b w
  | .int i => k (i != 0) w
  | .str y => y.length ≤ sizeLine ∧ k ((y.length : Int) != 0) w
  | .lst xs => k (!xs.isEmpty) w
  | .tup xs => k (!xs.isEmpty) w
  | _ => False
def gTru (g : GE) : GT := fun ρ w kx k => g ρ w kx fun x w1 => truD x w1 k
theorem rep_isEmpty {K : PySem.W.Frag} {G : Gh} {S : Hp} {xs : List V} {ds : List D} (r : RepAll K G S xs ds) : ds.isEmpty = xs.isEmpty := by
  cases r <;> rfl
theorem dt_truth (ha : DE X E a ga) (he : ∀ whole, isTrue a X.env whole = (do let v ← whole; standAt a.pos; holding [v] (truthy v)) := by intro _; rfl) : DT X E a (gTru ga) := by
  refine pt_imp (pt_truth ha he) ?_
  rintro σ H Q ⟨G, S, ρ, w, kx, k, hr, sr, xl, kl, h⟩
  refine ⟨G, S, ρ, w, kx, _, hr, sr, xl, fun G1 S1 H1 w1 d x x1 hr1 rp h1 => ?_, h⟩
  cases rp with
  | non => exact ⟨_, rfl, kl _ _ _ _ _ x1 hr1 h1⟩
  | bl b => exact ⟨_, rfl, kl _ _ _ _ _ x1 hr1 h1⟩
  | int i => exact ⟨_, rfl, kl _ _ _ _ _ x1 hr1 h1⟩
  | str y => exact ⟨_, ⟨h1.1, rfl⟩, kl _ _ _ _ _ x1 hr1 h1.2⟩
  | lst e r => exact ⟨_, .inl ⟨_, .inl (.inl (hr1.same _ _ e)), rfl⟩, by rw [← rep_isEmpty r]; exact kl _ _ _ _ _ x1 hr1 h1⟩
  | tup e r => exact ⟨_, .inr (.inl ⟨_, .inl (.inl (hr1.same _ _ e)), rfl⟩), by rw [← rep_isEmpty r]; exact kl _ _ _ _ _ x1 hr1 h1⟩
  | rf _ => exact h1.elim
  | st _ => exact h1.elim
  | ob _ => exact h1.elim
  | scr _ => exact h1.elim
def gAnd (t u : GT) : GT := fun ρ w kx k => t ρ w kx fun c w1 => if c = true then u ρ w1 kx k else k false w1
def gOr (t u : GT) : GT := fun ρ w kx k => t ρ w kx fun c w1 => if c = true then k true w1 else u ρ w1 kx k
def gNot (t : GT) : GT := fun ρ w kx k => t ρ w kx fun c w1 => k (!c) w1
theorem dw_and1 (ha : DT X E a ta) : DW X E (.BoolOp .And [a] pos) ta := pw_and1 ha
theorem dw_or1 (ha : DT X E a ta) : DW X E (.BoolOp .Or [a] pos) ta := pw_or1 ha
theorem dw_and (ha : DT X E a ta) (hb : DW X E (.BoolOp .And (b :: rest) pos) tb) : DW X E (.BoolOp .And (a :: b :: rest) pos) (gAnd ta tb) := by
  refine pw_imp (pw_and ha hb) ?_
  rintro σ H Q ⟨G, S, ρ, w, kx, k, hr, sr, xl, kl, h⟩
  refine ⟨G, S, ρ, w, kx, _, hr, sr, xl, fun G1 S1 H1 w1 c x1 hr1 h1 => ?_, h⟩
  cases c with
  | true => exact iteT ⟨G1, S1, ρ, w1, kx, k, hr1, sr.mono x1, xl.mono x1, kl.mono x1, by simpa using h1⟩
  | false => exact iteF (kl _ _ _ _ _ x1 hr1 (by simpa using h1))
theorem dw_or (ha : DT X E a ta) (hb : DW X E (.BoolOp .Or (b :: rest) pos) tb) : DW X E (.BoolOp .Or (a :: b :: rest) pos) (gOr ta tb) := by
  refine pw_imp (pw_or ha hb) ?_
  rintro σ H Q ⟨G, S, ρ, w, kx, k, hr, sr, xl, kl, h⟩
  refine ⟨G, S, ρ, w, kx, _, hr, sr, xl, fun G1 S1 H1 w1 c x1 hr1 h1 => ?_, h⟩
  cases c with
  | false => exact iteF ⟨G1, S1, ρ, w1, kx, k, hr1, sr.mono x1, xl.mono x1, kl.mono x1, by simpa using h1⟩
  | true => exact iteT (kl _ _ _ _ _ x1 hr1 (by simpa using h1))
theorem dt_w (h : DW X E a ta) : DT X E a ta := PW.pt h
theorem dt_not (ha : DT X E a ta) : DT X E (.UnaryOp .Not a pos) (gNot ta) := by
  refine pt_imp (pt_not ha) ?_
  rintro σ H Q ⟨G, S, ρ, w, kx, k, hr, sr, xl, kl, h⟩
  exact ⟨G, S, ρ, w, kx, _, hr, sr, xl, fun G1 S1 H1 w1 c x1 hr1 h1 => kl _ _ _ _ _ x1 hr1 h1, h⟩
/-- and, or, not as values of truths -/
def gAndV (ga gb : GE) : GE := fun ρ w kx k => ga ρ w kx fun x w1 => match x with
  | .bl true => gb ρ w1 kx k
  | .bl false => k (.bl false) w1
  | _ => False
def gOrV (ga gb : GE) : GE := fun ρ w kx k => ga ρ w kx fun x w1 => match x with
  | .bl true => k (.bl true) w1
  | .bl false => gb ρ w1 kx k
  | _ => False
def gNotV (ga : GE) : GE := fun ρ w kx k => ga ρ w kx fun x w1 => match x with
  | .bl b => k (.bl (!b)) w1
  | _ => False
theorem de_one {op} (h : DE X E a ga) : DE X E (.BoolOp op [a] pos) ga := pe_one h
theorem de_and (ha : DE X E a ga) (hb : DE X E (.BoolOp .And (b :: rest) pos) gb) : DE X E (.BoolOp .And (a :: b :: rest) pos) (gAndV ga gb) := by
  refine pe_imp (pe_and ha hb) ?_
  rintro σ H Q ⟨G, S, ρ, w, kx, k, hr, sr, xl, kl, h⟩
  refine ⟨G, S, ρ, w, kx, _, hr, sr, xl, fun G1 S1 H1 w1 d x x1 hr1 rp h1 => ?_, h⟩
  cases rp with
  | bl q =>
    cases q with
    | true => exact ⟨true, rfl, iteT ⟨G1, S1, ρ, w1, kx, k, hr1, sr.mono x1, xl.mono x1, kl.mono x1, h1⟩⟩
    | false => exact ⟨false, rfl, iteF ((kl.mono x1).here hr1 (.bl _) h1)⟩
  | _ => exact h1.elim
theorem de_or (ha : DE X E a ga) (hb : DE X E (.BoolOp .Or (b :: rest) pos) gb) : DE X E (.BoolOp .Or (a :: b :: rest) pos) (gOrV ga gb) := by
  refine pe_imp (pe_or ha hb) ?_
  rintro σ H Q ⟨G, S, ρ, w, kx, k, hr, sr, xl, kl, h⟩
  refine ⟨G, S, ρ, w, kx, _, hr, sr, xl, fun G1 S1 H1 w1 d x x1 hr1 rp h1 => ?_, h⟩
  cases rp with
  | bl q =>
    cases q with
    | false => exact ⟨false, rfl, iteF ⟨G1, S1, ρ, w1, kx, k, hr1, sr.mono x1, xl.mono x1, kl.mono x1, h1⟩⟩
    | true => exact ⟨true, rfl, iteT ((kl.mono x1).here hr1 (.bl _) h1)⟩
  | _ => exact h1.elim
theorem de_not (ha : DE X E a ga) : DE X E (.UnaryOp .Not a pos) (gNotV ga) := by
  refine pe_imp (pe_not ha) ?_
  rintro σ H Q ⟨G, S, ρ, w, kx, k, hr, sr, xl, kl, h⟩
  refine ⟨G, S, ρ, w, kx, _, hr, sr, xl, fun G1 S1 H1 w1 d x x1 hr1 rp h1 => ?_, h⟩
  cases rp with
  | bl q => exact ⟨q, rfl, (kl.mono x1).here hr1 (.bl _) h1⟩
  | _ => exact h1.elim
def gIf (t : GT) (ga gb : GE) : GE := fun ρ w kx k => t ρ w kx fun c w1 => if c = true then ga ρ w1 kx k else gb ρ w1 kx k
theorem de_ifExp {t : GT} (hc : DT X E c t) (ha : DE X E a ga) (hb : DE X E b gb) : DE X E (.IfExp c a b pos) (gIf t ga gb) := by
  refine pe_imp (pe_ifExp hc ha hb) ?_
  rintro σ H Q ⟨G, S, ρ, w, kx, k, hr, sr, xl, kl, h⟩
  refine ⟨G, S, ρ, w, kx, _, hr, sr, xl, fun G1 S1 H1 w1 c x1 hr1 h1 => ?_, h⟩
  cases c with
  | true => exact iteT ⟨G1, S1, ρ, w1, kx, k, hr1, sr.mono x1, xl.mono x1, kl.mono x1, by simpa using h1⟩
  | false => exact iteF ⟨G1, S1, ρ, w1, kx, k, hr1, sr.mono x1, xl.mono x1, kl.mono x1, by simpa using h1⟩
end
end DL

namespace DL
open PySem PySem.Spec PyProof.Rows L2

/-! ### arguments, displays -/
def gaNil : GA := fun _ w _ k => k [] w
def gaCons (g : GE) (r : GA) : GA := fun ρ w kx k => g ρ w kx fun x w1 => r ρ w1 kx fun xs w2 => k (x :: xs) w2
def gTup (t : GA) : GE := fun ρ w kx k => t ρ w kx fun xs w1 => xs.length ≤ sizeLine ∧ k (.tup xs) w1
def gLst (t : GA) : GE := fun ρ w kx k => t ρ w kx fun xs w1 => xs.length ≤ sizeLine ∧ k (.lst xs) w1
/-- a list that may change -/
def gLstC (t : GA) : GE := fun ρ w kx k => t ρ w kx fun xs w1 => xs.length ≤ sizeLine ∧ k (.rf w1.M.length) ⟨w1.M ++ [.lst xs], w1.n⟩
section
variable {X : Cx} {E : XK} {e : Expr} {es : List Expr} {g : GE} {t : GA} {pos : Pos}
theorem da_nil : DA X E [] gaNil := pa_imp pa_nil (by
  rintro σ H Q ⟨G, S, ρ, w, kx, k, hr, sr, xl, kl, h⟩
  exact kl _ _ _ _ _ _ (Ext.refl _ _) hr .nil h)
theorem da_cons (ha : DE X E e g) (hr : DA X E es t) (hs : starEach (e :: es) X.env = (false, eval e X.env) :: starEach es X.env := by rfl) : DA X E (e :: es) (gaCons g t) := by
  refine pa_imp (pa_cons ha hr hs) ?_
  rintro σ H Q ⟨G, S, ρ, w, kx, k, hr, sr, xl, kl, h⟩
  exact ⟨G, S, ρ, w, kx, _, hr, sr, xl, fun G1 S1 H1 w1 d x x1 hr1 rp h1 => ⟨G1, S1, ρ, w1, kx, _, hr1, sr.mono x1, xl.mono x1, fun G2 S2 H2 w2 ds xs x2 hr2 rp2 h2 => kl _ _ _ _ _ _ (x1.trans x2) hr2 (.cons (rp.mono x2) rp2) h2, h1⟩, h⟩
theorem de_tup {x1} (h : DA X E es t) : DE X E (.Tuple es x1 pos) (gTup t) := by
  refine pe_imp (pe_tup h) ?_
  rintro σ H Q ⟨G, S, ρ, w, kx, k, hr, sr, xl, kl, h⟩
  exact ⟨G, S, ρ, w, kx, _, hr, sr, xl, fun G1 S1 H1 w1 ds xs x1 hr1 rp h1 => ⟨by rw [rp.length]; exact h1.1, (kl.mono x1).newT hr1 rp h1.2⟩, h⟩
theorem de_lst (h : DA X E es t) : DE X E (.List es pos) (gLst t) := by
  refine pe_imp (pe_lst h) ?_
  rintro σ H Q ⟨G, S, ρ, w, kx, k, hr, sr, xl, kl, h⟩
  exact ⟨G, S, ρ, w, kx, _, hr, sr, xl, fun G1 S1 H1 w1 ds xs x1 hr1 rp h1 => ⟨by rw [rp.length]; exact h1.1, (kl.mono x1).newL hr1 rp h1.2⟩, h⟩
/-- a new cell -/
theorem KL.newCL {K : PySem.W.Frag} {G : Gh} {S H : Hp} {w : Wd} {k : KD} {Q : VK} {xs : List V} {ds : List D} (kl : KL K G S k Q) (hr : HR K G S w H) (r : RepAll K G S xs ds) (h : k (.rf w.M.length) ⟨w.M ++ [.lst ds], w.n⟩) : ∀ p, H p = none → Q (.ref p) (upd H p (.lst xs)) := fun p hp => by
  have x : Ext G S ⟨G.al ++ [p], G.st, G.fr⟩ S := ⟨⟨[p], rfl⟩, fun _ z => z, fun _ z => z, Same.refl S⟩
  obtain ⟨h1, _⟩ := hr.newC hp (.lst xs) (.lst ds) ⟨hr.freshS hp, xs, upd_same, r.mono x⟩
  refine kl _ _ _ _ _ _ x h1 (.rf ?_) h
  show (G.al ++ [p])[w.M.length]? = some p
  rw [List.getElem?_append_right (by rw [hr.len]; exact Nat.le_refl _), hr.len, Nat.sub_self]
  rfl
theorem de_lstC (h : DA X E es t) : DE X E (.List es pos) (gLstC t) := by
  refine pe_imp (pe_lst h) ?_
  rintro σ H Q ⟨G, S, ρ, w, kx, k, hr, sr, xl, kl, h⟩
  exact ⟨G, S, ρ, w, kx, _, hr, sr, xl, fun G1 S1 H1 w1 ds xs x1 hr1 rp h1 => ⟨by rw [rp.length]; exact h1.1, (kl.mono x1).newCL hr1 rp h1.2⟩, h⟩
/-- a changeable list that changes no more -/
def gFrz (g : GE) : GE := fun ρ w kx k => g ρ w kx fun x w1 => match x with
  | .rf i => match w1.M[i]? with
    | some (.lst ds) => k (.lst ds) ⟨w1.M.set i .dead, w1.n⟩
    | _ => False
  | _ => False
theorem de_frz (h : DE X E e g) : DE X E e (gFrz g) := by
  refine pe_imp h ?_
  rintro σ H Q ⟨G, S, ρ, w, kx, k, hr, sr, xl, kl, h⟩
  refine ⟨G, S, ρ, w, kx, _, hr, sr, xl, fun G1 S1 H1 w1 d x x1 hr1 rp h1 => ?_, h⟩
  cases rp with
  | rf ha =>
    rename_i a i
    simp only at h1
    split at h1
    · rename_i ds e2
      obtain ⟨S2, hr2, x2, rp2⟩ := hr1.freeze ha e2
      exact kl _ _ _ _ _ _ (x1.trans x2) hr2 rp2 h1
    · exact h1.elim
  | _ => exact h1.elim
end

/-! ### what a list or tuple holds -/
def seqD (d : D) (w : Wd) : Option (List D) := match d with
  | .lst xs => some xs
  | .tup xs => some xs
  | .rf c => match w.M[c]? with
    | some (.lst xs) => some xs
    | _ => none
  | _ => none
theorem rep_seq {K : PySem.W.Frag} {G : Gh} {S H : Hp} {w : Wd} {v : V} {d : D} {ds : List D} (hr : HR K G S w H) (r : Rep K G S v d) (h : seqD d w = some ds) :
    ∃ a xs, v = .ref a ∧ (SqL K H a xs ∨ SqT K H a xs) ∧ RepAll K G S xs ds := by
  cases r with
  | lst e r => cases h; exact ⟨_, _, rfl, .inl (.inl (.inl (hr.same _ _ e))), r⟩
  | tup e r => cases h; exact ⟨_, _, rfl, .inr (.inl (.inl (hr.same _ _ e))), r⟩
  | rf e =>
    rename_i a i
    unfold seqD at h
    simp only at h
    split at h
    · rename_i xs e2
      cases h
      obtain ⟨_, ys, h1, h2⟩ := hr.cell i a _ e e2
      exact ⟨_, _, rfl, .inl (.inl (.inl h1)), h2⟩
    · cases h
  | _ => cases h
theorem rep_at {K : PySem.W.Frag} {G : Gh} {S : Hp} {xs : List V} {ds : List D} {i : Int} {d : D} (r : RepAll K G S xs ds) (h : atI ds i = some d) : ∃ v, atI xs i = some v ∧ Rep K G S v d := by
  unfold atI at h ⊢
  rw [r.length]
  cases e : ixN ds.length i with
  | none => rw [e] at h; cases h
  | some j =>
    rw [e] at h
    exact r.get h
def ixD : F2 := fun x y w k => match y with
  | .int i => match x with
    | .str z => z.length ≤ sizeLine ∧ match atI z.cps.toList i with
      | some c => k (.str ⟨#[c]⟩) w
      | none => False
    | _ => match seqD x w with
      | some ds => match atI ds i with
        | some d => k d w
        | none => False
      | none => False
  | _ => False
theorem ok_ixD {K : PySem.W.Frag} : BinOk K (rIx K) ixD := by
  intro G S H w x y d e k Q hr rx ry kl h
  cases ry with
  | int i =>
    have seq : (match seqD d w with
      | some ds => match atI ds i with
        | some d => k d w
        | none => False
      | none => False) → rIx K x (.int i) H Q := fun h => by
      split at h
      · rename_i ds e1
        split at h
        · rename_i d2 e2
          obtain ⟨a, xs, rfl, hs, r⟩ := rep_seq hr rx e1
          obtain ⟨v, h1, h2⟩ := rep_at r e2
          rcases hs with hs | hs
          · exact .inl ⟨_, _, _, _, rfl, rfl, hs, h1, kl.here hr h2 h⟩
          · exact .inr (.inl ⟨_, _, _, _, rfl, rfl, hs, h1, kl.here hr h2 h⟩)
        · exact h.elim
      · exact h.elim
    cases rx with
    | str z =>
      obtain ⟨h1, h⟩ := h
      split at h
      · rename_i c e2
        exact .inr (.inr ⟨_, _, _, rfl, rfl, h1, e2, kl.here hr (.str _) h⟩)
      · exact h.elim
    | lst e1 r => exact seq h
    | tup e1 r => exact seq h
    | rf e1 => exact seq h
    | _ => exact h.elim
  | _ => exact h.elim
section
variable {X : Cx} {E : XK} {a b : Expr} {ga gb : GE} {pos : Pos}
theorem de_ix (ha : DE X E a ga) (hb : DE X E b gb) (hs : PlainIx b := by exact fun _ _ => rfl) : DE X E (.Subscript a b pos) (gBin ixD ga gb) := pe_imp (pe_ix ix_seq ha hb hs) (bin_up ok_ixD)
end
/-! ### slices of lists and tuples -/
abbrev GO := Rho → Wd → KX → (Option Int → Wd → Prop) → Prop
def upO (K : PySem.W.Frag) (E : XK) (g : GO) : TO := fun σ H Q => ∃ G S ρ w kx k, HR K G S w H ∧ SR K G S σ ρ ∧ XL K G S kx E ∧ (∀ G' S' H' w' o, Ext G S G' S' → HR K G' S' w' H' → k o w' → Q o H') ∧ g ρ w kx k
def DO (X : Cx) (E : XK) (e : Option Expr) (g : GO) : Prop := PO X e (upO X.K E g)
def goNone : GO := fun _ w _ k => k none w
def goSome (g : GE) : GO := fun ρ w kx k => g ρ w kx fun x w1 => match x with
  | .int i => k (some i) w1
  | _ => False
def cutD {α : Type} (xs : List α) (lo hi : Option Int) : List α := (xs.drop (HT.sIx xs.length 0 lo)).take (HT.sIx xs.length xs.length hi - HT.sIx xs.length 0 lo)
def slD : D → Option Int → Option Int → Wd → KD → Prop := fun x lo hi w k => match x with
  | .lst ds => k (.lst (cutD ds lo hi)) w
  | .tup ds => ¬ (HT.sIx ds.length 0 lo = 0 ∧ HT.sIx ds.length ds.length hi = ds.length) ∧ k (.tup (cutD ds lo hi)) w
  | .rf i => match w.M[i]? with
    | some (.lst ds) => k (.lst (cutD ds lo hi)) w
    | _ => False
  | _ => False
def gSl (f : D → Option Int → Option Int → Wd → KD → Prop) (g : GE) (l h : GO) : GE := fun ρ w kx k => g ρ w kx fun x w1 => l ρ w1 kx fun lo w2 => h ρ w2 kx fun hi w3 => f x lo hi w3 k
def SlOk (K : PySem.W.Frag) (r : V → Option Int → Option Int → Hp → VK → Prop) (f : D → Option Int → Option Int → Wd → KD → Prop) : Prop := ∀ {G S H w x d lo hi k Q}, HR K G S w H → Rep K G S x d → KL K G S k Q → f d lo hi w k → r x lo hi H Q
theorem rep_cut {K : PySem.W.Frag} {G : Gh} {S : Hp} {xs : List V} {ds : List D} {lo hi : Option Int} (r : RepAll K G S xs ds) : RepAll K G S (cutV xs lo hi) (cutD ds lo hi) := by
  unfold cutV cutD
  rw [r.length]
  exact (r.drop _).take _
section
variable {X : Cx} {E : XK} {a b : Expr} {ga gb : GE} {gl gh : GO} {pos p2 : Pos} {lo hi : Option Expr}
theorem do_none : DO X E none goNone := by
  have h := po_none (X := X)
  refine ⟨fun pins s σ H Q I q => h.run pins s σ H Q I ?_⟩
  obtain ⟨G, S, ρ, w, kx, k, hr, sr, xl, kl, h⟩ := q
  exact kl _ _ _ _ _ (Ext.refl _ _) hr h
theorem do_some (ha : DE X E a ga) : DO X E (some a) (goSome ga) := by
  have h := po_some (X := X) ha
  refine ⟨fun pins s σ H Q I q => h.run pins s σ H Q I ?_⟩
  obtain ⟨G, S, ρ, w, kx, k, hr, sr, xl, kl, h⟩ := q
  refine ⟨G, S, ρ, w, kx, _, hr, sr, xl, fun G1 S1 H1 w1 d x x1 hr1 rp h1 => ?_, h⟩
  cases rp with
  | int i => exact ⟨i, rfl, kl _ _ _ _ _ x1 hr1 h1⟩
  | _ => exact h1.elim
theorem de_slice {r : V → Option Int → Option Int → Hp → VK → Prop} {f : D → Option Int → Option Int → Wd → KD → Prop} (hs : SlR X r) (hf : SlOk X.K r f) (he : DE X E a ga) (hl : DO X E lo gl) (hu : DO X E hi gh) : DE X E (.Subscript a (.Slice lo hi none p2) pos) (gSl f ga gl gh) := by
  refine pe_imp (pe_slice hs he hl hu) ?_
  rintro σ H Q ⟨G, S, ρ, w, kx, k, hr, sr, xl, kl, h⟩
  exact ⟨G, S, ρ, w, kx, _, hr, sr, xl, fun G1 S1 H1 w1 d x x1 hr1 rp h1 => ⟨G1, S1, ρ, w1, kx, _, hr1, sr.mono x1, xl.mono x1, fun G2 S2 H2 w2 l x2 hr2 h2 =>
    ⟨G2, S2, ρ, w2, kx, _, hr2, sr.mono (x1.trans x2), xl.mono (x1.trans x2), fun G3 S3 H3 w3 u x3 hr3 h3 => hf hr3 (rp.mono (x2.trans x3)) (kl.mono ((x1.trans x2).trans x3)) h3, h2⟩, h1⟩, h⟩
def rSlLT (K : PySem.W.Frag) : V → Option Int → Option Int → Hp → VK → Prop := fun x lo hi H Q => rSlL K x lo hi H Q ∨ rSlT K x lo hi H Q
theorem sl_LT : SlR X (rSlLT X.K) := sl_list.or sl_tup
theorem ok_slLT {K : PySem.W.Frag} : SlOk K (rSlLT K) slD := by
  intro G S H w x d lo hi k Q hr rx kl h
  cases rx with
  | lst e r => exact .inl ⟨_, _, rfl, .inl (.inl (hr.same _ _ e)), kl.newL hr (rep_cut r) h⟩
  | tup e r => exact .inr ⟨_, _, rfl, .inl (.inl (hr.same _ _ e)), by rw [r.length]; exact h.1, kl.newT hr (rep_cut r) h.2⟩
  | rf e =>
    unfold slD at h
    simp only at h
    split at h
    · rename_i xs e2
      obtain ⟨_, ys, h1, h2⟩ := hr.cell _ _ _ e e2
      exact .inl ⟨_, _, rfl, .inl (.inl h1), kl.newL hr (rep_cut h2) h⟩
    · exact h.elim
  | _ => exact h.elim
theorem de_sl (he : DE X E a ga) (hl : DO X E lo gl) (hu : DO X E hi gh) : DE X E (.Subscript a (.Slice lo hi none p2) pos) (gSl slD ga gl gh) := de_slice sl_LT ok_slLT he hl hu
end
end DL

namespace DL
open PySem PySem.Spec PyProof.Rows L2

/-! ### defs -/
abbrev GF := List D → Wd → KX → KD → Prop
abbrev noX : KX := fun _ _ => False
def upF (n : Nat) (K : PySem.W.Frag) (g : GF) : Sp := fun vs H Q E => ∃ G S ds w kx k, ds.length = n ∧ HR K G S w H ∧ RepAll K G S vs ds ∧ XL K G S kx E ∧ KL K G S k Q ∧ g ds w kx k
theorem up_imp {n : Nat} {K : PySem.W.Frag} {g g' : GF} (h : ∀ ds w kx k, g' ds w kx k → g ds w kx k) : ∀ vs H Q E, upF n K g' vs H Q E → upF n K g vs H Q E := by
  rintro vs H Q E ⟨G, S, ds, w, kx, k, h1, h2, h3, h4, h5, h6⟩
  exact ⟨G, S, ds, w, kx, k, h1, h2, h3, h4, h5, h _ _ _ _ h6⟩
theorem xl_no {K : PySem.W.Frag} {G : Gh} {S : Hp} {E : XK} : XL K G S noX E := fun _ _ _ _ _ _ _ _ _ _ h => h.elim
def rho (n : Nat) (ds : List D) : Rho := ds.map some ++ List.replicate (n - ds.length) none
def sem0 (n : Nat) (g : GS) : GF := fun ds w _ k => g { nx := fun _ w' => k .non w', rt := k, ex := noX } (rho n ds) w
def semX (n : Nat) (g : GS) : GF := fun ds w kx k => g { nx := fun _ w' => k .non w', rt := k, ex := kx } (rho n ds) w
theorem sr_start {K : PySem.W.Frag} {G : Gh} {S : Hp} {N : List Str} : ∀ {vs : List V} {ds : List D}, RepAll K G S vs ds → SR K G S (L2.start N vs) (rho N.length ds) := by
  intro vs ds r
  have l := r.length
  refine ⟨by simp [L2.start, rho, l], fun i d e => ?_⟩
  unfold rho at e
  by_cases hi : i < ds.length
  · rw [List.getElem?_append_left (by simpa using hi)] at e
    have e' : ds[i]? = some d := by
      rw [List.getElem?_map] at e
      cases q : ds[i]? with
      | none => rw [q] at e; cases e
      | some z => rw [q] at e; simpa using e
    obtain ⟨v, h1, h2⟩ := r.get e'
    refine ⟨v, ?_, h2⟩
    unfold L2.start
    rw [List.getElem?_append_left (by simpa [l] using hi), List.getElem?_map, h1]
    rfl
  · rw [List.getElem?_append_right (by simpa using Nat.le_of_not_lt hi)] at e
    have := List.mem_of_getElem? e
    rw [List.mem_replicate] at this
    cases this.2
structure DefAt (K : PySem.W.Frag) (mg : Str → Option Value) (x : Str) (st : Stmt) (ps : List Str) : Prop where
  ex : ∃ f fd, Fun K x x st f fd ∧ mg x = some (.ref f) ∧ Binds K fd ps []
structure FnAt (P : Program) (w : World) (K : PySem.W.Frag) (mg : Str → Option Value) (base : Heap) (CX : CXT) (k : Nat) (x : Str) (n : Nat) (g : GF) : Prop where
  ex : ∃ f fd ps, FnOk P w K mg base CX k f fd ps (upF n K g) ∧ mg x = some (.ref f) ∧ PySem.W.keepIn K (.ref f) = true ∧ Binds K fd ps []
section
variable {P : Program} {w : World} {K : PySem.W.Frag} {mg : Str → Option Value} {base : Heap}
theorem FnAt.imp {CX : CXT} {k : Nat} {x : Str} {n : Nat} {g g' : GF} (h : FnAt P w K mg base CX k x n g) (i : ∀ ds w kx k, g' ds w kx k → g ds w kx k) : FnAt P w K mg base CX k x n g' := by
  obtain ⟨f, fd, ps, h1, h2⟩ := h.ex
  exact ⟨f, fd, ps, h1.imp (up_imp i), h2⟩
theorem FnAt.mono {CX : CXT} {j k : Nat} {x : Str} {n : Nat} {g : GF} (h : FnAt P w K mg base CX j x n g) (i : j ≤ k) : FnAt P w K mg base CX k x n g := by
  obtain ⟨f, fd, ps, h1, h2⟩ := h.ex
  exact ⟨f, fd, ps, h1.mono i, h2⟩
theorem fun_fn0 {x : Str} {st : Stmt} {f : Addr} {fd : FuncData} {N ps : List Str} {k : Nat} {g : GS} (F : Fun K x x st f fd) (S : FnScope N ps (defScope st))
    (hbody : ∀ (f : Addr) (cdv : Value) (A : Around) (outer : List Env) (s : Shared) (H : Hp) (E : XK), Room k (A.deeper (envOfC x (defScope st) s.heap.objs.size f cdv)) →
      DSs (cxOf CX0 P w K mg base N x (defScope st) f cdv A outer s H E).nox E0 (defBody st) g) : FnOk P w K mg base CX0 (k + 1) f fd ps (upF ps.length K (sem0 N.length g)) := by
  refine F.ok S (fun vs H Q E h => ?_) (fun cdv A outer s H vs Q E hr h => ?_)
  · obtain ⟨G, S, ds, w, kx, k, h1, h2, h3, _⟩ := h
    rw [h3.length, h1]
  · obtain ⟨G, S1, ds, w1, kx, k1, h1, h2, h3, h4, h5, h6⟩ := h
    refine ⟨_, hbody f cdv A outer s H E hr, G, S1, rho N.length ds, w1, { nx := fun _ w' => k1 .non w', rt := k1, ex := noX }, h2, sr_start h3, ⟨fun G' S' H' w' ρ' σ' x1 hr1 _ hk => h5 _ _ _ _ _ _ x1 hr1 .non hk, h5, ?_, ?_, xl_no⟩, h6⟩
    · intro _ _ _ _ _ _ _ _ _ z
      exact z.elim
    · intro _ _ _ _ _ _ _ _ _ z
      exact z.elim
theorem DefAt.fn0 {x : Str} {st : Stmt} {N ps : List Str} {k : Nat} {g : GS} (T : DefAt K mg x st ps) (S : FnScope N ps (defScope st))
    (hbody : ∀ (f : Addr) (cdv : Value) (A : Around) (outer : List Env) (s : Shared) (H : Hp) (E : XK), Room k (A.deeper (envOfC x (defScope st) s.heap.objs.size f cdv)) →
      DSs (cxOf CX0 P w K mg base N x (defScope st) f cdv A outer s H E).nox E0 (defBody st) g) : FnAt P w K mg base CX0 (k + 1) x ps.length (sem0 N.length g) := by
  obtain ⟨f, fd, F, hm, hb⟩ := T.ex
  exact ⟨f, fd, ps, fun_fn0 F S hbody, hm, F.kp, hb⟩
/-- by a proof of the def's own -/
theorem DefAt.mk0 {x : Str} {st : Stmt} {ps : List Str} {k n : Nat} {g : GF} (T : DefAt K mg x st ps) (h : ∀ f fd, Fun K x x st f fd → FnOk P w K mg base CX0 k f fd ps (upF n K g)) : FnAt P w K mg base CX0 k x n g := by
  obtain ⟨f, fd, F, hm, hb⟩ := T.ex
  exact ⟨f, fd, ps, h f fd F, hm, F.kp, hb⟩
end
section
variable {X : Cx} {E : XK} {k n : Nat} {g : GF} {x : Str} {e : Expr} {es : List Expr} {ga : GA} {p pos : Pos}
def gCall0 (n : Nat) (g : GF) (ga : GA) : GE := fun ρ w kx k => ga ρ w kx fun ds w1 => ds.length = n ∧ g ds w1 noX k
theorem de_call0 {j : Nat} (F : FnAt X.prog X.w X.K X.mg X.base CX0 j x n g) (hr : Room k X.A) (hg : Gl X x) (ha : DA X E (e :: es) ga) (hjk : j ≤ k := by decide) (hdb : (x == ("__debug__" : Str)) = false := by decide) (he : starEach (e :: es) X.env = (false, eval e X.env) :: starEach es X.env := by rfl) (hpl : (backTo pos (starEach es X.env)).any (·.1) = false := by rfl) :
    DE X E (.Call (.Name x p) (e :: es) [] pos) (gCall0 n g ga) := by
  obtain ⟨f, fd, ps, h1, h2, h3, h4⟩ := F.ex
  refine pe_imp (pe_call h1 (hr.mono hjk) hg h2 h3 h4 .nil pass0 ha hdb he hpl) ?_
  rintro σ H Q ⟨G, S, ρ, w, kx, k, hr, sr, xl, kl, h⟩
  refine ⟨G, S, ρ, w, kx, _, hr, sr, xl, fun G1 S1 H1 w1 ds vs x1 hr1 rp hq => ?_, h⟩
  show upF n X.K g (vs ++ []) H1 Q E0
  rw [List.append_nil]
  exact ⟨G1, S1, ds, w1, noX, k, hq.1, hr1, rp, xl_no, kl.mono x1, hq.2⟩
theorem de_call00 {j : Nat} (F : FnAt X.prog X.w X.K X.mg X.base CX0 j x n g) (hr : Room k X.A) (hg : Gl X x) (hjk : j ≤ k := by decide) (hdb : (x == ("__debug__" : Str)) = false := by decide) :
    DE X E (.Call (.Name x p) [] [] pos) (gCall0 n g gaNil) := by
  obtain ⟨f, fd, ps, h1, h2, h3, h4⟩ := F.ex
  refine pe_imp (pe_call0 h1 (hr.mono hjk) hg h2 h3 h4 .nil pass0 hdb) ?_
  rintro σ H Q ⟨G, S, ρ, w, kx, k, hr, sr, xl, kl, h⟩
  exact ⟨G, S, [], w, noX, k, h.1, hr, .nil, xl_no, kl, h.2⟩
end

/-! ### built-ins -/
abbrev FB := List D → Wd → KD → Prop
def CallOk (K : PySem.W.Frag) (r : List V → Hp → VK → Prop) (f : FB) : Prop := ∀ {G S H w xs ds k Q}, HR K G S w H → RepAll K G S xs ds → KL K G S k Q → f ds w k → r xs H Q
def gCB (f : FB) (ga : GA) : GE := fun ρ w kx k => ga ρ w kx fun ds w1 => f ds w1 k
section
variable {X : Cx} {E : XK} {r : List V → Hp → VK → Prop} {f : FB} {id T : String} {x : Str} {e : Expr} {es : List Expr} {ga : GA} {p pos : Pos}
theorem cb_up {K : PySem.W.Frag} (hf : CallOk K r f) : ∀ σ H Q, upE K E (gCB f ga) σ H Q → tCB r (upA K E ga) σ H Q := by
  rintro σ H Q ⟨G, S, ρ, w, kx, k, hr, sr, xl, kl, h⟩
  exact ⟨G, S, ρ, w, kx, _, hr, sr, xl, fun G1 S1 H1 w1 ds vs x1 hr1 rp hq => hf hr1 rp (kl.mono x1) hq, h⟩
theorem de_cb (hc : CallR X (.builtin id) r) (hf : CallOk X.K r f) (hg : Gl X x) (hm : X.mg x = none) (hv : bootBuiltins x = some (.builtin id)) (ha : DA X E (e :: es) ga) (hn : x ≠ "__name__" := by decide) (hdb : (x == ("__debug__" : Str)) = false := by decide)
    (he : starEach (e :: es) X.env = (false, eval e X.env) :: starEach es X.env := by rfl) (hpl : (backTo pos (starEach es X.env)).any (·.1) = false := by rfl) : DE X E (.Call (.Name x p) (e :: es) [] pos) (gCB f ga) :=
  pe_imp (pe_callB hc hg hm hv ha hn hdb he hpl) (cb_up hf)
theorem de_ct (hc : CallR X (.type T) r) (hf : CallOk X.K r f) (hg : Gl X x) (hm : X.mg x = none) (hv : bootBuiltins x = some (.type T)) (ha : DA X E (e :: es) ga) (hn : x ≠ "__name__" := by decide) (hdb : (x == ("__debug__" : Str)) = false := by decide)
    (he : starEach (e :: es) X.env = (false, eval e X.env) :: starEach es X.env := by rfl) (hpl : (backTo pos (starEach es X.env)).any (·.1) = false := by rfl) : DE X E (.Call (.Name x p) (e :: es) [] pos) (gCB f ga) :=
  pe_imp (pe_callTy hc hg hm hv ha hn hdb he hpl) (cb_up hf)
end
theorem one_rep {K : PySem.W.Frag} {G : Gh} {S : Hp} {xs : List V} {d : D} (r : RepAll K G S xs [d]) : ∃ v, xs = [v] ∧ Rep K G S v d := by
  cases r with
  | cons h t => cases t; exact ⟨_, rfl, h⟩
theorem two_rep {K : PySem.W.Frag} {G : Gh} {S : Hp} {xs : List V} {d e : D} (r : RepAll K G S xs [d, e]) : ∃ v u, xs = [v, u] ∧ Rep K G S v d ∧ Rep K G S u e := by
  cases r with
  | cons h t =>
    obtain ⟨u, rfl, h2⟩ := one_rep t
    exact ⟨_, _, rfl, h, h2⟩
def fAbs : FB := fun ds w k => match ds with
  | [.int i] => k (.int i.natAbs) w
  | _ => False
theorem ok_abs {K : PySem.W.Frag} : CallOk K (fun xs H Q => ∃ i, xs = [.int i] ∧ Q (.int (if i < 0 then -i else i)) H) fAbs := by
  intro G S H w xs ds k Q hr rx kl h
  unfold fAbs at h
  split at h
  · rename_i i
    obtain ⟨v, rfl, r⟩ := one_rep rx
    cases r
    refine ⟨_, rfl, ?_⟩
    have e : (if i < 0 then -i else i) = (i.natAbs : Int) := by split <;> omega
    rw [e]
    exact kl.here hr (.int _) h
  · exact h.elim
def fLen : FB := fun ds w k => match ds with
  | [.str z] => z.length ≤ sizeLine ∧ k (.int z.length) w
  | [d] => match seqD d w with
    | some xs => k (.int xs.length) w
    | none => match d with
      | .rf c => match w.M[c]? with
        | some (.dk kvs) => k (.int kvs.length) w
        | _ => False
      | _ => False
  | _ => False
def rLen (K : PySem.W.Frag) : List V → Hp → VK → Prop := fun xs H Q => (∃ x n, xs = [x] ∧ LenV K x H n ∧ Q (.int n) H) ∨ (∃ (a : Addr) (kvs : List (Key × V)), xs = [V.ref a] ∧ Rd H a (.dK kvs) ∧ Q (.int kvs.length) H)
theorem call_lenR {X : Cx} : CallR X (.builtin "len") (rLen X.K) := by
  intro pins s σ H xs us Q I r h
  rcases h with h | ⟨a, kvs, rfl, hd, q⟩
  · exact call_len pins s σ H xs us Q I r h
  · obtain ⟨u, rfl, r1⟩ := vals1 r
    cases r1
    exact d_len I hd fun t s' I' => ⟨.int kvs.length, H, I', ⟨_, rfl⟩, q⟩
theorem fs_len {K : PySem.W.Frag} {G : Gh} {S : Hp} {κ : Type} {xs : List (κ × V)} {ds : List (κ × D)} (r : FsRep K G S xs ds) : xs.length = ds.length := Paired.length r
theorem ok_len {K : PySem.W.Frag} : CallOk K (rLen K) fLen := by
  intro G S H w xs ds k Q hr rx kl h
  unfold fLen at h
  split at h
  · obtain ⟨v, rfl, r⟩ := one_rep rx
    cases r
    exact .inl ⟨_, _, rfl, ⟨h.1, rfl⟩, kl.here hr (.int _) h.2⟩
  · rename_i d hd
    obtain ⟨v, rfl, r⟩ := one_rep rx
    split at h
    · rename_i xs e1
      obtain ⟨a, ys, rfl, hs, r2⟩ := rep_seq hr r e1
      refine .inl ⟨_, _, rfl, ?_, kl.here hr (.int _) h⟩
      rcases hs with hs | hs
      · exact .inl ⟨ys, hs, r2.length.symm⟩
      · exact .inr ⟨ys, hs, r2.length.symm⟩
    · split at h
      · rename_i c
        split at h
        · rename_i kvs e2
          cases r with
          | rf ha =>
            obtain ⟨_, ks, h1, h2⟩ := hr.cell _ _ _ ha e2
            refine .inr ⟨_, ks, rfl, .inl h1, ?_⟩
            rw [fs_len h2]
            exact kl.here hr (.int _) h
        · exact h.elim
      · exact h.elim
  · exact h.elim
def tyD (d : D) (w : Wd) : Option String := match d with
  | .non => some "NoneType"
  | .bl _ => some "bool"
  | .int _ => some "int"
  | .str _ => some "str"
  | .lst _ => some "list"
  | .tup _ => some "tuple"
  | .rf c => match w.M[c]? with
    | some (.lst _) => some "list"
    | some (.dk _) => some "dict"
    | _ => none
  | _ => none
theorem rep_ty {K : PySem.W.Frag} {G : Gh} {S H : Hp} {w : Wd} {v : V} {d : D} {t : String} (hr : HR K G S w H) (r : Rep K G S v d) (h : tyD d w = some t) : TyX K H v (.type t) := by
  cases r with
  | non => cases h; exact .base .non
  | bl b => cases h; exact .base (.bl b)
  | int b => cases h; exact .base (.int b)
  | str b => cases h; exact .base (.str b)
  | lst e r => cases h; exact .base (.lst (hr.same _ _ e))
  | tup e r => cases h; exact .base (.tup (hr.same _ _ e))
  | rf e =>
    unfold tyD at h
    simp only at h
    split at h
    · rename_i xs e2
      cases h
      obtain ⟨_, ys, h1, h2⟩ := hr.cell _ _ _ e e2
      exact .base (.lst h1)
    · rename_i xs e2
      cases h
      obtain ⟨_, ys, h1, h2⟩ := hr.cell _ _ _ e e2
      exact .base (.dK h1)
    · cases h
  | _ => cases h
def fIsi : FB := fun ds w k => match ds with
  | [x, .ob (.ty n)] => match tyD x w with
    | some t => match kitB t n with
      | some b => k (.bl b) w
      | none => False
    | none => False
  | _ => False
theorem ok_isi {K : PySem.W.Frag} : CallOk K (rIsi K) fIsi := by
  intro G S H w xs ds k Q hr rx kl h
  unfold fIsi at h
  split at h
  · rename_i x n
    split at h
    · rename_i t e1
      split at h
      · rename_i b e2
        obtain ⟨v, u, rfl, r1, r2⟩ := two_rep rx
        cases r2
        exact ⟨_, _, _, _, b, rfl, .ty n, rep_ty hr r1 e1, kit_ty e2, kl.here hr (.bl _) h⟩
      · exact h.elim
    · exact h.elim
  · exact h.elim
theorem kit_int_int : kitB "int" "int" = some true := by decide +kernel
theorem kit_bool_int : kitB "bool" "int" = some true := by decide +kernel
theorem kit_str_int : kitB "str" "int" = some false := by decide +kernel
theorem kit_non_int : kitB "NoneType" "int" = some false := by decide +kernel
theorem kit_list_int : kitB "list" "int" = some false := by decide +kernel
theorem kit_tuple_int : kitB "tuple" "int" = some false := by decide +kernel
theorem kit_dict_int : kitB "dict" "int" = some false := by decide +kernel
theorem kit_int_bool : kitB "int" "bool" = some false := by decide +kernel
theorem kit_bool_bool : kitB "bool" "bool" = some true := by decide +kernel
theorem kit_str_bool : kitB "str" "bool" = some false := by decide +kernel
theorem kit_non_bool : kitB "NoneType" "bool" = some false := by decide +kernel
theorem kit_list_bool : kitB "list" "bool" = some false := by decide +kernel
theorem kit_tuple_bool : kitB "tuple" "bool" = some false := by decide +kernel
theorem kit_dict_bool : kitB "dict" "bool" = some false := by decide +kernel
theorem kit_int_str : kitB "int" "str" = some false := by decide +kernel
theorem kit_bool_str : kitB "bool" "str" = some false := by decide +kernel
theorem kit_str_str : kitB "str" "str" = some true := by decide +kernel
theorem kit_non_str : kitB "NoneType" "str" = some false := by decide +kernel
theorem kit_list_str : kitB "list" "str" = some false := by decide +kernel
theorem kit_tuple_str : kitB "tuple" "str" = some false := by decide +kernel
theorem kit_dict_str : kitB "dict" "str" = some false := by decide +kernel
theorem kit_int_list : kitB "int" "list" = some false := by decide +kernel
theorem kit_bool_list : kitB "bool" "list" = some false := by decide +kernel
theorem kit_str_list : kitB "str" "list" = some false := by decide +kernel
theorem kit_non_list : kitB "NoneType" "list" = some false := by decide +kernel
theorem kit_list_list : kitB "list" "list" = some true := by decide +kernel
theorem kit_tuple_list : kitB "tuple" "list" = some false := by decide +kernel
theorem kit_dict_list : kitB "dict" "list" = some false := by decide +kernel
theorem kit_int_tuple : kitB "int" "tuple" = some false := by decide +kernel
theorem kit_bool_tuple : kitB "bool" "tuple" = some false := by decide +kernel
theorem kit_str_tuple : kitB "str" "tuple" = some false := by decide +kernel
theorem kit_non_tuple : kitB "NoneType" "tuple" = some false := by decide +kernel
theorem kit_list_tuple : kitB "list" "tuple" = some false := by decide +kernel
theorem kit_tuple_tuple : kitB "tuple" "tuple" = some true := by decide +kernel
theorem kit_dict_tuple : kitB "dict" "tuple" = some false := by decide +kernel

def allBl : List D → Option (List Bool)
  | [] => some []
  | .bl b :: r => match allBl r with
    | some bs => some (b :: bs)
    | none => none
  | _ => none
def allInt : List D → Option (List Int)
  | [] => some []
  | .int b :: r => match allInt r with
    | some bs => some (b :: bs)
    | none => none
  | _ => none
theorem rep_bls {K : PySem.W.Frag} {G : Gh} {S : Hp} : ∀ {ds : List D} {vs : List V} {bs : List Bool}, RepAll K G S vs ds → allBl ds = some bs → vs = bs.map V.bl
  | [], _, _, r, e => by
    cases r
    cases e
    rfl
  | d :: ds, _, _, r, e => by
    cases r with
    | cons h r =>
      cases d with
      | bl b =>
        cases h
        unfold allBl at e
        cases q : allBl ds with
        | none =>
          rw [q] at e
          cases e
        | some bs =>
          rw [q] at e
          cases e
          rw [rep_bls r q]
          rfl
      | _ => simp [allBl] at e
theorem rep_ints {K : PySem.W.Frag} {G : Gh} {S : Hp} : ∀ {ds : List D} {vs : List V} {bs : List Int}, RepAll K G S vs ds → allInt ds = some bs → vs = bs.map V.int
  | [], _, _, r, e => by
    cases r
    cases e
    rfl
  | d :: ds, _, _, r, e => by
    cases r with
    | cons h r =>
      cases d with
      | int b =>
        cases h
        unfold allInt at e
        cases q : allInt ds with
        | none =>
          rw [q] at e
          cases e
        | some bs =>
          rw [q] at e
          cases e
          rw [rep_ints r q]
          rfl
      | _ => simp [allInt] at e
def fAll : FB := fun ds w k => match ds with
  | [.lst xs] => match allBl xs with
    | some bs => k (.bl (bs.all id)) w
    | none => False
  | _ => False
def fAny : FB := fun ds w k => match ds with
  | [.lst xs] => match allBl xs with
    | some bs => k (.bl (bs.any id)) w
    | none => False
  | _ => False
theorem ok_all {K : PySem.W.Frag} : CallOk K (rAll K) fAll := by
  intro G S H w xs ds k Q hr rx kl h
  unfold fAll at h
  split at h
  · split at h
    · rename_i bs e
      obtain ⟨v, rfl, r⟩ := one_rep rx
      cases r with
      | lst h1 r1 =>
        have e2 := rep_bls r1 e
        subst e2
        exact ⟨_, bs, rfl, .inl (.inl (hr.same _ _ h1)), kl.here hr (.bl _) h⟩
    · exact h.elim
  · exact h.elim
theorem ok_any {K : PySem.W.Frag} : CallOk K (rAny K) fAny := by
  intro G S H w xs ds k Q hr rx kl h
  unfold fAny at h
  split at h
  · split at h
    · rename_i bs e
      obtain ⟨v, rfl, r⟩ := one_rep rx
      cases r with
      | lst h1 r1 =>
        have e2 := rep_bls r1 e
        subst e2
        exact ⟨_, bs, rfl, .inl (.inl (hr.same _ _ h1)), kl.here hr (.bl _) h⟩
    · exact h.elim
  · exact h.elim
def fSum : FB := fun ds w k => match ds with
  | [.lst xs] => match allInt xs with
    | some bs => k (.int bs.sum) w
    | none => False
  | _ => False
theorem ok_sum {K : PySem.W.Frag} : CallOk K (rSum K) fSum := by
  intro G S H w xs ds k Q hr rx kl h
  unfold fSum at h
  split at h
  · split at h
    · rename_i bs e
      obtain ⟨v, rfl, r⟩ := one_rep rx
      cases r with
      | lst h1 r1 =>
        have e2 := rep_ints r1 e
        subst e2
        exact ⟨_, bs, rfl, .inl (.inl (hr.same _ _ h1)), kl.here hr (.int _) h⟩
    · exact h.elim
  · exact h.elim
/-- list(..) a new list that won't change; tuple(..) -/
def fList : FB := fun ds w k => match ds with
  | [d] => match seqD d w with
    | some xs => k (.lst xs) w
    | none => False
  | _ => False
def fTuple : FB := fun ds w k => match ds with
  | [d] => match seqD d w with
    | some xs => k (.tup xs) w
    | none => False
  | _ => False
theorem ok_list {K : PySem.W.Frag} : CallOk K (fun xs H Q => ∃ p ys, xs = [.ref p] ∧ (SqL K H p ys ∨ SqT K H p ys) ∧ ∀ l, H l = none → Q (.ref l) (upd H l (.lst ys))) fList := by
  intro G S H w xs ds k Q hr rx kl h
  unfold fList at h
  split at h
  · split at h
    · rename_i bs e
      obtain ⟨v, rfl, r⟩ := one_rep rx
      obtain ⟨a, ys, rfl, hs, r2⟩ := rep_seq hr r e
      exact ⟨_, ys, rfl, hs, kl.newL hr r2 h⟩
    · exact h.elim
  · exact h.elim
theorem ok_tuple {K : PySem.W.Frag} : CallOk K (fun xs H Q => ∃ p ys, xs = [.ref p] ∧ ((SqL K H p ys ∧ ∀ l, H l = none → Q (.ref l) (upd H l (.tup ys))) ∨ (SqT K H p ys ∧ Q (.ref p) H))) fTuple := by
  intro G S H w xs ds k Q hr rx kl h
  unfold fTuple at h
  split at h
  · rename_i d
    split at h
    · rename_i bs e
      obtain ⟨v, rfl, r⟩ := one_rep rx
      cases r with
      | lst e1 r =>
        cases e
        exact ⟨_, _, rfl, .inl ⟨.inl (.inl (hr.same _ _ e1)), kl.newT hr r h⟩⟩
      | tup e1 r =>
        cases e
        exact ⟨_, _, rfl, .inr ⟨.inl (.inl (hr.same _ _ e1)), kl.here hr (.tup e1 r) h⟩⟩
      | rf e1 =>
        unfold seqD at e
        simp only at e
        split at e
        · rename_i xs e2
          cases e
          obtain ⟨_, ys, h1, h2⟩ := hr.cell _ _ _ e1 e2
          exact ⟨_, _, rfl, .inl ⟨.inl (.inl h1), kl.newT hr h2 h⟩⟩
        · cases e
      | _ => cases e
    · exact h.elim
  · exact h.elim
def fInt : FB := fun ds w k => match ds with
  | [.int i] => k (.int i) w
  | [.bl b] => k (.int (if b then 1 else 0)) w
  | _ => False
theorem ok_int {K : PySem.W.Frag} : CallOk K (fun xs H Q => (∃ i, xs = [.int i] ∧ Q (.int i) H) ∨ ∃ k, xs = [.bl k] ∧ Q (.int (if k then 1 else 0)) H) fInt := by
  intro G S H w xs ds k Q hr rx kl h
  unfold fInt at h
  split at h
  · obtain ⟨v, rfl, r⟩ := one_rep rx
    cases r
    exact .inl ⟨_, rfl, kl.here hr (.int _) h⟩
  · obtain ⟨v, rfl, r⟩ := one_rep rx
    cases r
    exact .inr ⟨_, rfl, kl.here hr (.int _) h⟩
  · exact h.elim
def fMin2 : FB := fun ds w k => match ds with
  | [.int i, .int j] => k (.int (if j < i then j else i)) w
  | _ => False
theorem ok_min2 {K : PySem.W.Frag} : CallOk K (fun xs H Q => ∃ i j, xs = [.int i, .int j] ∧ Q (.int (if j < i then j else i)) H) fMin2 := by
  intro G S H w xs ds k Q hr rx kl h
  unfold fMin2 at h
  split at h
  · obtain ⟨v, u, rfl, r1, r2⟩ := two_rep rx
    cases r1
    cases r2
    exact ⟨_, _, rfl, kl.here hr (.int _) h⟩
  · exact h.elim
structure Blt (mg : Str → Option Value) : Prop where
  abs_ : mg "abs" = none
  len_ : mg "len" = none
  isi_ : mg "isinstance" = none
  all_ : mg "all" = none
  any_ : mg "any" = none
  sum_ : mg "sum" = none
  list_ : mg "list" = none
  tuple_ : mg "tuple" = none
  int_ : mg "int" = none
  bool_ : mg "bool" = none
  str_ : mg "str" = none
  min_ : mg "min" = none
  max_ : mg "max" = none
  range_ : mg "range" = none
  zip_ : mg "zip" = none
  sorted_ : mg "sorted" = none
  enum_ : mg "enumerate" = none
  divmod_ : mg "divmod" = none
section
variable {X : Cx} {E : XK} {e : Expr} {es : List Expr} {ga : GA} {p pos : Pos} (B : Blt X.mg)
include B
theorem de_abs (hg : Gl X "abs") (ha : DA X E (e :: es) ga) (he : starEach (e :: es) X.env = (false, eval e X.env) :: starEach es X.env := by rfl) (hpl : (backTo pos (starEach es X.env)).any (·.1) = false := by rfl) : DE X E (.Call (.Name "abs" p) (e :: es) [] pos) (gCB fAbs ga) := de_cb call_abs ok_abs hg B.abs_ (by decide +kernel) ha (he := he) (hpl := hpl)
theorem de_len (hg : Gl X "len") (ha : DA X E (e :: es) ga) (he : starEach (e :: es) X.env = (false, eval e X.env) :: starEach es X.env := by rfl) (hpl : (backTo pos (starEach es X.env)).any (·.1) = false := by rfl) : DE X E (.Call (.Name "len" p) (e :: es) [] pos) (gCB fLen ga) := de_cb call_lenR ok_len hg B.len_ (by decide +kernel) ha (he := he) (hpl := hpl)
theorem de_isi (hg : Gl X "isinstance") (ha : DA X E (e :: es) ga) (he : starEach (e :: es) X.env = (false, eval e X.env) :: starEach es X.env := by rfl) (hpl : (backTo pos (starEach es X.env)).any (·.1) = false := by rfl) : DE X E (.Call (.Name "isinstance" p) (e :: es) [] pos) (gCB fIsi ga) := de_cb call_isi ok_isi hg B.isi_ (by decide +kernel) ha (he := he) (hpl := hpl)
theorem de_all (hc : X.calm = true) (hg : Gl X "all") (ha : DA X E (e :: es) ga) (he : starEach (e :: es) X.env = (false, eval e X.env) :: starEach es X.env := by rfl) (hpl : (backTo pos (starEach es X.env)).any (·.1) = false := by rfl) : DE X E (.Call (.Name "all" p) (e :: es) [] pos) (gCB fAll ga) := de_cb (cr_all hc) ok_all hg B.all_ (by decide +kernel) ha (he := he) (hpl := hpl)
theorem de_any (hc : X.calm = true) (hg : Gl X "any") (ha : DA X E (e :: es) ga) (he : starEach (e :: es) X.env = (false, eval e X.env) :: starEach es X.env := by rfl) (hpl : (backTo pos (starEach es X.env)).any (·.1) = false := by rfl) : DE X E (.Call (.Name "any" p) (e :: es) [] pos) (gCB fAny ga) := de_cb (cr_any hc) ok_any hg B.any_ (by decide +kernel) ha (he := he) (hpl := hpl)
theorem de_sum (hc : X.calm = true) (hg : Gl X "sum") (ha : DA X E (e :: es) ga) (he : starEach (e :: es) X.env = (false, eval e X.env) :: starEach es X.env := by rfl) (hpl : (backTo pos (starEach es X.env)).any (·.1) = false := by rfl) : DE X E (.Call (.Name "sum" p) (e :: es) [] pos) (gCB fSum ga) := de_cb (cr_sum hc) ok_sum hg B.sum_ (by decide +kernel) ha (he := he) (hpl := hpl)
theorem de_list (hg : Gl X "list") (ha : DA X E (e :: es) ga) (he : starEach (e :: es) X.env = (false, eval e X.env) :: starEach es X.env := by rfl) (hpl : (backTo pos (starEach es X.env)).any (·.1) = false := by rfl) : DE X E (.Call (.Name "list" p) (e :: es) [] pos) (gCB fList ga) := de_ct call_list_of ok_list hg B.list_ (by decide +kernel) ha (he := he) (hpl := hpl)
theorem de_tuple (hg : Gl X "tuple") (ha : DA X E (e :: es) ga) (he : starEach (e :: es) X.env = (false, eval e X.env) :: starEach es X.env := by rfl) (hpl : (backTo pos (starEach es X.env)).any (·.1) = false := by rfl) : DE X E (.Call (.Name "tuple" p) (e :: es) [] pos) (gCB fTuple ga) := de_ct call_tuple_of ok_tuple hg B.tuple_ (by decide +kernel) ha (he := he) (hpl := hpl)
theorem de_toint (hg : Gl X "int") (ha : DA X E (e :: es) ga) (he : starEach (e :: es) X.env = (false, eval e X.env) :: starEach es X.env := by rfl) (hpl : (backTo pos (starEach es X.env)).any (·.1) = false := by rfl) : DE X E (.Call (.Name "int" p) (e :: es) [] pos) (gCB fInt ga) := de_ct call_int1 ok_int hg B.int_ (by decide +kernel) ha (he := he) (hpl := hpl)
theorem de_min2 (hc : X.calm = true) (hg : Gl X "min") (ha : DA X E (e :: es) ga) (he : starEach (e :: es) X.env = (false, eval e X.env) :: starEach es X.env := by rfl) (hpl : (backTo pos (starEach es X.env)).any (·.1) = false := by rfl) : DE X E (.Call (.Name "min" p) (e :: es) [] pos) (gCB fMin2 ga) := de_cb (call_min2 hc) ok_min2 hg B.min_ (by decide +kernel) ha (he := he) (hpl := hpl)
end
end DL

namespace DL
open PySem PySem.Spec PyProof.Rows L2

/-! ### statements -/
def gNext : GS := fun F ρ w => F.nx ρ w
def gSeq (t u : GS) : GS := fun F ρ w => t { F with nx := u F } ρ w
/-- what holds between the two is said -/
def gCut (t u : GS) : GS := fun F ρ w => ∃ M : Rho → Wd → Prop, t { F with nx := M } ρ w ∧ ∀ ρ w, M ρ w → u F ρ w
def gBreak : GS := fun F ρ w => F.bk ρ w
def gCont : GS := fun F ρ w => F.ct ρ w
def gDrop (g : GE) : GS := fun F ρ w => g ρ w F.ex fun _ w1 => F.nx ρ w1
def gRet (g : GE) : GS := fun F ρ w => g ρ w F.ex F.rt
def gRetN : GS := fun F _ w => F.rt .non w
def gIfS (c : GT) (t u : GS) : GS := fun F ρ w => c ρ w F.ex fun b w1 => if b = true then t F ρ w1 else u F ρ w1
def gNever : GS := fun _ _ _ => False
section
variable {X : Cx} {E : XK} {st : Stmt} {rest : List Stmt} {t u : GS} {e : Expr} {g : GE} {pos : Pos}
theorem el_seq {K : PySem.W.Frag} {G : Gh} {S : Hp} {F : DEnds} {D : Ends} (el : EL K G S E F D) (u : GS) : EL K G S E { F with nx := u F } { D with nx := upS K E u D } :=
  ⟨fun G1 S1 H1 w1 ρ1 σ1 x1 hr1 sr1 h1 => ⟨G1, S1, ρ1, w1, F, hr1, sr1, el.mono x1, h1⟩, el.rt, el.bk, el.ct, el.ex⟩
theorem dss_nil : DSs X E [] gNext := pss_imp pss_nil (by
  rintro D σ H ⟨G, S, ρ, w, F, hr, sr, el, h⟩
  exact el.nx _ _ _ _ _ _ (Ext.refl _ _) hr sr h)
theorem dss_cons (h1 : DS X E st t) (h2 : DSs X E rest u) : DSs X E (st :: rest) (gSeq t u) := pss_imp (pss_cons h1 h2) (by
  rintro D σ H ⟨G, S, ρ, w, F, hr, sr, el, h⟩
  exact ⟨G, S, ρ, w, { F with nx := u F }, hr, sr, el_seq el u, h⟩)
theorem dss_cut (h1 : DS X E st t) (h2 : DSs X E rest u) : DSs X E (st :: rest) (gCut t u) := pss_imp (pss_cons h1 h2) (by
  rintro D σ H ⟨G, S, ρ, w, F, hr, sr, el, M, h, hM⟩
  exact ⟨G, S, ρ, w, { F with nx := M }, hr, sr, ⟨fun G1 S1 H1 w1 ρ1 σ1 x1 hr1 sr1 h1 => ⟨G1, S1, ρ1, w1, F, hr1, sr1, el.mono x1, hM _ _ h1⟩, el.rt, el.bk, el.ct, el.ex⟩, h⟩)
theorem dss_one (h1 : DS X E st t) : DSs X E [st] t := pss_one h1
theorem ds_pass : DS X E (.Pass pos) gNext := ps_imp ps_pass (by
  rintro D σ H ⟨G, S, ρ, w, F, hr, sr, el, h⟩
  exact el.nx _ _ _ _ _ _ (Ext.refl _ _) hr sr h)
theorem ds_break : DS X E (.Break pos) gBreak := ps_imp ps_break (by
  rintro D σ H ⟨G, S, ρ, w, F, hr, sr, el, h⟩
  exact el.bk _ _ _ _ _ _ (Ext.refl _ _) hr sr h)
theorem ds_continue : DS X E (.Continue pos) gCont := ps_imp ps_continue (by
  rintro D σ H ⟨G, S, ρ, w, F, hr, sr, el, h⟩
  exact el.ct _ _ _ _ _ _ (Ext.refl _ _) hr sr h)
theorem ds_doc {x : Str} {j p2} : DS X E (.Expr (.Constant (.str x) j p2) pos) gNext := ps_imp ps_doc (by
  rintro D σ H ⟨G, S, ρ, w, F, hr, sr, el, h⟩
  exact el.nx _ _ _ _ _ _ (Ext.refl _ _) hr sr h)
theorem ds_expr (he : DE X E e g) (hs : swapsWith e none pos.line X.env = pure false := by rfl) : DS X E (.Expr e pos) (gDrop g) := ps_imp (ps_expr he hs) (by
  rintro D σ H ⟨G, S, ρ, w, F, hr, sr, el, h⟩
  exact ⟨G, S, ρ, w, F.ex, _, hr, sr, el.ex, fun G1 S1 H1 w1 d v x1 hr1 _ h1 => el.nx _ _ _ _ _ _ x1 hr1 (sr.mono x1) h1, h⟩)
theorem ds_ret (he : DE X E e g) : DS X E (.Return (some e) pos) (gRet g) := ps_imp (ps_ret he) (by
  rintro D σ H ⟨G, S, ρ, w, F, hr, sr, el, h⟩
  exact ⟨G, S, ρ, w, F.ex, F.rt, hr, sr, el.ex, el.rt, h⟩)
theorem ds_retN : DS X E (.Return none pos) gRetN := ps_imp ps_retN (by
  rintro D σ H ⟨G, S, ρ, w, F, hr, sr, el, h⟩
  exact el.rt _ _ _ _ _ _ (Ext.refl _ _) hr .non h)
theorem ds_if {c : Expr} {a b : List Stmt} {tc : GT} (hc : DT X E c tc) (ha : DSs X E a t) (hb : DSs X E b u) : DS X E (.If c a b pos) (gIfS tc t u) := ps_imp (ps_if hc ha hb) (by
  rintro D σ H ⟨G, S, ρ, w, F, hr, sr, el, h⟩
  refine ⟨G, S, ρ, w, F.ex, _, hr, sr, el.ex, fun G1 S1 H1 w1 c x1 hr1 h1 => ?_, h⟩
  cases c with
  | true => exact iteT ⟨G1, S1, ρ, w1, F, hr1, sr.mono x1, el.mono x1, by simpa using h1⟩
  | false => exact iteF ⟨G1, S1, ρ, w1, F, hr1, sr.mono x1, el.mono x1, by simpa using h1⟩)
theorem ds_never : DS X E st gNever := ps_imp ps_never (by
  rintro D σ H ⟨G, S, ρ, w, F, hr, sr, el, h⟩
  exact h.elim)
theorem dss_never {sts : List Stmt} : DSs X E sts gNever := pss_imp pss_never (by
  rintro D σ H ⟨G, S, ρ, w, F, hr, sr, el, h⟩
  exact h.elim)
end

/-! ### targets -/
abbrev GG := D → Rho → Wd → (Rho → Wd → Prop) → Prop
abbrev GGs := List D → Rho → Wd → (Rho → Wd → Prop) → Prop
def OffOk (vs : List Nat) (σ σ' : L2.St) : Prop := σ'.length = σ.length ∧ ∀ i, i ∉ vs → σ'[i]? = σ[i]?
def NLv (K : PySem.W.Frag) (G : Gh) (S : Hp) (vs : List Nat) (σ : L2.St) (k : Rho → Wd → Prop) (Q : L2.St → Hp → Prop) : Prop := ∀ G' S' H' w' ρ' σ', Ext G S G' S' → HR K G' S' w' H' → SR K G' S' σ' ρ' → OffOk vs σ σ' → k ρ' w' → Q σ' H'
def upG (K : PySem.W.Frag) (vs : List Nat) (g : GG) : TG := fun v σ H Q => ∃ G S ρ w d k, HR K G S w H ∧ SR K G S σ ρ ∧ Rep K G S v d ∧ NLv K G S vs σ k Q ∧ g d ρ w k
def upGs (K : PySem.W.Frag) (vs : List Nat) (g : GGs) : TGs := fun v σ H Q => ∃ G S ρ w d k, HR K G S w H ∧ SR K G S σ ρ ∧ RepAll K G S v d ∧ NLv K G S vs σ k Q ∧ g d ρ w k
def DG (X : Cx) (vs : List Nat) (e : Expr) (g : GG) : Prop := PG X e (upG X.K vs g)
def DGs (X : Cx) (vs : List Nat) (e : List Expr) (g : GGs) : Prop := PGs X e (upGs X.K vs g)
def ggName (i : Nat) : GG := fun d ρ w k => k (ρ.set i (some d)) w
def ggNil : GGs := fun ds ρ w k => ds = [] ∧ k ρ w
def ggCons (t : GG) (u : GGs) : GGs := fun ds ρ w k => match ds with
  | d :: r => t d ρ w fun ρ1 w1 => u r ρ1 w1 k
  | [] => False
def ggTup (n : Nat) (t : GGs) : GG := fun d ρ w k => match d with
  | .tup ds => ds.length = n ∧ t ds ρ w k
  | _ => False
section
variable {X : Cx} {E : XK} {pos : Pos}
theorem pg_imp {e : Expr} {t t' : TG} (h : PG X e t) (i : ∀ v σ H Q, t' v σ H Q → t v σ H Q) : PG X e t' := ⟨fun pins s σ H v u Q I r q => h.run pins s σ H v u Q I r (i _ _ _ _ q)⟩
theorem pgs_imp {e : List Expr} {t t' : TGs} (h : PGs X e t) (i : ∀ v σ H Q, t' v σ H Q → t v σ H Q) : PGs X e t' := ⟨fun pins s σ H v u Q I r q => h.run pins s σ H v u Q I r (i _ _ _ _ q)⟩
theorem dg_name {i : Nat} {x : Str} (hN : X.N.Nodup) (hi : X.N[i]? = some x) (hx : Loc X.env.scope x) (hf : X.fn x = true ∨ X.env.scope.names.lookup x = some .local := by first | exact .inl rfl | exact .inr rfl | assumption) : DG X [i] (.Name x pos) (ggName i) := pg_imp (pg_name hN hi hx hf) (by
  rintro v σ H Q ⟨G, S, ρ, w, d, k, hr, sr, rp, nl, h⟩
  refine nl _ _ _ _ _ _ (Ext.refl _ _) hr (sr.set rp i) ⟨by simp, fun j hj => ?_⟩ h
  rw [List.getElem?_set_ne]
  simpa using fun z => hj (by simp [z]))
theorem dgs_nil : DGs X [] [] ggNil := pgs_imp pgs_nil (by
  rintro v σ H Q ⟨G, S, ρ, w, d, k, hr, sr, rp, nl, h⟩
  obtain ⟨e, h⟩ := h
  subst e
  cases rp
  exact ⟨rfl, nl _ _ _ _ _ _ (Ext.refl _ _) hr sr ⟨rfl, fun _ _ => rfl⟩ h⟩)
theorem dgs_cons {e : Expr} {es : List Expr} {vs us : List Nat} {t : GG} {u : GGs} (h1 : DG X vs e t) (h2 : DGs X us es u)
    (hs : (assignEach (e :: es) X.env).map (·.2) = assign e X.env :: (assignEach es X.env).map (·.2) := by rfl) : DGs X (vs ++ us) (e :: es) (ggCons t u) := pgs_imp (pgs_cons h1 h2 hs) (by
  rintro v σ H Q ⟨G, S, ρ, w, d, k, hr, sr, rp, nl, h⟩
  cases rp with
  | nil => exact h.elim
  | cons r0 rr =>
    refine ⟨_, _, rfl, G, S, ρ, w, _, _, hr, sr, r0, fun G1 S1 H1 w1 ρ1 σ1 x1 hr1 sr1 off1 h1 => ⟨G1, S1, ρ1, w1, _, k, hr1, sr1, rr.mono x1, fun G2 S2 H2 w2 ρ2 σ2 x2 hr2 sr2 off2 h2 => nl _ _ _ _ _ _ (x1.trans x2) hr2 sr2 ⟨off2.1.trans off1.1, fun i hi => ?_⟩ h2, h1⟩, h⟩
    rw [List.mem_append, not_or] at hi
    exact (off2.2 i hi.2).trans (off1.2 i hi.1))
theorem dg_tup {es : List Expr} {j : Nat} {t : GGs} {vs : List Nat} {n : Nat} (hc : X.calm = true) (h : DGs X vs es t)
    (hn : (assignEach es X.env).length = n := by rfl) (hst : (assignEach es X.env).findIdx? (·.1) = none := by rfl) : DG X vs (.Tuple es j pos) (ggTup n t) := pg_imp (pg_tup hc h hn hst) (by
  rintro v σ H Q ⟨G, S, ρ, w, d, k, hr, sr, rp, nl, h⟩
  cases rp with
  | tup e r => exact ⟨_, _, rfl, .inl (.inl (hr.same _ _ e)), by rw [r.length]; exact h.1, G, S, ρ, w, _, k, hr, sr, r, nl, h.2⟩
  | _ => exact h.elim)
def gAsg (ge : GE) (g : GG) : GS := fun F ρ w => ge ρ w F.ex fun d w1 => g d ρ w1 F.nx
theorem asg_up {K : PySem.W.Frag} {vs : List Nat} {ge : GE} {g : GG} : ∀ D σ H, upS K E (gAsg ge g) D σ H → tAsg (upE K E ge) (upG K vs g) D σ H := by
  rintro D σ H ⟨G, S, ρ, w, F, hr, sr, el, h⟩
  exact ⟨G, S, ρ, w, F.ex, _, hr, sr, el.ex, fun G1 S1 H1 w1 d v x1 hr1 rp h1 => ⟨G1, S1, ρ, w1, d, F.nx, hr1, sr.mono x1, rp, fun G2 S2 H2 w2 ρ2 σ2 x2 hr2 sr2 _ h2 => el.nx _ _ _ _ _ _ (x1.trans x2) hr2 sr2 h2, h1⟩, h⟩
theorem ds_asg {tg e : Expr} {vs : List Nat} {ge : GE} {g : GG} (he : DE X E e ge) (hg : DG X vs tg g) (hs : swapsWithSole [tg] e pos.line X.env = pure false := by rfl) (hw : swappedStores [tg] e X.env = pure none := by rfl)
    (h1 : (assignEach [tg] X.env).map (·.2) = [assign tg X.env] := by rfl) : DS X E (.Assign [tg] e pos) (gAsg ge g) := ps_imp (ps_asg he hg hs hw h1) asg_up
def gSet (i : Nat) (ge : GE) : GS := fun F ρ w => ge ρ w F.ex fun d w1 => F.nx (ρ.set i (some d)) w1
theorem set_up {K : PySem.W.Frag} {i : Nat} {ge : GE} : ∀ D σ H, upS K E (gSet i ge) D σ H → tAsg (upE K E ge) (gName i) D σ H := by
  rintro D σ H ⟨G, S, ρ, w, F, hr, sr, el, h⟩
  exact ⟨G, S, ρ, w, F.ex, _, hr, sr, el.ex, fun G1 S1 H1 w1 d v x1 hr1 rp h1 => el.nx _ _ _ _ _ _ x1 hr1 ((sr.mono x1).set rp i) h1, h⟩
theorem ds_set {i : Nat} {x : Str} {e : Expr} {ge : GE} {pos' : Pos} (hN : X.N.Nodup) (hi : X.N[i]? = some x) (hx : Loc X.env.scope x) (he : DE X E e ge) (hs : swapsWith e (some (.Name x pos')) pos.line X.env = pure false := by rfl) (hf : X.fn x = true ∨ X.env.scope.names.lookup x = some .local := by first | exact .inl rfl | exact .inr rfl | assumption) :
    DS X E (.Assign [.Name x pos'] e pos) (gSet i ge) := ps_imp (ps_set hN hi hx he hs hf) set_up
def gPar (i j : Nat) (ga : GA) : GS := fun F ρ w => ga ρ w F.ex fun ds w1 => match ds with
  | [d, e] => F.nx ((ρ.set i (some d)).set j (some e)) w1
  | _ => False
theorem ds_par {i j : Nat} {x y : Str} {a b : Expr} {ga : GA} {px py pt : Pos} {kt k2 pt2} (hc : X.calm = true) (hN : X.N.Nodup) (hi : X.N[i]? = some x) (hj : X.N[j]? = some y) (hij : i ≠ j)
    (hx : X.env.scope.names.lookup x = some .local) (hy : X.env.scope.names.lookup y = some .local) (ha : DA X E [a, b] ga)
    (hw : swappedStores [.Tuple [.Name x px, .Name y py] kt pt] (.Tuple [a, b] k2 pt2) X.env = pure (some [x, y]))
    (hs : swapsWithSole [.Tuple [.Name x px, .Name y py] kt pt] (.Tuple [a, b] k2 pt2) pos.line X.env = pure false := by rfl) :
    DS X E (.Assign [.Tuple [.Name x px, .Name y py] kt pt] (.Tuple [a, b] k2 pt2) pos) (gPar i j ga) := ps_imp (ps_par hc hN hi hj hij hx hy ha hw hs) (by
  rintro D σ H ⟨G, S, ρ, w, F, hr, sr, el, h⟩
  refine ⟨G, S, ρ, w, F.ex, _, hr, sr, el.ex, fun G1 S1 H1 w1 ds vs x1 hr1 rp h1 => ?_, h⟩
  split at h1
  · obtain ⟨v, u, rfl, r1, r2⟩ := two_rep rp
    exact ⟨v, u, rfl, el.nx _ _ _ _ _ _ x1 hr1 (((sr.mono x1).set r1 i).set r2 j) h1⟩
  · exact h1.elim)
/-- x += e -/
def gAug (i : Nat) (ge : GE) (f : F2) : GS := fun F ρ w => match ρ[i]? with
  | some (some d) => ge ρ w F.ex fun e w1 => f d e w1 fun z w2 => F.nx (ρ.set i (some z)) w2
  | _ => False
def iaddD : F2 := fun x y w k => match x, y with
  | .int i, .int j => k (.int (i + j)) w
  | _, _ => False
theorem ds_augadd {i : Nat} {x : Str} {e : Expr} {ge : GE} {pos' : Pos} (hN : X.N.Nodup) (hi : X.N[i]? = some x) (hx : Loc X.env.scope x) (he : DE X E e ge) (hf : X.fn x = true ∨ X.env.scope.names.lookup x = some .local := by first | exact .inl rfl | exact .inr rfl | assumption) :
    DS X E (.AugAssign (.Name x pos') .Add e pos) (gAug i ge iaddD) := ps_imp (ps_aug hN hi hx he ip_add hf) (by
  rintro D σ H ⟨G, S, ρ, w, F, hr, sr, el, h⟩
  unfold gAug at h
  split at h
  · rename_i d e1
    obtain ⟨v, h1, h2⟩ := sr.2 i d e1
    refine ⟨v, h1, G, S, ρ, w, F.ex, _, hr, sr, el.ex, fun G1 S1 H1 w1 e2 u x1 hr1 rp h3 => ?_, h⟩
    unfold iaddD at h3
    split at h3
    · cases h2
      cases rp
      exact ⟨_, _, rfl, rfl, el.nx _ _ _ _ _ _ x1 hr1 ((sr.mono x1).set (.int _) i) h3⟩
    · exact h3.elim
  · exact h.elim)
end

/-! ### while -/
def whileS (t : GT) (b : GS) (F : DEnds) (P : Nat → Rho → Wd → Prop) : Prop := ∀ m ρ w, P m ρ w → t ρ w F.ex fun c w1 => if c = true then b { F with nx := fun ρ' w' => ∃ m', m' < m ∧ P m' ρ' w', ct := fun ρ' w' => ∃ m', m' < m ∧ P m' ρ' w', bk := F.nx } ρ w1 else F.nx ρ w1
def gWhile (t : GT) (b : GS) : GS := fun F ρ w => ∃ P : Nat → Rho → Wd → Prop, (∃ m, P m ρ w) ∧ whileS t b F P
section
variable {X : Cx} {E : XK} {pos : Pos}
theorem ds_while {c : Expr} {body : List Stmt} {tc : GT} {tb : GS} (hp : PassesOwn (model X.prog X.w) X.A X.env X.xe) (hc : DT X E c tc) (hb : DSs X E body tb) : DS X E (.While c body [] pos) (gWhile tc tb) := ps_imp (ps_while hp hc hb) (by
  rintro D σ H ⟨G, S, ρ, w, F, hr, sr, el, P, ⟨n, h0⟩, hs⟩
  refine ⟨fun m σ' H' => ∃ G' S' ρ' w', HR X.K G' S' w' H' ∧ SR X.K G' S' σ' ρ' ∧ EL X.K G' S' E F D ∧ P m ρ' w', ⟨n, G, S, ρ, w, hr, sr, el, h0⟩, ?_⟩
  rintro m σ' H' ⟨G1, S1, ρ1, w1, hr1, sr1, el1, h1⟩
  refine ⟨G1, S1, ρ1, w1, F.ex, _, hr1, sr1, el1.ex, fun G2 S2 H2 w2 c x2 hr2 h2 => ?_, hs m ρ1 w1 h1⟩
  cases c with
  | false => exact iteF (el1.nx _ _ _ _ _ _ x2 hr2 (sr1.mono x2) (by simpa using h2))
  | true =>
    refine iteT ⟨fun σ' H' => ∃ m', m' < m ∧ ∃ G' S' ρ' w', HR X.K G' S' w' H' ∧ SR X.K G' S' σ' ρ' ∧ EL X.K G' S' E F D ∧ P m' ρ' w', fun σ3 H3 h3 => h3, ?_⟩
    refine ⟨G2, S2, ρ1, w2, { F with nx := fun ρ' w' => ∃ m', m' < m ∧ P m' ρ' w', ct := fun ρ' w' => ∃ m', m' < m ∧ P m' ρ' w', bk := F.nx }, hr2, sr1.mono x2, ⟨?_, (el1.mono x2).rt, (el1.mono x2).nx, ?_, (el1.mono x2).ex⟩, by simpa using h2⟩
    · rintro G3 S3 H3 w3 ρ3 σ3 x3 hr3 sr3 ⟨m', hm, h3⟩
      exact ⟨m', hm, G3, S3, ρ3, w3, hr3, sr3, (el1.mono x2).mono x3, h3⟩
    · rintro G3 S3 H3 w3 ρ3 σ3 x3 hr3 sr3 ⟨m', hm, h3⟩
      exact ⟨m', hm, G3, S3, ρ3, w3, hr3, sr3, (el1.mono x2).mono x3, h3⟩)
end

/-! ### what is walked -/
abbrev GI := Rho → Wd → KX → (List D → (Wd → Prop) → Wd → Prop) → Prop
def IterOk (K : PySem.W.Frag) (J : It) (items : List D) (Ok : Wd → Prop) (G : Gh) (S : Hp) : Prop := ∀ (i : Nat) G' S' w' H', Ext G S G' S' → HR K G' S' w' H' → Ok w' →
  (∀ d, items[i]? = some d → J.go i H' ∧ ∀ x H2, J.yld i H' x H2 → ∃ G2 S2, Ext G' S' G2 S2 ∧ HR K G2 S2 w' H2 ∧ Rep K G2 S2 x d) ∧ (items.length = i → J.stop i H')
theorem IterOk.mono {K : PySem.W.Frag} {J : It} {items : List D} {Ok : Wd → Prop} {G G' : Gh} {S S' : Hp} (x : Ext G S G' S') (h : IterOk K J items Ok G S) : IterOk K J items Ok G' S' := fun i G1 S1 w1 H1 x1 => h i G1 S1 w1 H1 (x.trans x1)
def upI (K : PySem.W.Frag) (E : XK) (g : GI) : TI := fun σ H R => ∃ G S ρ w kx k, HR K G S w H ∧ SR K G S σ ρ ∧ XL K G S kx E ∧
  (∀ G' S' H' w' items Ok J, Ext G S G' S' → HR K G' S' w' H' → IterOk K J items Ok G' S' → k items Ok w' → R J H') ∧ g ρ w kx k
def DI (X : Cx) (E : XK) (tg iter : Expr) (g : GI) : Prop := PI X tg iter (upI X.K E g)
def giSeq (ge : GE) : GI := fun ρ w kx k => ge ρ w kx fun d w1 => match d with
  | .lst xs => k xs (fun _ => True) w1
  | .tup xs => k xs (fun _ => True) w1
  | .rf c => match w1.M[c]? with
    | some (.lst xs) => k xs (fun w => w.M[c]? = some (.lst xs)) w1
    | _ => False
  | _ => False
def giRange1 (ga : GA) : GI := fun ρ w kx k => ga ρ w kx fun ds w1 => match ds with
  | [.int j] => (-(2 ^ 62) ≤ j ∧ j < 2 ^ 62) ∧ k ((List.range j.toNat).map fun (i : Nat) => .int (i : Int)) (fun _ => True) w1
  | _ => False
section
variable {X : Cx} {E : XK} {tg : Expr}
theorem pi_imp {e : Expr} {t t' : TI} (h : PI X tg e t) (i : ∀ σ H R, t' σ H R → t σ H R) : PI X tg e t' := ⟨fun pins s σ H R I q => h.run pins s σ H R I (i _ _ _ q)⟩
/-- a list or a tuple -/
def iSq (K : PySem.W.Frag) (tl : TE) : TI := fun σ H R => tl σ H fun x H1 => ∃ a, x = .ref a ∧ (((∃ xs, SqL K H1 a xs) ∧ R (Itl K a) H1) ∨ ((∃ xs, SqT K H1 a xs) ∧ R (Itt K a) H1))
theorem pi_sq {l : Expr} {tl : TE} (hl : PE X l tl) : PI X tg l (iSq X.K tl) := by
  refine ⟨fun pins s σ H R I h => ?_⟩
  refine thn (hl.run pins s σ H _ I h) fun v s1 ⟨x, H1, I1, r1, q1⟩ => ?_
  obtain ⟨a, e, q1⟩ := q1
  subst e
  cases r1
  rcases q1 with ⟨⟨xs, hq⟩, q⟩ | ⟨⟨xs, hq⟩, q⟩
  · obtain ⟨its, rv, p, hz⟩ := I1.list hq
    refine wpAny_pyIter_list p.isList ?_
    refine ⟨s1.heap.objs.size, [s1.heap.objs.size], _, _, H1, rfl, I1.kept (t' := s1.toks) fun b o e => Heap.get?_push_of_some _ e, turn_list a _, ⟨_, Heap.get?_push_size _ rfl, rfl, rfl⟩, fun b hb => ?_, q⟩
    have e : b = s1.heap.objs.size := by simpa using hb
    subst e
    exact I1.fpOk (Nat.le_refl _) (I1.hok.fresh (Nat.le_refl _))
  · obtain ⟨its, rv, p, hz⟩ := I1.tuple hq
    refine wpAny_pyIter_tuple (show s1.heap.IsTuple a its.toArray from p) ?_
    refine ⟨s1.heap.objs.size, [s1.heap.objs.size], _, _, H1, rfl, I1.kept (t' := s1.toks) fun b o e => Heap.get?_push_of_some _ e, turn_tuple a _, ⟨_, Heap.get?_push_size _ rfl, rfl, rfl⟩, fun b hb => ?_, q⟩
    have e : b = s1.heap.objs.size := by simpa using hb
    subst e
    exact I1.fpOk (Nat.le_refl _) (I1.hok.fresh (Nat.le_refl _))
theorem iter_lst {K : PySem.W.Frag} {G : Gh} {S : Hp} {a : Addr} {xs : List V} {ds : List D} (e : S a = some (.lst xs)) (r : RepAll K G S xs ds) : IterOk K (Itl K a) ds (fun _ => True) G S := by
  intro i G1 S1 w1 H1 x1 hr1 _
  have q : SqL K H1 a xs := .inl (.inl (hr1.same _ _ (x1.same _ _ e)))
  refine ⟨fun d hd => ?_, fun hl => ⟨xs, q, by rw [r.length, hl]; exact Nat.le_refl _⟩⟩
  obtain ⟨v, h1, h2⟩ := r.get hd
  refine ⟨⟨xs, v, q, h1⟩, fun x H2 y => ?_⟩
  obtain ⟨rfl, y⟩ := y
  have := y xs q
  rw [h1] at this
  cases this
  exact ⟨G1, S1, Ext.refl _ _, hr1, h2.mono x1⟩
theorem iter_tup {K : PySem.W.Frag} {G : Gh} {S : Hp} {a : Addr} {xs : List V} {ds : List D} (e : S a = some (.tup xs)) (r : RepAll K G S xs ds) : IterOk K (Itt K a) ds (fun _ => True) G S := by
  intro i G1 S1 w1 H1 x1 hr1 _
  have q : SqT K H1 a xs := .inl (.inl (hr1.same _ _ (x1.same _ _ e)))
  refine ⟨fun d hd => ?_, fun hl => ⟨xs, q, by rw [r.length, hl]; exact Nat.le_refl _⟩⟩
  obtain ⟨v, h1, h2⟩ := r.get hd
  refine ⟨⟨xs, v, q, h1⟩, fun x H2 y => ?_⟩
  obtain ⟨rfl, y⟩ := y
  have := y xs q
  rw [h1] at this
  cases this
  exact ⟨G1, S1, Ext.refl _ _, hr1, h2.mono x1⟩
theorem iter_rf {K : PySem.W.Frag} {G : Gh} {S : Hp} {a : Addr} {c : Nat} {ds : List D} (e : G.al[c]? = some a) : IterOk K (Itl K a) ds (fun w => w.M[c]? = some (.lst ds)) G S := by
  intro i G1 S1 w1 H1 x1 hr1 hw
  obtain ⟨_, xs, h1, r⟩ := hr1.cell c a _ (x1.alGet e) hw
  have q : SqL K H1 a xs := .inl (.inl h1)
  refine ⟨fun d hd => ?_, fun hl => ⟨xs, q, by rw [r.length, hl]; exact Nat.le_refl _⟩⟩
  obtain ⟨v, h3, h2⟩ := r.get hd
  refine ⟨⟨xs, v, q, h3⟩, fun x H2 y => ?_⟩
  obtain ⟨rfl, y⟩ := y
  have := y xs q
  rw [h3] at this
  cases this
  exact ⟨G1, S1, Ext.refl _ _, hr1, h2⟩
theorem di_seq {l : Expr} {ge : GE} (hl : DE X E l ge) : DI X E tg l (giSeq ge) := pi_imp (pi_sq hl) (by
  rintro σ H R ⟨G, S, ρ, w, kx, k, hr, sr, xl, kl, h⟩
  refine ⟨G, S, ρ, w, kx, _, hr, sr, xl, fun G1 S1 H1 w1 d v x1 hr1 rp h1 => ?_, h⟩
  cases rp with
  | lst e r => exact ⟨_, rfl, .inl ⟨⟨_, .inl (.inl (hr1.same _ _ e))⟩, kl _ _ _ _ _ _ _ x1 hr1 (iter_lst e r) h1⟩⟩
  | tup e r => exact ⟨_, rfl, .inr ⟨⟨_, .inl (.inl (hr1.same _ _ e))⟩, kl _ _ _ _ _ _ _ x1 hr1 (iter_tup e r) h1⟩⟩
  | rf e =>
    simp only at h1
    split at h1
    · rename_i xs e2
      obtain ⟨_, ys, h3, h4⟩ := hr1.cell _ _ _ e e2
      exact ⟨_, rfl, .inl ⟨⟨_, .inl (.inl h3)⟩, kl _ _ _ _ _ _ _ x1 hr1 (iter_rf e) h1⟩⟩
    · exact h1.elim
  | _ => exact h1.elim)
theorem iter_rng {K : PySem.W.Frag} {G : Gh} {S : Hp} {n : Nat} : IterOk K (Itr 0 n) ((List.range n).map fun (i : Nat) => .int (i : Int)) (fun _ => True) G S := by
  intro i G1 S1 w1 H1 x1 hr1 _
  refine ⟨fun d hd => ?_, fun hl => ?_⟩
  · rw [List.getElem?_map] at hd
    cases q : (List.range n)[i]? with
    | none => rw [q] at hd; cases hd
    | some z =>
      rw [q] at hd
      have hd : D.int (z : Int) = d := by simpa using hd
      subst hd
      have hi := (List.getElem?_eq_some_iff.mp q).1
      have hz := (List.getElem?_eq_some_iff.mp q).2
      rw [List.length_range] at hi
      rw [List.getElem_range] at hz
      subst hz
      refine ⟨hi, fun x H2 y => ?_⟩
      obtain ⟨rfl, rfl⟩ := y
      rw [Int.zero_add]
      exact ⟨G1, S1, Ext.refl _ _, hr1, .int _⟩
  · rw [List.length_map, List.length_range] at hl
    exact Nat.le_of_eq hl
theorem di_range1 {a : Expr} {ga : GA} {p pos : Pos} (B : Blt X.mg) (hg : Gl X "range") (ha : DA X E [a] ga) (hs : starEach [a] X.env = [(false, eval a X.env)] := by rfl) : DI X E tg (.Call (.Name "range" p) [a] [] pos) (giRange1 ga) := pi_imp (pi_range1 hg B.range_ ha hs) (by
  rintro σ H R ⟨G, S, ρ, w, kx, k, hr, sr, xl, kl, h⟩
  refine ⟨G, S, ρ, w, kx, _, hr, sr, xl, fun G1 S1 H1 w1 ds vs x1 hr1 rp h1 => ?_, h⟩
  split at h1
  · rename_i j
    obtain ⟨v, rfl, r1⟩ := one_rep rp
    cases r1
    exact ⟨j, rfl, h1.1.1, h1.1.2, kl _ _ _ _ _ _ _ x1 hr1 iter_rng h1.2⟩
  · exact h1.elim)
end
end DL

namespace DL
open PySem PySem.Spec PyProof.Rows L2

/-! ### for -/
structure ForS (gt : GG) (b : GS) (F : DEnds) (Ok : Wd → Prop) (P : List D → Rho → Wd → Prop) : Prop where
  done : ∀ ρ w, P [] ρ w → Ok w ∧ F.nx ρ w
  turn : ∀ x xs ρ w, P (x :: xs) ρ w → Ok w ∧ gt x ρ w fun ρ1 w1 => b { F with nx := P xs, ct := P xs, bk := F.nx } ρ1 w1
def gFor (gi : GI) (gt : GG) (b : GS) : GS := fun F ρ w => gi ρ w F.ex fun items Ok w1 => ∃ P : List D → Rho → Wd → Prop, P items ρ w1 ∧ ForS gt b F Ok P
/-- turn by turn -/
def forD (gt : GG) (b : GS) (F : DEnds) (Ok : Wd → Prop) : List D → Rho → Wd → Prop
  | [], ρ, w => Ok w ∧ F.nx ρ w
  | x :: xs, ρ, w => Ok w ∧ gt x ρ w fun ρ1 w1 => b { F with nx := forD gt b F Ok xs, ct := forD gt b F Ok xs, bk := F.nx } ρ1 w1
theorem for_forD {gt : GG} {b : GS} {F : DEnds} {Ok : Wd → Prop} {items : List D} {ρ : Rho} {w : Wd} (h : forD gt b F Ok items ρ w) : ∃ P : List D → Rho → Wd → Prop, P items ρ w ∧ ForS gt b F Ok P :=
  ⟨forD gt b F Ok, h, fun _ _ h => h, fun _ _ _ _ h => h⟩
section
variable {X : Cx} {E : XK} {pos : Pos}
theorem ds_for {tg iter : Expr} {body : List Stmt} {vs : List Nat} {gi : GI} {gt : GG} {gb : GS} (hp : PassesOwn (model X.prog X.w) X.A X.env X.xe) (hc : X.calm = true) (hi : DI X E tg iter gi) (hg : DG X vs tg gt) (hb : DSs X E body gb)
    (hs : ∀ x, foldedSetIterable iter X.env x = pure x := by intro _; rfl) : DS X E (.For tg iter body [] pos) (gFor gi gt gb) := ps_imp (ps_for hp hc hi hg hb hs) (by
  rintro D σ H ⟨G, S, ρ, w, F, hr, sr, el, h⟩
  refine ⟨G, S, ρ, w, F.ex, _, hr, sr, el.ex, fun G1 S1 H1 w1 items Ok J x1 hr1 it h1 => ?_, h⟩
  obtain ⟨P, h1, hP⟩ := h1
  refine ⟨fun i m σ' H' => m = items.length - i ∧ i ≤ items.length ∧ ∃ G' S' ρ' w', Ext G1 S1 G' S' ∧ HR X.K G' S' w' H' ∧ SR X.K G' S' σ' ρ' ∧ P (items.drop i) ρ' w', ⟨items.length, by simp, Nat.zero_le _, G1, S1, ρ, w1, Ext.refl _ _, hr1, sr.mono x1, h1⟩, ?_⟩
  rintro i m σ' H' ⟨rfl, hi, G2, S2, ρ2, w2, x2, hr2, sr2, h2⟩
  by_cases hlt : i < items.length
  · have e : items.drop i = items[i] :: items.drop (i + 1) := List.drop_eq_getElem_cons hlt
    rw [e] at h2
    obtain ⟨ok, h2⟩ := hP.turn _ _ _ _ h2
    obtain ⟨i1, _⟩ := it i G2 S2 w2 H' x2 hr2 ok
    obtain ⟨go, yld⟩ := i1 items[i] (List.getElem?_eq_getElem hlt)
    refine .inr ⟨go, fun σ3 H3 => ∃ G' S' ρ' w', Ext G1 S1 G' S' ∧ HR X.K G' S' w' H3 ∧ SR X.K G' S' σ3 ρ' ∧ P (items.drop (i + 1)) ρ' w', fun σ3 H3 h3 => ⟨items.length - (i + 1), by omega, rfl, hlt, h3⟩, fun x H3 y => ?_⟩
    obtain ⟨G3, S3, x3, hr3, rp⟩ := yld x H3 y
    refine ⟨G3, S3, ρ2, w2, items[i], _, hr3, sr2.mono x3, rp, fun G4 S4 H4 w4 ρ4 σ4 x4 hr4 sr4 _ h4 => ?_, h2⟩
    have x04 : Ext G S G4 S4 := x1.trans (x2.trans (x3.trans x4))
    refine ⟨G4, S4, ρ4, w4, { F with nx := P (items.drop (i + 1)), ct := P (items.drop (i + 1)), bk := F.nx }, hr4, sr4, ⟨?_, (el.mono x04).rt, (el.mono x04).nx, ?_, (el.mono x04).ex⟩, h4⟩
    · intro G5 S5 H5 w5 ρ5 σ5 x5 hr5 sr5 h5
      exact ⟨G5, S5, ρ5, w5, x2.trans (x3.trans (x4.trans x5)), hr5, sr5, h5⟩
    · intro G5 S5 H5 w5 ρ5 σ5 x5 hr5 sr5 h5
      exact ⟨G5, S5, ρ5, w5, x2.trans (x3.trans (x4.trans x5)), hr5, sr5, h5⟩
  · have e : i = items.length := by omega
    subst e
    rw [List.drop_length] at h2
    obtain ⟨ok, h2⟩ := hP.done _ _ h2
    obtain ⟨_, i2⟩ := it items.length G2 S2 w2 H' x2 hr2 ok
    exact .inl ⟨i2 rfl, el.nx _ _ _ _ _ _ (x1.trans x2) hr2 sr2 h2⟩)
end

/-! ### list comprehensions -/
def wipeR (ρ : Rho) : List Nat → Rho
  | [] => ρ
  | v :: vs => (wipeR ρ vs).set v none
def gYes : GT := fun _ w _ k => k true w
def DTs (X : Cx) (E : XK) (ifs : List Expr) (g : GT) : Prop := PTs X ifs (upT X.K E g)
/-- P: the items left, the list so far -/
structure LcS (gt : GG) (tt : GT) (ge : GE) (Ok : Wd → Prop) (ρ : Rho) (k : KD) (P : List D → List D → Wd → Prop) : Prop where
  done : ∀ acc w, P [] acc w → Ok w ∧ k (.lst acc) w
  turn : ∀ x xs acc w, P (x :: xs) acc w → Ok w ∧ gt x ρ w fun ρ1 w1 => tt ρ1 w1 noX fun b w2 => if b = true then ge ρ1 w2 noX fun y w3 => acc.length < sizeLine ∧ P xs (acc ++ [y]) w3 else P xs acc w2
def gLc (gi : GI) (gt : GG) (tt : GT) (ge : GE) (vs : List Nat) : GE := fun ρ w kx k => gi ρ w kx fun items Ok w1 => ∃ P : List D → List D → Wd → Prop, P items [] w1 ∧ LcS gt tt ge Ok (wipeR ρ vs) k P
/-- turn by turn -/
def lcD (gt : GG) (tt : GT) (ge : GE) (Ok : Wd → Prop) (ρ : Rho) (k : KD) : List D → List D → Wd → Prop
  | [], acc, w => Ok w ∧ k (.lst acc) w
  | x :: xs, acc, w => Ok w ∧ gt x ρ w fun ρ1 w1 => tt ρ1 w1 noX fun b w2 => if b = true then ge ρ1 w2 noX fun y w3 => acc.length < sizeLine ∧ lcD gt tt ge Ok ρ k xs (acc ++ [y]) w3 else lcD gt tt ge Ok ρ k xs acc w2
theorem lc_lcD {gt : GG} {tt : GT} {ge : GE} {Ok : Wd → Prop} {ρ : Rho} {k : KD} {items : List D} {w : Wd} (h : lcD gt tt ge Ok ρ k items [] w) : ∃ P : List D → List D → Wd → Prop, P items [] w ∧ LcS gt tt ge Ok ρ k P :=
  ⟨lcD gt tt ge Ok ρ k, h, fun _ _ h => h, fun _ _ _ _ h => h⟩
section
variable {X : Cx} {E : XK} {pos : Pos}
theorem dts_nil : DTs X E [] gYes := by
  have h := pts_nil (X := X)
  refine ⟨fun pins s σ H Q I q => h.run pins s σ H Q I ?_⟩
  obtain ⟨G, S, ρ, w, kx, k, hr, sr, xl, kl, h⟩ := q
  exact kl _ _ _ _ _ (Ext.refl _ _) hr h
theorem dts_one {c : Expr} {t : GT} (h : DT X E c t) : DTs X E [c] t := pts_one h
theorem wipe_set {σ : L2.St} {ρ : Rho} {K : PySem.W.Frag} {G : Gh} {S : Hp} (sr : SR K G S σ ρ) (v : Nat) : SR K G S (σ.set v none) (ρ.set v none) := by
  refine ⟨by simp [sr.1], fun j e hj => ?_⟩
  by_cases hi : j = v
  · subst hi
    by_cases hl : j < ρ.length
    · rw [List.getElem?_set_self hl] at hj
      cases hj
    · rw [List.getElem?_eq_none (by simpa using hl)] at hj
      cases hj
  · rw [List.getElem?_set_ne (Ne.symm hi)] at hj
    obtain ⟨u, h1, h2⟩ := sr.2 j e hj
    exact ⟨u, by rw [List.getElem?_set_ne (Ne.symm hi)]; exact h1, h2⟩
theorem wipe_sr {σ : L2.St} {ρ : Rho} {K : PySem.W.Frag} {G : Gh} {S : Hp} (sr : SR K G S σ ρ) : ∀ vs : List Nat, SR K G S (wipe σ vs) (wipeR ρ vs)
  | [] => sr
  | v :: vs => wipe_set (wipe_sr sr vs) v
theorem wipe_get {σ : L2.St} : ∀ {vs : List Nat} {i : Nat}, (wipe σ vs)[i]? = if i ∈ vs then (if i < σ.length then some none else none) else σ[i]?
  | [], i => by simp [wipe]
  | v :: vs, i => by
    unfold wipe
    rw [List.getElem?_set]
    by_cases h : v = i
    · subst h
      simp [wipe_length]
    · rw [if_neg h, wipe_get]
      have : (i ∈ v :: vs) ↔ i ∈ vs := by
        simp only [List.mem_cons]
        exact ⟨fun z => z.elim (fun z => absurd z.symm h) id, .inr⟩
      simp only [this]
theorem wipe_off {σ σ2 : L2.St} {vs us : List Nat} (hu : ∀ i ∈ us, i ∈ vs) (h : OffOk us (wipe σ vs) σ2) : wipe σ2 vs = wipe σ vs := by
  refine List.ext_getElem? fun i => ?_
  rw [wipe_get, wipe_get]
  have hl : σ2.length = σ.length := by rw [h.1, wipe_length]
  by_cases hi : i ∈ vs
  · rw [if_pos hi, if_pos hi, hl]
  · rw [if_neg hi, if_neg hi, h.2 i (fun z => hi (hu i z)), wipe_get, if_neg hi]
theorem fr_ne {K : PySem.W.Frag} {G : Gh} {S H : Hp} {w : Wd} (hr : HR K G S w H) {Dl : Addr} (hD : H Dl = none) : ∀ q ∈ G.fr, q.1 ≠ Dl := hr.freshFr hD
theorem lc_go {K : PySem.W.Frag} {gi : GI} {gt : GG} {tt : GT} {ge : GE} {vs us : List Nat} (hu : ∀ i ∈ us, i ∈ vs) : ∀ σ H Q, upE K E (gLc gi gt tt ge vs) σ H Q → tLc (upI K E gi) (upG K us gt) (upT K E0 tt) (upE K E0 ge) vs σ H Q := by
  rintro σ H Q ⟨G, S, ρ, w, kx, k, hr, sr, xl, kl, h⟩
  refine ⟨G, S, ρ, w, kx, _, hr, sr, xl, fun G1 S1 H1 w1 items Ok J x1 hr1 it h1 Dl hD => ?_, h⟩
  obtain ⟨P, h1, hP⟩ := h1
  have hfr := fr_ne hr1 hD
  have sD := hr1.freshS hD
  -- the state between turns: the list so far stands apart
  refine ⟨fun i m H' => m = items.length - i ∧ i ≤ items.length ∧ ∃ (G' : Gh) (S' : Hp) (w' : Wd) (xs : List V) (acc : List D), Ext G1 S1 ⟨G'.al, G'.st, G1.fr⟩ S' ∧ (∀ q ∈ G1.fr, q ∈ G'.fr) ∧ (Dl, HO.lst xs) ∈ G'.fr ∧ HR K G' S' w' H' ∧ RepAll K G' S' xs acc ∧ P (items.drop i) acc w', ⟨items.length, ?_⟩, ?_⟩
  · obtain ⟨hr2, x2⟩ := hr1.push (o := .lst []) hD
    refine ⟨by simp, Nat.zero_le _, ⟨G1.al, G1.st, (Dl, .lst []) :: G1.fr⟩, S1, w1, [], [], ⟨⟨[], by simp⟩, fun _ z => z, fun _ z => z, Same.refl _⟩, fun q hq => List.mem_cons_of_mem _ hq, List.mem_cons_self, hr2, .nil, h1⟩
  rintro i m H' ⟨rfl, hi, G2, S2, w2, xs, acc, x2, f2, fD, hr2, ra, h2⟩
  have x12 : Ext G1 S1 G2 S2 := ⟨x2.al, x2.st, f2, x2.same⟩
  by_cases hlt : i < items.length
  · have e : items.drop i = items[i] :: items.drop (i + 1) := List.drop_eq_getElem_cons hlt
    rw [e] at h2
    obtain ⟨ok, h2⟩ := hP.turn _ _ _ _ h2
    obtain ⟨i1, _⟩ := it i G2 S2 w2 H' x12 hr2 ok
    obtain ⟨go, yld⟩ := i1 items[i] (List.getElem?_eq_getElem hlt)
    refine .inr ⟨go, fun H3 => ∃ (G' : Gh) (S' : Hp) (w' : Wd) (xs : List V) (acc : List D), Ext G1 S1 ⟨G'.al, G'.st, G1.fr⟩ S' ∧ (∀ q ∈ G1.fr, q ∈ G'.fr) ∧ (Dl, HO.lst xs) ∈ G'.fr ∧ HR K G' S' w' H3 ∧ RepAll K G' S' xs acc ∧ P (items.drop (i + 1)) acc w', fun H3 h3 => ⟨items.length - (i + 1), by omega, rfl, hlt, h3⟩, fun x H3 y => ?_⟩
    obtain ⟨G3, S3, x3, hr3, rp⟩ := yld x H3 y
    have x13 := x12.trans x3
    refine ⟨G3, S3, wipeR ρ vs, w2, items[i], _, hr3, (wipe_sr (sr.mono x1) vs).mono x13, rp, fun G4 S4 H4 w4 ρ4 σ4 x4 hr4 sr4 off4 h4 => ⟨wipe_off hu off4, ?_⟩, h2⟩
    have x24 : Ext G2 S2 G4 S4 := x3.trans x4
    refine ⟨G4, S4, ρ4, w4, noX, _, hr4, sr4, xl_no, fun G5 S5 H5 w5 b x5 hr5 h5 => ?_, h4⟩
    have x25 := x24.trans x5
    have x15 := x12.trans x25
    cases b with
    | false => exact iteF ⟨G5, S5, w5, xs, acc, ⟨x15.al, x15.st, fun _ z => z, x15.same⟩, x15.fr, x25.fr _ fD, hr5, ra.mono x25, by simpa using h5⟩
    | true =>
      refine iteT ⟨G5, S5, ρ4, w5, noX, _, hr5, sr4.mono x5, xl_no, fun G6 S6 H6 w6 d v x6 hr6 rp6 h6 => ?_, by simpa using h5⟩
      have x26 := x25.trans x6
      have x16 := x12.trans x26
      have ra6 := ra.mono x26
      have fD6 := x26.fr _ fD
      refine ⟨xs, (hr6.fr _ fD6).2.2, by rw [ra.length]; exact h6.1, ?_⟩
      have hp := hr6.poke (o' := .lst (xs ++ [v])) (fr := G1.fr) fD6 (fun q hq => ⟨x16.fr q hq, hfr q hq⟩)
      refine ⟨⟨G6.al, G6.st, (Dl, .lst (xs ++ [v])) :: G1.fr⟩, S6, w6, xs ++ [v], acc ++ [d], ⟨x16.al, x16.st, fun _ z => z, x16.same⟩, fun q hq => List.mem_cons_of_mem _ hq, List.mem_cons_self, hp, ?_, h6.2⟩
      exact (RepAll.refr ra6).append (.cons (Rep.refr rp6) .nil)
  · have e : i = items.length := by omega
    subst e
    rw [List.drop_length] at h2
    obtain ⟨ok, h2⟩ := hP.done _ _ h2
    obtain ⟨_, i2⟩ := it items.length G2 S2 w2 H' x12 hr2 ok
    refine .inl ⟨i2 rfl, ?_⟩
    -- the list is put among what stays
    obtain ⟨z1, z2, z3⟩ := hr2.fr _ fD
    have x3 : Ext G2 S2 G2 (upd S2 Dl (.lst xs)) := ⟨⟨[], by simp⟩, fun _ z => z, fun _ z => z, fun b u e => by rw [upd_ne (ne_of_none e z1)]; exact e⟩
    have x3' : Ext G1 S1 ⟨G2.al, G2.st, G1.fr⟩ (upd S2 Dl (.lst xs)) := ⟨x2.al, x2.st, fun _ z => z, fun b u e => x3.same _ _ (x2.same _ _ e)⟩
    refine kl _ _ _ _ _ _ (x1.trans x3') ⟨fun b u e => ?_, hr2.len, hr2.nod, fun j b c' f1 f2 => ?_, ⟨hr2.st.1, fun b c' e => ?_⟩, fun q hq => ?_⟩ (.lst upd_same (RepAll.refr (ra.mono x3))) h2
    · by_cases hb : b = Dl
      · subst hb
        rw [upd_same] at e
        cases e
        exact z3
      · rw [upd_ne hb] at e
        exact hr2.same _ _ e
    · have ne : b ≠ Dl := fun z => z2 (z ▸ List.mem_of_getElem? f1)
      have q := hr2.cell j b c' f1 f2
      have q2 := q.mono (H' := H') x3 rfl (by rw [upd_ne ne]; exact q.sNone)
      cases c' with
      | dead => exact q2
      | exc C => exact q2
      | lst ds =>
        obtain ⟨n0, ys, e3, r⟩ := q2
        exact ⟨n0, ys, e3, RepAll.refr r⟩
      | dk ds =>
        obtain ⟨n0, ys, e3, r⟩ := q2
        exact ⟨n0, ys, e3, Paired.mapP r fun p q z => ⟨z.1, Rep.refr z.2⟩⟩
      | ins C ds =>
        obtain ⟨n0, dx, ys, e3, r⟩ := q2
        exact ⟨n0, dx, ys, e3, Paired.mapP r fun p q z => ⟨z.1, Rep.refr z.2⟩⟩
    · obtain ⟨y1, y2, y3, y4, y5, y6, y7⟩ := hr2.st.2 b c' e
      obtain ⟨n1, n2⟩ := y6 _ fD
      exact ⟨by rw [upd_ne (Ne.symm n1)]; exact y1, by rw [upd_ne (Ne.symm n2)]; exact y2, y3, y4, y5, fun q hq => y6 q (f2 q hq), y7⟩
    · obtain ⟨y1, y2, y3⟩ := hr2.fr q (f2 q hq)
      exact ⟨by rw [upd_ne (hfr q hq)]; exact y1, y2, y3⟩
theorem de_lc {elt tg iter : Expr} {ifs : List Expr} {scope : Scope} {own : List (Str × Nat)} {us : List Nat} {gi : GI} {gt : GG} {tt : GT} {ge : GE} (hc : X.calm = true) (hN : X.N.Nodup) (hi : DI X E tg iter gi) (ok : BlkOk X.N X.env.scope scope own) (hu : ∀ i ∈ us, i ∈ own.map (·.2))
    (hg : ∀ (s : Shared) (H : Hp) (C : Addr) (cl : List (Str × Addr)) (fp : List Addr), DG (X.blk s H scope (compEnvC scope cl C X.env) fp) us tg gt) (ht : ∀ (s : Shared) (H : Hp) (C : Addr) (cl : List (Str × Addr)) (fp : List Addr), DTs (X.blk s H scope (compEnvC scope cl C X.env) fp) E0 ifs tt)
    (he : ∀ (s : Shared) (H : Hp) (C : Addr) (cl : List (Str × Addr)) (fp : List Addr), DE (X.blk s H scope (compEnvC scope cl C X.env) fp) E0 elt ge) (hs : ∀ x, foldedSetIterable iter X.env x = pure x := by intro _; rfl) :
    DE X E (.ListComp elt [⟨tg, iter, ifs, 0⟩] scope pos) (gLc gi gt tt ge (own.map (·.2))) := pe_imp (pe_lc (g := upG X.K us gt) (tt := upT X.K E0 tt) (te := upE X.K E0 ge) hc hN hi ok hg ht he hs) (lc_go hu)
theorem ds_setLc {i : Nat} {y : Str} {py spos : Pos} {elt tg iter : Expr} {ifs : List Expr} {scope : Scope} {own : List (Str × Nat)} {us : List Nat} {gi : GI} {gt : GG} {tt : GT} {ge : GE} (hc : X.calm = true) (hN : X.N.Nodup) (hy : X.N[i]? = some y) (hyl : X.env.scope.names.lookup y = some .local)
    (hsw : swapsWith (.ListComp elt [⟨tg, iter, ifs, 0⟩] scope pos) (some (.Name y py)) spos.line X.env = pure true) (hi : DI X E tg iter gi) (ok : BlkOk X.N X.env.scope scope own) (hu : ∀ i ∈ us, i ∈ own.map (·.2))
    (hg : ∀ (s : Shared) (H : Hp) (C : Addr) (cl : List (Str × Addr)) (fp : List Addr), DG (X.blk s H scope (compEnvC scope cl C X.env) fp) us tg gt) (ht : ∀ (s : Shared) (H : Hp) (C : Addr) (cl : List (Str × Addr)) (fp : List Addr), DTs (X.blk s H scope (compEnvC scope cl C X.env) fp) E0 ifs tt)
    (he : ∀ (s : Shared) (H : Hp) (C : Addr) (cl : List (Str × Addr)) (fp : List Addr), DE (X.blk s H scope (compEnvC scope cl C X.env) fp) E0 elt ge) (hs : ∀ x, foldedSetIterable iter X.env x = pure x := by intro _; rfl) :
    DS X E (.Assign [.Name y py] (.ListComp elt [⟨tg, iter, ifs, 0⟩] scope pos) spos) (gSet i (gLc gi gt tt ge (own.map (·.2)))) := ps_imp (ps_setLc (g := upG X.K us gt) (tt := upT X.K E0 tt) (te := upE X.K E0 ge) hc hN hy hyl hsw hi ok hg ht he hs) (by
  intro D σ H h
  obtain ⟨G, S, ρ, w, F, hr, sr, el, h⟩ := h
  exact lc_go hu σ H _ ⟨G, S, ρ, w, F.ex, fun d w1 => F.nx (ρ.set i (some d)) w1, hr, sr, el.ex, fun G1 S1 H1 w1 d v x1 hr1 rp h1 => el.nx _ _ _ _ _ _ x1 hr1 ((sr.mono x1).set rp i) h1, h⟩)
end
end DL

namespace DL
open PySem PySem.Spec PyProof.Rows L2

/-! ### the start; the drawing state -/
section
variable {K : PySem.W.Frag} {G : Gh} {S H : Hp} {w : Wd}
theorem hr_start : HR K ⟨[], none, []⟩ H ⟨[], none⟩ H := ⟨Same.refl H, rfl, List.nodup_nil, fun i a c e => (nomatch e), ⟨fun _ => rfl, fun a c e => (nomatch e)⟩, fun p hp => (nomatch hp)⟩
def gLaw : GF := fun ds w _ k => ∃ ns : List Int, ds = [.scr ns] ∧ ns.length ≤ 63 ∧ w = ⟨[], none⟩ ∧ ∀ w', k (.bl true) w'
theorem law_start {a : Addr} {ns : List Int} (hl : ns.length ≤ 63) (hS : SqL K H a (ns.map V.int)) : upF 1 K gLaw [.ref a] H (fun v _ => v = .bl true) fun _ _ _ => False :=
  ⟨⟨[], none, []⟩, H, [.scr ns], ⟨[], none⟩, noX, fun d _ => d = .bl true, rfl, hr_start, .cons (.scr hS) .nil, xl_no, fun _ _ _ _ d v _ _ r e => by
    subst e
    cases r
    rfl, ns, rfl, hl, rfl, fun _ => rfl⟩
def stKv (c : Addr) (t : Int) : List (Key × V) := [(.inr "cells", .ref c), (.inr "turn", .int t)]
theorem st_cells (c : Addr) (t : Int) : valV (stKv c t) (.inr "cells") = some (.ref c) := valV_pos rfl
theorem key_ne : ¬ ((Sum.inr ("cells" : Str) : Key) = Sum.inr ("turn" : Str)) := by decide +kernel
theorem st_turn (c : Addr) (t : Int) : valV (stKv c t) (.inr "turn") = some (.int t) := by
  unfold stKv
  rw [valV_neg key_ne, valV_pos rfl]
theorem st_put (c : Addr) (t u : Int) : putK (stKv c t) (.inr "turn") (.int u) = stKv c u := by
  have e : ((stKv c t).any fun kv => decide (kv.1 = (Sum.inr ("turn" : Str) : Key))) = true := by
    rw [valV_any, st_turn]
    rfl
  unfold putK
  rw [if_pos e]
  show [if (Sum.inr ("cells" : Str) : Key) = Sum.inr ("turn" : Str) then ((Sum.inr ("cells" : Str) : Key), V.int u) else (Sum.inr ("cells" : Str), V.ref c), if (Sum.inr ("turn" : Str) : Key) = Sum.inr ("turn" : Str) then ((Sum.inr ("turn" : Str) : Key), V.int u) else (Sum.inr ("turn" : Str), V.int t)] = stKv c u
  rw [if_neg key_ne, if_pos rfl]
  rfl
/-- behind a draw -/
theorem HR.drawn (h : HR K G S w H) {a c : Addr} {n' : Nat} {cells : List Int} {turn : Int} {H' : Hp} (e : G.st = some (a, c)) (he : ∀ b, b ≠ a → b ≠ c → H' b = H b) (h1 : H' a = some (.dK (stKv c turn))) (h2 : H' c = some (.lst (cells.map V.int)))
    (h3 : cells ≠ []) (h4 : cells.length ≤ 63) (h5 : 0 ≤ turn) (h6 : turn + (n' : Nat) ≤ 1000000000) : HR K G S ⟨w.M, some n'⟩ H' := by
  obtain ⟨z1, z2, z3, z4, z5, z6, _⟩ := h.st.2 a c e
  refine ⟨fun b u q => ?_, h.len, h.nod, fun i b cc e1 e2 => ?_, ⟨fun z => (nomatch z), fun a' c' e' => ?_⟩, fun q hq => ?_⟩
  · rw [he b (ne_of_none q z1) (ne_of_none q z2)]
    exact h.same _ _ q
  · have q := h.cell i b cc e1 e2
    exact q.mono (Ext.refl _ _) (he b (fun z => z4 (z ▸ List.mem_of_getElem? e1)) (fun z => z5 (z ▸ List.mem_of_getElem? e1))) q.sNone
  · rw [e] at e'
    cases e'
    exact ⟨z1, z2, z3, z4, z5, z6, cells, turn, h1, h2, h3, h4, h5, h6⟩
  · obtain ⟨y1, y2, y3⟩ := h.fr q hq
    exact ⟨y1, y2, by rw [he _ (z6 q hq).1 (z6 q hq).2]; exact y3⟩
/-- the state is made -/
theorem HR.made (h : HR K G S w H) (hn : w.n = none) {c a : Addr} {cells : List Int} (hc : H c = some (.lst (cells.map V.int))) (nc : S c = none ∧ c ∉ G.al ∧ ∀ p ∈ G.fr, p.1 ≠ c) (ha : H a = some (.dK (stKv c 0))) (na : S a = none ∧ a ∉ G.al ∧ ∀ p ∈ G.fr, p.1 ≠ a) (hac : a ≠ c)
    (h3 : cells ≠ []) (h4 : cells.length ≤ 63) : HR K ⟨G.al, some (a, c), G.fr⟩ S ⟨w.M, some 1000000000⟩ H ∧ Ext G S ⟨G.al, some (a, c), G.fr⟩ S := by
  have x : Ext G S ⟨G.al, some (a, c), G.fr⟩ S := ⟨⟨[], by simp⟩, fun p z => (by rw [h.st.1 hn] at z; cases z), fun _ z => z, Same.refl S⟩
  refine ⟨⟨h.same, h.len, h.nod, fun i b cc e1 e2 => ?_, ⟨fun z => (nomatch z), fun a' c' e' => ?_⟩, h.fr⟩, x⟩
  · have q := h.cell i b cc e1 e2
    exact q.mono x rfl q.sNone
  · cases e'
    exact ⟨na.1, nc.1, hac, na.2.1, nc.2.1, fun p hp => ⟨na.2.2 p hp, nc.2.2 p hp⟩, cells, 0, ha, hc, h3, h4, by omega, by simp⟩
end
theorem lay_ints : ∀ l : List Int, PyData.canLayAll0 (l.map PyData.int) = true ∧ PyData.depthAll (l.map PyData.int) = 0
  | [] => ⟨rfl, rfl⟩
  | x :: r => by
    obtain ⟨h1, h2⟩ := lay_ints r
    refine ⟨?_, ?_⟩
    · simp [PyData.canLayAll0, PyData.canLay0, h1]
    · simp [PyData.depthAll, PyData.depth, h2]
theorem shaped_ints (l : List Int) : SeqAt.shaped (.list (l.map PyData.int)) = true := by
  obtain ⟨h1, h2⟩ := lay_ints l
  unfold SeqAt.shaped
  simp [PyData.canLay0, PyData.depth, h1, h2]
def gTake : GF := fun ds w _ k => ∃ (m : Int) (n : Nat), ds = [.st, .int m] ∧ (0 < m ∧ m.natAbs.log2 < 9000) ∧ w.n = some (n + 1) ∧ ∀ r, 0 ≤ r → r < m → k (.int r) ⟨w.M, some n⟩
def gBegin : GF := fun ds w _ k => ∃ ns : List Int, ds = [.scr ns] ∧ w.n = none ∧ k .st ⟨w.M, some 1000000000⟩
end DL

namespace DL
open PySem PySem.Spec PyProof.Rows L2
/-! ### the equations of the operations, for simp -/
section
variable {w : Wd} {k : KD} {kb : KB} {i j : Int} {s t : Str} {b : Bool} {xs ys : List D} {d e : D} {n : String}
theorem addD_i : addD (.int i) (.int j) w k = k (.int (i + j)) w := rfl
theorem addD_s : addD (.str s) (.str t) w k = (s.length + t.length ≤ sizeLine ∧ k (.str (s ++ t)) w) := rfl
theorem addD_l : addD (.lst xs) (.lst ys) w k = (xs.length + ys.length ≤ sizeLine ∧ k (.lst (xs ++ ys)) w) := rfl
theorem addD_t : addD (.tup xs) (.tup ys) w k = (xs ≠ [] ∧ xs.length + ys.length ≤ sizeLine ∧ k (.tup (xs ++ ys)) w) := rfl
theorem subD_i : subD (.int i) (.int j) w k = k (.int (i - j)) w := rfl
theorem mulD_i : mulD (.int i) (.int j) w k = (CMulX i j ∧ k (.int (i * j)) w) := rfl
theorem mulD_l : mulD (.lst xs) (.int j) w k = (-(2 ^ 63) ≤ j ∧ j < 2 ^ 63 ∧ xs.length * j.toNat ≤ sizeLine ∧ k (.lst (List.replicate j.toNat xs).flatten) w) := rfl
theorem fdivD_i : fdivD (.int i) (.int j) w k = ((j ≠ 0 ∧ j.natAbs.log2 < 9000) ∧ k (.int (i.fdiv j)) w) := rfl
theorem modD_i : modD (.int i) (.int j) w k = (j ≠ 0 ∧ k (.int (i.fmod j)) w) := rfl
theorem powD_i : powD (.int i) (.int j) w k = (CPow i j ∧ k (.int (i ^ j.toNat)) w) := rfl
theorem ltD_i : ltD (.int i) (.int j) w k = k (.bl (decide (i < j))) w := rfl
theorem ltD_s : ltD (.str s) (.str t) w k = k (.bl (decide (s.cps.toList < t.cps.toList))) w := rfl
theorem leD_i : leD (.int i) (.int j) w k = k (.bl (decide (i ≤ j))) w := rfl
theorem gtD_i : gtD (.int i) (.int j) w k = k (.bl (decide (j < i))) w := rfl
theorem geD_i : geD (.int i) (.int j) w k = k (.bl (decide (j ≤ i))) w := rfl
theorem isD_n : isD d .non w k = k (.bl (isNonD d)) w := rfl
theorem isnotD_n : isnotD d .non w k = k (.bl (!isNonD d)) w := rfl
theorem isNonD_non : isNonD .non = true := rfl
theorem isNonD_bl : isNonD (.bl b) = false := rfl
theorem isNonD_int : isNonD (.int i) = false := rfl
theorem isNonD_str : isNonD (.str s) = false := rfl
theorem isNonD_lst : isNonD (.lst xs) = false := rfl
theorem isNonD_tup : isNonD (.tup xs) = false := rfl
theorem negD_i : negD (.int i) w k = k (.int (-i)) w := rfl
theorem iaddD_i : iaddD (.int i) (.int j) w k = k (.int (i + j)) w := rfl
theorem truD_non : truD .non w kb = kb false w := rfl
theorem truD_bl : truD (.bl b) w kb = kb b w := rfl
theorem truD_int : truD (.int i) w kb = kb (i != 0) w := rfl
theorem truD_str : truD (.str s) w kb = (s.length ≤ sizeLine ∧ kb ((s.length : Int) != 0) w) := rfl
theorem truD_lst : truD (.lst xs) w kb = kb (!xs.isEmpty) w := rfl
theorem truD_tup : truD (.tup xs) w kb = kb (!xs.isEmpty) w := rfl
/-- an item, where there is one -/
def someK (o : Option D) (f : D → Prop) : Prop := match o with
  | some d => f d
  | none => False
theorem someK_some {f : D → Prop} : someK (some d) f = f d := rfl
theorem ixD_l : ixD (.lst xs) (.int i) w k = someK (atI xs i) (fun d => k d w) := rfl
theorem ixD_t : ixD (.tup xs) (.int i) w k = someK (atI xs i) (fun d => k d w) := rfl
theorem fAbs_i : fAbs [.int i] w k = k (.int i.natAbs) w := rfl
theorem fInt_i : fInt [.int i] w k = k (.int i) w := rfl
theorem fInt_b : fInt [.bl b] w k = k (.int (if b then 1 else 0)) w := rfl
theorem fMin2_i : fMin2 [.int i, .int j] w k = k (.int (if j < i then j else i)) w := rfl
theorem fLen_l : fLen [.lst xs] w k = k (.int xs.length) w := rfl
theorem fLen_t : fLen [.tup xs] w k = k (.int xs.length) w := rfl
theorem fLen_s : fLen [.str s] w k = (s.length ≤ sizeLine ∧ k (.int s.length) w) := rfl
theorem fList_l : fList [.lst xs] w k = k (.lst xs) w := rfl
theorem fList_t : fList [.tup xs] w k = k (.lst xs) w := rfl
theorem fTuple_l : fTuple [.lst xs] w k = k (.tup xs) w := rfl
theorem fTuple_t : fTuple [.tup xs] w k = k (.tup xs) w := rfl
def optBK (o : Option Bool) (f : Bool → Prop) : Prop := match o with
  | some d => f d
  | none => False
theorem optBK_some {f : Bool → Prop} : optBK (some b) f = f b := rfl
theorem fIsi_non : fIsi [.non, .ob (.ty n)] w k = optBK (kitB "NoneType" n) (fun b => k (.bl b) w) := rfl
theorem fIsi_bl : fIsi [.bl b, .ob (.ty n)] w k = optBK (kitB "bool" n) (fun b => k (.bl b) w) := rfl
theorem fIsi_int : fIsi [.int i, .ob (.ty n)] w k = optBK (kitB "int" n) (fun b => k (.bl b) w) := rfl
theorem fIsi_str : fIsi [.str s, .ob (.ty n)] w k = optBK (kitB "str" n) (fun b => k (.bl b) w) := rfl
theorem fIsi_lst : fIsi [.lst xs, .ob (.ty n)] w k = optBK (kitB "list" n) (fun b => k (.bl b) w) := rfl
theorem fIsi_tup : fIsi [.tup xs, .ob (.ty n)] w k = optBK (kitB "tuple" n) (fun b => k (.bl b) w) := rfl
theorem allBl_map (l : List Bool) : allBl (l.map D.bl) = some l := by
  induction l with
  | nil => rfl
  | cons x r ih =>
    rw [List.map_cons]
    unfold allBl
    rw [ih]
theorem allInt_map (l : List Int) : allInt (l.map D.int) = some l := by
  induction l with
  | nil => rfl
  | cons x r ih =>
    rw [List.map_cons]
    unfold allInt
    rw [ih]
theorem fAll_m (l : List Bool) : fAll [.lst (l.map D.bl)] w k = k (.bl (l.all id)) w := by
  unfold fAll
  simp only [allBl_map]
theorem fAny_m (l : List Bool) : fAny [.lst (l.map D.bl)] w k = k (.bl (l.any id)) w := by
  unfold fAny
  simp only [allBl_map]
theorem fSum_m (l : List Int) : fSum [.lst (l.map D.int)] w k = k (.int l.sum) w := by
  unfold fSum
  simp only [allInt_map]
end
theorem ggTup2 {a b : D} {t : GGs} {r : Rho} {w : Wd} {k : Rho → Wd → Prop} : DL.ggTup 2 t (.tup [a, b]) r w k = t [a, b] r w k := by
  show (2 = 2 ∧ t [a, b] r w k) = _
  simp
theorem ggTup3 {a b c : D} {t : GGs} {r : Rho} {w : Wd} {k : Rho → Wd → Prop} : DL.ggTup 3 t (.tup [a, b, c]) r w k = t [a, b, c] r w k := by
  show (3 = 3 ∧ t [a, b, c] r w k) = _
  simp
theorem ggNil0 {r : Rho} {w : Wd} {k : Rho → Wd → Prop} : DL.ggNil [] r w k = k r w := by
  show ([] = [] ∧ k r w) = _
  simp
theorem ggCons1 {d : D} {ds : List D} {t : GG} {u : GGs} {r : Rho} {w : Wd} {k : Rho → Wd → Prop} : DL.ggCons t u (d :: ds) r w k = t d r w fun r1 w1 => u ds r1 w1 k := rfl
/-! ### equality -/
section
variable {w : Wd} {k : KD} {i j a b c d : Int} {s t : Str}
theorem eqD_i : eqD (.int i) (.int j) w k = k (.bl (decide (i = j))) w := by
  simp [eqD, eqD0, toPD, SeqAt.shaped, PyData.canLay0, PyData.depth, PyData.eqv, Bool.beq_eq_decide_eq]
theorem neD_i : neD (.int i) (.int j) w k = k (.bl (!decide (i = j))) w := by
  simp [neD, neD0, toPD, SeqAt.shaped, PyData.canLay0, PyData.depth, PyData.eqv, Bool.beq_eq_decide_eq]
theorem eqD_s : eqD (.str s) (.str t) w k = k (.bl (decide (s = t))) w := rfl
theorem neD_s : neD (.str s) (.str t) w k = k (.bl (!decide (s = t))) w := rfl
theorem eqD_b {p q : Bool} : eqD (.bl p) (.bl q) w k = k (.bl (decide (p = q))) w := by
  simp [eqD, eqD0, toPD, SeqAt.shaped, PyData.canLay0, PyData.depth, PyData.eqv, Bool.beq_eq_decide_eq]
theorem neD_b {p q : Bool} : neD (.bl p) (.bl q) w k = k (.bl (!decide (p = q))) w := by
  simp [neD, neD0, toPD, SeqAt.shaped, PyData.canLay0, PyData.depth, PyData.eqv, Bool.beq_eq_decide_eq]
theorem eqD_f : eqD (.tup [.int a, .int b]) (.tup [.int c, .int d]) w k = k (.bl (decide (a = c ∧ b = d))) w := by
  simp [eqD, eqD0, toPD, toPDs, SeqAt.shaped, PyData.canLay0, PyData.canLayAll0, PyData.depth, PyData.depthAll, PyData.eqv, PyData.eqvAll, Bool.beq_eq_decide_eq]
theorem neD_f : neD (.tup [.int a, .int b]) (.tup [.int c, .int d]) w k = k (.bl (!decide (a = c ∧ b = d))) w := by
  simp [neD, neD0, toPD, toPDs, SeqAt.shaped, PyData.canLay0, PyData.canLayAll0, PyData.depth, PyData.depthAll, PyData.eqv, PyData.eqvAll, Bool.beq_eq_decide_eq]
end
theorem nc0 : ((0 : Nat) : Int) = 0 := rfl
theorem nc1 : ((1 : Nat) : Int) = 1 := rfl
theorem nc2 : ((2 : Nat) : Int) = 2 := rfl
theorem nc3 : ((3 : Nat) : Int) = 3 := rfl
theorem nc4 : ((4 : Nat) : Int) = 4 := rfl
theorem nc5 : ((5 : Nat) : Int) = 5 := rfl
theorem nc6 : ((6 : Nat) : Int) = 6 := rfl
theorem nc7 : ((7 : Nat) : Int) = 7 := rfl
theorem nc8 : ((8 : Nat) : Int) = 8 := rfl
theorem nc9 : ((9 : Nat) : Int) = 9 := rfl
theorem bl_map (f : D → Bool) (xs : List D) : (xs.map fun x => D.bl (f x)) = (xs.map f).map D.bl := by rw [List.map_map]; rfl
/-! ### indices -/
theorem at_nat {α : Type} {xs : List α} {r : Int} (h0 : 0 ≤ r) (h1 : r < xs.length) : atI xs r = xs[r.toNat]? := by
  unfold atI ixN
  rw [if_pos h0, if_pos h1]
  rfl
theorem at_0 {α : Type} {x : α} {xs : List α} : atI (x :: xs) 0 = some x := by
  rw [at_nat (by decide) (by simp)]
  rfl
theorem at_1 {α : Type} {x y : α} {xs : List α} : atI (x :: y :: xs) 1 = some y := by
  rw [at_nat (by decide) (by simp; omega)]
  rfl
theorem at_2 {α : Type} {x y z : α} {xs : List α} : atI (x :: y :: z :: xs) 2 = some z := by
  rw [at_nat (by decide) (by simp; omega)]
  rfl
theorem at_some {α : Type} {xs : List α} {r : Int} (h0 : 0 ≤ r) (h1 : r < xs.length) : ∃ x, x ∈ xs ∧ atI xs r = some x := by
  rw [at_nat h0 h1]
  have : r.toNat < xs.length := by omega
  exact ⟨xs[r.toNat], List.getElem_mem this, List.getElem?_eq_getElem this⟩
theorem ix_all {xs : List D} {r : Int} {w : Wd} {k : KD} (Pd : D → Prop) (h0 : 0 ≤ r) (h1 : r < xs.length) (hP : ∀ x ∈ xs, Pd x) (hk : ∀ x, Pd x → k x w) : ixD (.lst xs) (.int r) w k := by
  obtain ⟨x, hx, e⟩ := at_some h0 h1
  rw [ixD_l, e]
  exact hk x (hP x hx)
theorem ix_allT {xs : List D} {r : Int} {w : Wd} {k : KD} (Pd : D → Prop) (h0 : 0 ≤ r) (h1 : r < xs.length) (hP : ∀ x ∈ xs, Pd x) (hk : ∀ x, Pd x → k x w) : ixD (.tup xs) (.int r) w k := by
  obtain ⟨x, hx, e⟩ := at_some h0 h1
  rw [ixD_t, e]
  exact hk x (hP x hx)
theorem all_nil {α : Type} {Pd : α → Prop} : ∀ x ∈ ([] : List α), Pd x := fun _ h => nomatch h
theorem all_cons {α : Type} {Pd : α → Prop} {y : α} {ys : List α} (h : Pd y) (hs : ∀ x ∈ ys, Pd x) : ∀ x ∈ y :: ys, Pd x := List.forall_mem_cons.mpr ⟨h, hs⟩
/-- a comprehension whose items change nothing -/
theorem lc_map {gt : GG} {ge : GE} {Ok : Wd → Prop} {ρ : Rho} {k : KD} {items : List D} {w : Wd} (f : D → D) (hOk : Ok w) (hl : items.length ≤ 100000) (h : ∀ x, x ∈ items → ∀ k' : KD, k' (f x) w → gt x ρ w fun ρ1 w1 => ge ρ1 w1 noX k') (hk : k (.lst (items.map f)) w) :
    ∃ P : List D → List D → Wd → Prop, P items [] w ∧ LcS gt gYes ge Ok ρ k P := by
  refine ⟨fun rem acc w' => w' = w ∧ ∃ dn, items = dn ++ rem ∧ acc = dn.map f, ⟨rfl, [], rfl, rfl⟩, ?_, ?_⟩
  · rintro acc w' ⟨rfl, dn, e, rfl⟩
    rw [List.append_nil] at e
    subst e
    exact ⟨hOk, hk⟩
  · rintro x xs acc w' ⟨rfl, dn, e, rfl⟩
    refine ⟨hOk, ?_⟩
    have hx : x ∈ items := by rw [e]; simp
    have := h x hx (fun y w3 => (dn.map f).length < sizeLine ∧ (w3 = w' ∧ ∃ dn', items = dn' ++ xs ∧ dn.map f ++ [y] = dn'.map f)) ⟨?_, rfl, dn ++ [x], by rw [e]; simp, by simp⟩
    · exact this
    · rw [List.length_map]
      have : dn.length ≤ items.length := by rw [e]; simp
      exact Nat.lt_of_le_of_lt (Nat.le_trans this hl) (by decide)
theorem take_ok {w : Wd} {m : Int} {n : Nat} {kx : KX} {k : KD} (hm : 0 < m ∧ m.natAbs.log2 < 9000) (hn : w.n = some (n + 1)) (h : ∀ r, 0 ≤ r → r < m → k (.int r) ⟨w.M, some n⟩) : gTake [.st, .int m] w kx k := ⟨m, n, rfl, hm, hn, h⟩
theorem take_use {w : Wd} {m : Int} {c : Nat} {kx : KX} {k : KD} (n : Nat) (hn : w.n = some c) (hc : n + 1 ≤ c) (hm : 0 < m ∧ m.natAbs.log2 < 9000) (h : ∀ r c', 0 ≤ r → r < m → n ≤ c' → k (.int r) ⟨w.M, some c'⟩) : gTake [.st, .int m] w kx k :=
  ⟨m, c - 1, rfl, hm, by rw [hn]; congr 1; omega, fun r h0 h1 => h r _ h0 h1 (by omega)⟩
theorem log_of {m : Nat} (h : m < 2 ^ 200) : m.log2 < 9000 := Nat.lt_trans (PySem.Flt.log2_lt_of (by decide) h) (by decide)
theorem range_len {n : Nat} : ((List.range n).map fun (i : Nat) => D.int (i : Int)).length = n := by simp
end DL

namespace DL
open PySem PySem.Spec PyProof.Rows L2 RZ

/-! ### zip -/
def zipD (xs ys : List D) : List D := List.zipWith (fun x y => .tup [x, y]) xs ys
def giZip (ga : GA) : GI := fun ρ w kx k => ga ρ w kx fun ds w1 => match ds with
  | [.lst xs, .lst ys] => k (zipD xs ys) (fun _ => True) w1
  | [.tup xs, .tup ys] => k (zipD xs ys) (fun _ => True) w1
  | [.rf i, .lst ys] => match w1.M[i]? with
    | some (.lst xs) => k (zipD xs ys) (fun w => w.M[i]? = some (.lst xs)) w1
    | _ => False
  | _ => False
theorem zip_get {xs ys : List D} {i : Nat} {d : D} (h : (zipD xs ys)[i]? = some d) : ∃ x y, xs[i]? = some x ∧ ys[i]? = some y ∧ d = .tup [x, y] := by
  unfold zipD at h
  rw [List.getElem?_zipWith] at h
  cases h1 : xs[i]? with
  | none => rw [h1] at h; cases h
  | some x =>
    cases h2 : ys[i]? with
    | none => rw [h1, h2] at h; cases h
    | some y =>
      rw [h1, h2] at h
      exact ⟨x, y, rfl, rfl, (Option.some.inj h).symm⟩
theorem zip_len {xs ys : List D} {i : Nat} (h : (zipD xs ys).length = i) : xs.length ≤ i ∨ ys.length ≤ i := by
  unfold zipD at h
  rw [List.length_zipWith] at h
  omega
section
variable {X : Cx} {E : XK}
theorem zip_new {K : PySem.W.Frag} {G : Gh} {S H : Hp} {w : Wd} {x y : V} {d e : D} {T : Addr} (hr : HR K G S w H) (hT : H T = none) (r1 : Rep K G S x d) (r2 : Rep K G S y e) :
    ∃ G2 S2, Ext G S G2 S2 ∧ HR K G2 S2 w (upd H T (.tup [x, y])) ∧ Rep K G2 S2 (.ref T) (.tup [d, e]) := by
  obtain ⟨h1, x1⟩ := hr.newS hT (.tup [x, y])
  exact ⟨G, _, x1, h1, .tup upd_same ((RepAll.cons r1 (.cons r2 .nil)).mono x1)⟩
theorem iter_zipL {K : PySem.W.Frag} {G : Gh} {S : Hp} {a b : Addr} {xs ys : List V} {ds es : List D} (e1 : S a = some (.lst xs)) (e2 : S b = some (.lst ys)) (r1 : RepAll K G S xs ds) (r2 : RepAll K G S ys es) : IterOk K (Itz K a b) (zipD ds es) (fun _ => True) G S := by
  intro i G1 S1 w1 H1 x1 hr1 _
  have q1 : SqL K H1 a xs := .inl (.inl (hr1.same _ _ (x1.same _ _ e1)))
  have q2 : SqL K H1 b ys := .inl (.inl (hr1.same _ _ (x1.same _ _ e2)))
  refine ⟨fun d hd => ?_, fun hl => ⟨xs, ys, q1, q2, by rw [r1.length, r2.length]; exact zip_len hl⟩⟩
  obtain ⟨d1, d2, g1, g2, rfl⟩ := zip_get hd
  obtain ⟨v1, h1, h2⟩ := r1.get g1
  obtain ⟨v2, h3, h4⟩ := r2.get g2
  refine ⟨⟨xs, ys, v1, v2, q1, q2, h1, h3⟩, fun x H2 y => ?_⟩
  obtain ⟨T, u1, u2, rfl, hT, rfl, y1, y2⟩ := y
  have z1 := y1 xs q1
  have z2 := y2 ys q2
  rw [h1] at z1
  rw [h3] at z2
  cases z1
  cases z2
  exact zip_new hr1 hT (h2.mono x1) (h4.mono x1)
theorem iter_zipT {K : PySem.W.Frag} {G : Gh} {S : Hp} {a b : Addr} {xs ys : List V} {ds es : List D} (e1 : S a = some (.tup xs)) (e2 : S b = some (.tup ys)) (r1 : RepAll K G S xs ds) (r2 : RepAll K G S ys es) : IterOk K (ItzT K a b) (zipD ds es) (fun _ => True) G S := by
  intro i G1 S1 w1 H1 x1 hr1 _
  have q1 : SqT K H1 a xs := .inl (.inl (hr1.same _ _ (x1.same _ _ e1)))
  have q2 : SqT K H1 b ys := .inl (.inl (hr1.same _ _ (x1.same _ _ e2)))
  refine ⟨fun d hd => ?_, fun hl => ⟨xs, ys, q1, q2, by rw [r1.length, r2.length]; exact zip_len hl⟩⟩
  obtain ⟨d1, d2, g1, g2, rfl⟩ := zip_get hd
  obtain ⟨v1, h1, h2⟩ := r1.get g1
  obtain ⟨v2, h3, h4⟩ := r2.get g2
  refine ⟨⟨xs, ys, v1, v2, q1, q2, h1, h3⟩, fun x H2 y => ?_⟩
  obtain ⟨T, u1, u2, rfl, hT, rfl, y1, y2⟩ := y
  have z1 := y1 xs q1
  have z2 := y2 ys q2
  rw [h1] at z1
  rw [h3] at z2
  cases z1
  cases z2
  exact zip_new hr1 hT (h2.mono x1) (h4.mono x1)
theorem iter_zipC {K : PySem.W.Frag} {G : Gh} {S : Hp} {a b : Addr} {i : Nat} {ys : List V} {ds es : List D} (e1 : G.al[i]? = some a) (e2 : S b = some (.lst ys)) (r2 : RepAll K G S ys es) : IterOk K (Itz K a b) (zipD ds es) (fun w => w.M[i]? = some (.lst ds)) G S := by
  intro j G1 S1 w1 H1 x1 hr1 ok
  obtain ⟨_, xs, h1, r1⟩ := hr1.cell i a _ (x1.alGet e1) ok
  have q1 : SqL K H1 a xs := .inl (.inl h1)
  have q2 : SqL K H1 b ys := .inl (.inl (hr1.same _ _ (x1.same _ _ e2)))
  refine ⟨fun d hd => ?_, fun hl => ⟨xs, ys, q1, q2, by rw [r1.length, r2.length]; exact zip_len hl⟩⟩
  obtain ⟨d1, d2, g1, g2, rfl⟩ := zip_get hd
  obtain ⟨v1, h1, h2⟩ := r1.get g1
  obtain ⟨v2, h3, h4⟩ := r2.get g2
  refine ⟨⟨xs, ys, v1, v2, q1, q2, h1, h3⟩, fun x H2 y => ?_⟩
  obtain ⟨T, u1, u2, rfl, hT, rfl, y1, y2⟩ := y
  have z1 := y1 xs q1
  have z2 := y2 ys q2
  rw [h1] at z1
  rw [h3] at z2
  cases z1
  cases z2
  exact zip_new hr1 hT h2 (h4.mono x1)
theorem di_zip {e e2 : Expr} {ga : GA} {p pos tpos : Pos} {elts : List Expr} {kk : Nat} (B : Blt X.mg) (hg : Gl X "zip") (ha : DA X E [e, e2] ga)
    (hs : starEach [e, e2] X.env = (false, eval e X.env) :: starEach [e2] X.env := by rfl) (hpl : (backTo pos (starEach [e2] X.env)).any (·.1) = false := by rfl) :
    DI X E (.Tuple elts kk tpos) (.Call (.Name "zip" p) [e, e2] [] pos) (giZip ga) := pi_imp (pi_zipA hg B.zip_ ha hs hpl) (by
  rintro σ H R ⟨G, S, ρ, w, kx, k, hr, sr, xl, kl, h⟩
  refine ⟨G, S, ρ, w, kx, _, hr, sr, xl, fun G1 S1 H1 w1 ds vs x1 hr1 rp h1 => ?_, h⟩
  split at h1
  · obtain ⟨v, u, rfl, r1, r2⟩ := two_rep rp
    cases r1 with
    | lst e1 q1 => cases r2 with
      | lst e2 q2 => exact ⟨_, _, _, _, rfl, .inl ⟨.inl (.inl (hr1.same _ _ e1)), .inl (.inl (hr1.same _ _ e2)), kl _ _ _ _ _ _ _ x1 hr1 (iter_zipL e1 e2 q1 q2) h1⟩⟩
  · obtain ⟨v, u, rfl, r1, r2⟩ := two_rep rp
    cases r1 with
    | tup e1 q1 => cases r2 with
      | tup e2 q2 => exact ⟨_, _, _, _, rfl, .inr ⟨.inl (.inl (hr1.same _ _ e1)), .inl (.inl (hr1.same _ _ e2)), kl _ _ _ _ _ _ _ x1 hr1 (iter_zipT e1 e2 q1 q2) h1⟩⟩
  · obtain ⟨v, u, rfl, r1, r2⟩ := two_rep rp
    split at h1
    · rename_i em
      cases r1 with
      | rf e1 => cases r2 with
        | lst e2 q2 =>
          obtain ⟨_, xs, g1, g2⟩ := hr1.cell _ _ _ e1 em
          exact ⟨_, _, _, _, rfl, .inl ⟨.inl (.inl g1), .inl (.inl (hr1.same _ _ e2)), kl _ _ _ _ _ _ _ x1 hr1 (iter_zipC e1 e2 q2) h1⟩⟩
    · exact h1.elim
  · exact h1.elim)
end

/-! ### xs[::-1] -/
def gRevL (g : GE) : GE := fun ρ w kx k => g ρ w kx fun x w1 => match x with
  | .lst xs => k (.lst xs.reverse) w1
  | _ => False
theorem RepAll.rev {K : PySem.W.Frag} {G : Gh} {S : Hp} : ∀ {vs : List V} {ds : List D}, RepAll K G S vs ds → RepAll K G S vs.reverse ds.reverse
  | _, _, .nil => .nil
  | _, _, .cons h r => by
    rw [List.reverse_cons, List.reverse_cons]
    exact (RepAll.rev r).append (.cons h .nil)
theorem de_revL {X : Cx} {E : XK} {e : Expr} {g : GE} {k : Nat} {p1 p2 p3 pos : Pos} (he : DE X E e g) : DE X E (.Subscript e (.Slice none none (some (.UnaryOp .USub (.Constant (.int 1) k p1) p2)) p3) pos) (gRevL g) := by
  refine pe_imp (pe_revL he) ?_
  rintro σ H Q ⟨G, S, ρ, w, kx, k, hr, sr, xl, kl, h⟩
  refine ⟨G, S, ρ, w, kx, _, hr, sr, xl, fun G1 S1 H1 w1 d x x1 hr1 rp h1 => ?_, h⟩
  cases rp with
  | lst e r => exact ⟨_, _, rfl, .inl (.inl (hr1.same _ _ e)), (kl.mono x1).newL hr1 (RepAll.rev r) h1⟩
  | _ => exact h1.elim
/-! ### comprehensions by a relation -/
theorem paired_snoc {α β : Type} {R : α → β → Prop} {x : α} {y : β} (h : R x y) : ∀ {xs : List α} {ys : List β}, Paired R xs ys → Paired R (xs ++ [x]) (ys ++ [y])
  | _, _, .nil => .cons h .nil
  | _, _, .cons r t => .cons r (paired_snoc h t)
theorem lc_rel {gt : GG} {ge : GE} {Ok : Wd → Prop} {ρ : Rho} {k : KD} {items : List D} {w : Wd} (R : D → D → Prop) (hOk : Ok w) (hl : items.length ≤ 100000) (h : ∀ x, x ∈ items → ∀ k' : KD, (∀ y, R x y → k' y w) → gt x ρ w fun ρ1 w1 => ge ρ1 w1 noX k')
    (hk : ∀ ys, Paired R items ys → k (.lst ys) w) : ∃ P : List D → List D → Wd → Prop, P items [] w ∧ LcS gt gYes ge Ok ρ k P := by
  refine ⟨fun rem acc w' => w' = w ∧ ∃ dn, items = dn ++ rem ∧ Paired R dn acc, ⟨rfl, [], rfl, .nil⟩, ?_, ?_⟩
  · rintro acc w' ⟨rfl, dn, e, r⟩
    rw [List.append_nil] at e
    subst e
    exact ⟨hOk, hk _ r⟩
  · rintro x xs acc w' ⟨rfl, dn, e, r⟩
    refine ⟨hOk, ?_⟩
    have hx : x ∈ items := by rw [e]; simp
    have := h x hx (fun y w3 => acc.length < sizeLine ∧ (w3 = w' ∧ ∃ dn', items = dn' ++ xs ∧ Paired R dn' (acc ++ [y]))) fun y hy => ⟨?_, rfl, dn ++ [x], by rw [e]; simp, paired_snoc hy r⟩
    · exact this
    · have l := Paired.length r
      have : dn.length ≤ items.length := by rw [e]; simp
      exact Nat.lt_of_le_of_lt (Nat.le_trans (by omega) hl) (by decide)
/-! ### slices -/
theorem slD_l {xs : List D} {lo hi : Option Int} {w : Wd} {k : KD} : slD (.lst xs) lo hi w k = k (.lst (cutD xs lo hi)) w := rfl
theorem cut_map {α β : Type} (f : α → β) (xs : List α) (lo hi : Option Int) : cutD (xs.map f) lo hi = (cutD xs lo hi).map f := by
  unfold cutD
  rw [List.length_map, List.map_take, List.map_drop]
theorem cut_mem {α : Type} {xs : List α} {lo hi : Option Int} {x : α} (h : x ∈ cutD xs lo hi) : x ∈ xs := List.mem_of_mem_drop (List.mem_of_mem_take h)
theorem cut_len {α : Type} (xs : List α) (k : Nat) : (cutD xs none (some (k : Int))).length ≤ k := by
  unfold cutD
  rw [HT.sIx_none, HT.sIx_nat, List.drop_zero, List.length_take]
  omega
/-! ### plain data -/
mutual
def plain : D → Bool
  | .non => true
  | .int _ => true
  | .str _ => true
  | .lst xs => plains xs
  | .tup xs => plains xs
  | _ => false
def plains : List D → Bool
  | [] => true
  | x :: xs => plain x && plains xs
end
mutual
def okF : D → Bool
  | .non => true
  | .bl _ => true
  | .int _ => true
  | .str _ => true
  | .lst xs => okFs xs
  | .tup xs => okFs xs
  | _ => false
def okFs : List D → Bool
  | [] => true
  | x :: xs => okF x && okFs xs
end
mutual
def dep : D → Nat
  | .lst xs => deps xs + 1
  | .tup xs => deps xs + 1
  | _ => 0
def deps : List D → Nat
  | [] => 0
  | x :: xs => max (dep x) (deps xs)
end
-- no list within is too long for a walk
mutual
def wid : D → Bool
  | .lst xs => decide (xs.length ≤ 100000) && wids xs
  | .tup xs => decide (xs.length ≤ 100000) && wids xs
  | _ => true
def wids : List D → Bool
  | [] => true
  | x :: xs => wid x && wids xs
end
theorem plains_mem : ∀ {xs : List D} {x : D}, plains xs = true → x ∈ xs → plain x = true
  | y :: ys, x, h, hx => by
    unfold plains at h
    rw [Bool.and_eq_true] at h
    rcases List.mem_cons.mp hx with rfl | hx
    · exact h.1
    · exact plains_mem h.2 hx
theorem okFs_mem : ∀ {xs : List D} {x : D}, okFs xs = true → x ∈ xs → okF x = true
  | y :: ys, x, h, hx => by
    unfold okFs at h
    rw [Bool.and_eq_true] at h
    rcases List.mem_cons.mp hx with rfl | hx
    · exact h.1
    · exact okFs_mem h.2 hx
theorem wids_mem : ∀ {xs : List D} {x : D}, wids xs = true → x ∈ xs → wid x = true
  | y :: ys, x, h, hx => by
    unfold wids at h
    rw [Bool.and_eq_true] at h
    rcases List.mem_cons.mp hx with rfl | hx
    · exact h.1
    · exact wids_mem h.2 hx
theorem deps_mem : ∀ {xs : List D} {x : D}, x ∈ xs → dep x ≤ deps xs
  | y :: ys, x, hx => by
    unfold deps
    rcases List.mem_cons.mp hx with rfl | hx
    · omega
    · have := deps_mem hx
      omega
mutual
theorem plain_ok : ∀ {d : D}, plain d = true → okF d = true
  | .non, _ => rfl
  | .int _, _ => rfl
  | .str _, _ => rfl
  | .lst xs, h => by
    unfold plain at h
    unfold okF
    exact plains_ok h
  | .tup xs, h => by
    unfold plain at h
    unfold okF
    exact plains_ok h
theorem plains_ok : ∀ {xs : List D}, plains xs = true → okFs xs = true
  | [], _ => rfl
  | x :: xs, h => by
    unfold plains at h
    rw [Bool.and_eq_true] at h
    unfold okFs
    rw [Bool.and_eq_true]
    exact ⟨plain_ok h.1, plains_ok h.2⟩
end
/-! ### equality of plain data -/
mutual
def lay : D → Bool
  | .non => true
  | .bl _ => true
  | .int _ => true
  | .str s => PyData.strOk s
  | .lst xs => lays xs
  | .tup xs => lays xs
  | _ => false
def lays : List D → Bool
  | [] => true
  | x :: xs => lay x && lays xs
end
mutual
theorem lay_pd : ∀ {d : D}, lay d = true → ∃ p, toPD d = some p ∧ p.canLay0 = true ∧ p.depth = dep d
  | .non, _ => ⟨_, rfl, rfl, rfl⟩
  | .bl _, _ => ⟨_, rfl, rfl, rfl⟩
  | .int _, _ => ⟨_, rfl, rfl, rfl⟩
  | .str s, h => ⟨_, rfl, h, rfl⟩
  | .lst xs, h => by
    obtain ⟨ps, h1, h2, h3⟩ := lays_pd (xs := xs) h
    refine ⟨.list ps, by rw [toPD, h1]; rfl, h2, ?_⟩
    show PyData.depthAll ps + 1 = _
    rw [h3]
    rfl
  | .tup xs, h => by
    obtain ⟨ps, h1, h2, h3⟩ := lays_pd (xs := xs) h
    refine ⟨.tuple ps, by rw [toPD, h1]; rfl, h2, ?_⟩
    show PyData.depthAll ps + 1 = _
    rw [h3]
    rfl
theorem lays_pd : ∀ {xs : List D}, lays xs = true → ∃ ps, toPDs xs = some ps ∧ PyData.canLayAll0 ps = true ∧ PyData.depthAll ps = deps xs
  | [], _ => ⟨[], rfl, rfl, rfl⟩
  | x :: xs, h => by
    unfold lays at h
    rw [Bool.and_eq_true] at h
    obtain ⟨p, h1, h2, h3⟩ := lay_pd h.1
    obtain ⟨ps, h4, h5, h6⟩ := lays_pd h.2
    refine ⟨p :: ps, by rw [toPDs, h1, h4], by simp [PyData.canLayAll0, h2, h5], ?_⟩
    show max p.depth (PyData.depthAll ps) = max (dep x) (deps xs)
    rw [h3, h6]
end
theorem neD_self {d : D} {w : Wd} {k : KD} (h : lay d = true) (hd : dep d ≤ 64) (hk : k (.bl false) w) : neD d d w k := by
  obtain ⟨p, h1, h2, h3⟩ := lay_pd h
  have sh : SeqAt.shaped p = true := by
    unfold SeqAt.shaped
    rw [h2, h3, decide_eq_true hd]
    rfl
  have e : neD0 d d w k := by
    unfold neD0
    rw [h1]
    refine ⟨sh, sh, ?_⟩
    rw [SeqAt.eqv_refl p h2]
    exact hk
  cases d with
  | str s =>
    rw [neD_s, decide_eq_true rfl]
    exact hk
  | _ => exact e
theorem eqD_self {d : D} {w : Wd} {k : KD} (h : lay d = true) (hd : dep d ≤ 64) (hk : k (.bl true) w) : eqD d d w k := by
  obtain ⟨p, h1, h2, h3⟩ := lay_pd h
  have sh : SeqAt.shaped p = true := by
    unfold SeqAt.shaped
    rw [h2, h3, decide_eq_true hd]
    rfl
  have e : eqD0 d d w k := by
    unfold eqD0
    rw [h1]
    refine ⟨sh, sh, ?_⟩
    rw [SeqAt.eqv_refl p h2]
    exact hk
  cases d with
  | str s =>
    rw [eqD_s, decide_eq_true rfl]
    exact hk
  | _ => exact e
/-- what the laws' own comparison tells: alike, kind by kind -/
def gSame : Nat → GF
  | 0 => fun _ _ _ _ => False
  | j + 1 => fun ds w _ k => ∃ a b : D, ds = [a, b] ∧ (okF a = true ∧ plain b = true ∧ dep b ≤ j ∧ wid a = true ∧ wid b = true) ∧ ∀ c : Bool, (c = true ↔ a = b) → k (.bl c) w
theorem zip_pairs {xs ys : List D} (hl : xs.length = ys.length) : ∀ {cs : List D}, Paired (fun p y => ∃ c a b, p = D.tup [a, b] ∧ y = D.bl c ∧ (c = true ↔ a = b)) (zipD xs ys) cs → ∃ bs : List Bool, cs = bs.map D.bl ∧ (bs.all id = true ↔ xs = ys) := by
  induction xs generalizing ys with
  | nil =>
    intro cs h
    cases ys with
    | cons y ys => cases hl
    | nil =>
      cases h
      exact ⟨[], rfl, by simp⟩
  | cons x xs ih =>
    intro cs h
    cases ys with
    | nil => cases hl
    | cons y ys =>
      unfold zipD at h
      rw [List.zipWith_cons_cons] at h
      cases h with
      | cons h1 h2 =>
        obtain ⟨c, a, b, e1, rfl, h3⟩ := h1
        obtain ⟨bs, rfl, h4⟩ := ih (by simpa using hl) h2
        cases e1
        refine ⟨c :: bs, rfl, ?_⟩
        rw [List.all_cons, Bool.and_eq_true, h4]
        show c = true ∧ xs = ys ↔ x :: xs = y :: ys
        rw [h3, List.cons.injEq]
end DL

namespace DL
open PySem PySem.Spec PyProof.Rows L2 RZ

/-! ### methods of lists and texts -/
abbrev FM := D → List D → Wd → KD → Prop
def MtOk (K : PySem.W.Frag) (r : V → List V → Hp → VK → Prop) (f : FM) : Prop := ∀ {G S H w x d vs ds k Q}, HR K G S w H → Rep K G S x d → RepAll K G S vs ds → KL K G S k Q → f d ds w k → r x vs H Q
def isTy (T : String) (d : D) (w : Wd) : Prop := match d with
  | .str _ => T = "str"
  | .lst _ => T = "list"
  | .rf i => match w.M[i]? with
    | some (.lst _) => T = "list"
    | some (.dk _) => T = "dict"
    | _ => False
  | _ => False
theorem isTy_ok {K : PySem.W.Frag} {G : Gh} {S H : Hp} {w : Wd} {v : V} {d : D} {T : String} (hr : HR K G S w H) (r : Rep K G S v d) (h : isTy T d w) : tyV K T v H := by
  cases r with
  | str x => exact h
  | lst e r => exact .inl ⟨h, _, .inl (.inl (hr.same _ _ e))⟩
  | rf e =>
    unfold isTy at h
    simp only at h
    split at h
    · rename_i e2
      obtain ⟨_, ys, h1, h2⟩ := hr.cell _ _ _ e e2
      exact .inl ⟨h, ys, .inl (.inl h1)⟩
    · rename_i e2
      obtain ⟨_, ys, h1, h2⟩ := hr.cell _ _ _ e e2
      exact .inr (.inr (.inl ⟨h, .inl ⟨ys, h1⟩⟩))
    · exact h.elim
  | _ => exact h.elim
def gBM (T : String) (f : FM) (go : GE) (ga : GA) : GE := fun ρ w kx k => go ρ w kx fun x w1 => isTy T x w1 ∧ ga ρ w1 kx fun xs w2 => f x xs w2 k
section
variable {X : Cx} {E : XK} {o e : Expr} {es : List Expr} {go : GE} {ga : GA} {apos cpos : Pos} {name : Str} {T id : String} {r : V → List V → Hp → VK → Prop} {f : FM}
theorem de_bm (pa : PlainAttrs T) (slot : Slot T name id) (hty : typeOf (.builtin id) = pure (.type "method_descriptor")) (hm : MtR X id r) (hf : MtOk X.K r f) (ho : DE X E o go) (ha : DA X E (e :: es) ga)
    (hbase : attributeBase o name X.env (eval o X.env) = eval o X.env)
    (hfew : ((backTo cpos (starEach (e :: es) X.env)).all (fun x => !x.1) && (backToKw cpos (keywordEach [] X.env)).all (fun x => x.1.isSome)
      && decide ((e :: es).length + ([] : List Keyword).length + (if ([] : List Keyword).isEmpty then 0 else 1) < 30)) = true)
    (hline : (apos.endLine == cpos.line) = true) (hs : starEach (e :: es) X.env = (false, eval e X.env) :: starEach es X.env) (hplain : (backTo cpos (starEach es X.env)).any (·.1) = false) :
    DE X E (.Call (.Attribute o name apos) (e :: es) [] cpos) (gBM T f go ga) := pe_imp (pe_bm pa slot hty hm ho ha hbase hfew hline hs hplain) (by
  rintro σ H Q ⟨G, S, ρ, w, kx, k, hr, sr, xl, kl, h⟩
  exact ⟨G, S, ρ, w, kx, _, hr, sr, xl, fun G1 S1 H1 w1 d v x1 hr1 rp h1 => ⟨isTy_ok hr1 rp h1.1, G1, S1, ρ, w1, kx, _, hr1, sr.mono x1, xl.mono x1, fun G2 S2 H2 w2 ds vs x2 hr2 rp2 h2 => hf hr2 (rp.mono x2) rp2 (kl.mono (x1.trans x2)) h2, h1.2⟩, h⟩)
theorem de_bm0 (pa : PlainAttrs T) (slot : Slot T name id) (hty : typeOf (.builtin id) = pure (.type "method_descriptor")) (hm : MtR X id r) (hf : MtOk X.K r f) (ho : DE X E o go)
    (hbase : attributeBase o name X.env (eval o X.env) = eval o X.env) (hline : (apos.endLine == cpos.line) = true) :
    DE X E (.Call (.Attribute o name apos) [] [] cpos) (gBM T f go gaNil) := pe_imp (pe_bm0 pa slot hty hm ho hbase hline) (by
  rintro σ H Q ⟨G, S, ρ, w, kx, k, hr, sr, xl, kl, h⟩
  exact ⟨G, S, ρ, w, kx, _, hr, sr, xl, fun G1 S1 H1 w1 d v x1 hr1 rp h1 => ⟨isTy_ok hr1 rp h1.1, hf hr1 rp .nil (kl.mono x1) h1.2⟩, h⟩)
end
/-! cells: append, pop, extend, reverse -/
def cellK (i : Nat) (w : Wd) (f : List D → Prop) : Prop := match w.M[i]? with
  | some (.lst xs) => f xs
  | _ => False
theorem cell_get {K : PySem.W.Frag} {G : Gh} {S H : Hp} {w : Wd} {a : Addr} {i : Nat} {f : List D → Prop} (hr : HR K G S w H) (e : G.al[i]? = some a) (h : cellK i w f) :
    ∃ ds xs, w.M[i]? = some (.lst ds) ∧ S a = none ∧ H a = some (.lst xs) ∧ RepAll K G S xs ds ∧ f ds := by
  unfold cellK at h
  split at h
  · rename_i ds e2
    obtain ⟨h1, xs, h2, h3⟩ := hr.cell _ _ _ e e2
    exact ⟨ds, xs, e2, h1, h2, h3, h⟩
  · exact h.elim
theorem cell_put {K : PySem.W.Frag} {G : Gh} {S H : Hp} {w : Wd} {a : Addr} {i : Nat} {c : Cell} {ys : List V} {es : List D} (hr : HR K G S w H) (e : G.al[i]? = some a) (e2 : w.M[i]? = some c) (hs : S a = none) (r : RepAll K G S ys es) :
    HR K G S ⟨w.M.set i (.lst es), w.n⟩ (upd H a (.lst ys)) := hr.setC e e2 hs ⟨hs, ys, upd_same, r⟩
def mAppend : FM := fun x ds w k => match x, ds with
  | .rf i, [d] => cellK i w fun xs => xs.length < sizeLine ∧ k .non ⟨w.M.set i (.lst (xs ++ [d])), w.n⟩
  | _, _ => False
def mPopAt : FM := fun x ds w k => match x, ds with
  | .rf i, [.int j] => cellK i w fun xs => 0 ≤ j ∧ j < xs.length ∧ j < 2 ^ 63 ∧ someK xs[j.toNat]? fun d => k d ⟨w.M.set i (.lst (xs.eraseIdx j.toNat)), w.n⟩
  | _, _ => False
def mExtend : FM := fun x ds w k => match x, ds with
  | .rf i, [.lst ys] => cellK i w fun xs => xs.length + ys.length ≤ sizeLine ∧ k .non ⟨w.M.set i (.lst (xs ++ ys)), w.n⟩
  | _, _ => False
def mReverse : FM := fun x ds w k => match x, ds with
  | .rf i, [] => cellK i w fun xs => k .non ⟨w.M.set i (.lst xs.reverse), w.n⟩
  | _, _ => False
section
variable {K : PySem.W.Frag}
theorem ok_append : MtOk K rAppend mAppend := by
  intro G S H w x d vs ds k Q hr rx rxs kl h
  unfold mAppend at h
  split at h
  · cases rx with
    | rf e =>
      obtain ⟨es, xs, e2, h1, h2, h3, h4, h5⟩ := cell_get hr e h
      obtain ⟨v, rfl, r⟩ := one_rep rxs
      exact ⟨_, xs, v, rfl, rfl, h2, by rw [h3.length]; exact h4, kl _ _ _ _ _ _ (Ext.refl _ _) (cell_put hr e e2 h1 (h3.append (.cons r .nil))) .non h5⟩
  · exact h.elim
theorem seqIx {n : Nat} {j : Int} (h0 : 0 ≤ j) (h1 : j < n) : seqIndex? j n = some j.toNat := by
  have e : ixN n j = some j.toNat := by
    unfold ixN
    rw [if_pos h0, if_pos h1]
  exact (ixN_seq e).1
theorem ok_popAt : MtOk K rPopAt mPopAt := by
  intro G S H w x d vs ds k Q hr rx rxs kl h
  unfold mPopAt at h
  split at h
  · cases rx with
    | rf e =>
      obtain ⟨es, xs, e2, h1, h2, h3, h4, h5, h6, h7⟩ := cell_get hr e h
      obtain ⟨v, rfl, r⟩ := one_rep rxs
      cases r
      unfold someK at h7
      split at h7
      · rename_i d e3
        obtain ⟨u, e4, r4⟩ := h3.get e3
        exact ⟨_, xs, _, _, u, rfl, rfl, h2, by omega, h6, seqIx h4 (by rw [h3.length]; exact h5), e4, kl _ _ _ _ _ _ (Ext.refl _ _) (cell_put hr e e2 h1 (h3.eraseIdx _)) r4 h7⟩
      · exact h7.elim
  · exact h.elim
theorem ok_extend : MtOk K rExtend mExtend := by
  intro G S H w x d vs ds k Q hr rx rxs kl h
  unfold mExtend at h
  split at h
  · cases rx with
    | rf e =>
      obtain ⟨es, xs, e2, h1, h2, h3, h4, h5⟩ := cell_get hr e h
      obtain ⟨v, rfl, r⟩ := one_rep rxs
      cases r with
      | lst e6 r6 => exact ⟨_, _, xs, _, rfl, rfl, h2, hr.same _ _ e6, by rw [h3.length, r6.length]; exact h4, kl _ _ _ _ _ _ (Ext.refl _ _) (cell_put hr e e2 h1 (h3.append r6)) .non h5⟩
  · exact h.elim
theorem ok_reverse : MtOk K rReverse mReverse := by
  intro G S H w x d vs ds k Q hr rx rxs kl h
  unfold mReverse at h
  split at h
  · cases rx with
    | rf e =>
      obtain ⟨es, xs, e2, h1, h2, h3, h5⟩ := cell_get hr e h
      cases rxs
      exact ⟨_, xs, rfl, rfl, h2, kl _ _ _ _ _ _ (Ext.refl _ _) (cell_put hr e e2 h1 (RepAll.rev h3)) .non h5⟩
  · exact h.elim
end
/-! x.split(sep): a list that stays, or a cell -/
theorem rep_strs {K : PySem.W.Frag} {G : Gh} {S : Hp} : ∀ ys : List Str, RepAll K G S (ys.map V.str) (ys.map D.str)
  | [] => .nil
  | y :: ys => .cons (.str y) (rep_strs ys)
def mSplit : FM := fun x ds w k => match x, ds with
  | .str a, [.str b] => (b.length == 0) = false ∧ a.length + 2 ≤ sizeLine ∧ k (.lst ((Txt.split a b).map D.str)) w
  | _, _ => False
def mSplitC : FM := fun x ds w k => match x, ds with
  | .str a, [.str b] => (b.length == 0) = false ∧ a.length + 2 ≤ sizeLine ∧ k (.rf w.M.length) ⟨w.M ++ [.lst ((Txt.split a b).map D.str)], w.n⟩
  | _, _ => False
def rSplitT : V → List V → Hp → VK → Prop := fun x xs H Q => ∃ a b, x = .str a ∧ xs = [.str b] ∧ (b.length == 0) = false ∧ a.length + 2 ≤ sizeLine ∧ rNewStrs (Txt.split a b) H Q
theorem ok_split {K : PySem.W.Frag} : MtOk K rSplitT mSplit := by
  intro G S H w x d vs ds k Q hr rx rxs kl h
  unfold mSplit at h
  split at h
  · cases rx
    obtain ⟨v, rfl, r⟩ := one_rep rxs
    cases r
    exact ⟨_, _, rfl, rfl, h.1, h.2.1, kl.newL hr (rep_strs _) h.2.2⟩
  · exact h.elim
theorem ok_splitC {K : PySem.W.Frag} : MtOk K rSplitT mSplitC := by
  intro G S H w x d vs ds k Q hr rx rxs kl h
  unfold mSplitC at h
  split at h
  · cases rx
    obtain ⟨v, rfl, r⟩ := one_rep rxs
    cases r
    exact ⟨_, _, rfl, rfl, h.1, h.2.1, kl.newCL hr (rep_strs _) h.2.2⟩
  · exact h.elim
/-! xs.count(y): flat things -/
theorem countP_eqU {x : V} : ∀ {xs : List V} {us : List Value}, Vals xs us → xs.all flatV = true → us.countP (eqU x) = xs.countP fun y => eqV y x
  | _, _, .nil, _ => rfl
  | _, _, .cons r t, h => by
    rw [List.all_cons, Bool.and_eq_true] at h
    rw [List.countP_cons, List.countP_cons, countP_eqU t h.2, eqU_of r h.1]
def rCntV (K : PySem.W.Frag) : V → List V → Hp → VK → Prop := fun x xs H Q => ∃ (p : Addr) (ys : List V) (y : V), x = .ref p ∧ xs = [y] ∧ flatV y = true ∧ ys.all flatV = true ∧ SqL K H p ys ∧ Q (.int ((ys.countP fun z => eqV z y : Nat) : Int)) H
theorem mt_countV {X : Cx} : MtR X "list.count" (rCntV X.K) := by
  intro pins s σ H x xs v us Q I rx rxs h
  obtain ⟨p, ys, y, rfl, rfl, fy, fys, hs, q⟩ := h
  cases rx
  obtain ⟨u, rfl, ru⟩ := rxs.one
  obtain ⟨its, rv, ⟨⟨cls, dd, data, sl⟩, n, ho, hc, hdn, hd⟩, hlen⟩ := I.list hs
  simp only at hc hd
  subst hc hd
  refine call_meets PySem.F.slot_list_count ⟨_, ho, rfl⟩ PySem.F.entry_list_count (PySem.F.args_list_count_2 _ _)
    (SeqAt.list_countAt p its.toArray n dd sl u (eqU y)) ⟨ho, fun z hz => mem_eqAt ru fy rv fys z (by simpa using hz), ?_⟩
  have ec : its.toArray.toList.countP (eqU y) = ys.countP fun z => eqV z y := by
    rw [List.toList_toArray]
    exact countP_eqU rv fys
  refine ⟨.int ((ys.countP fun z => eqV z y : Nat) : Int), H, I.tok _, ⟨s.toks, ?_⟩, q⟩
  show Value.int ((its.toArray.toList.countP (eqU y) : Nat) : Int) s.toks = Value.int ((ys.countP fun z => eqV z y : Nat) : Int) s.toks
  rw [ec]
def allStr : List D → Option (List Str)
  | [] => some []
  | .str b :: r => match allStr r with
    | some bs => some (b :: bs)
    | none => none
  | _ => none
theorem rep_strs' {K : PySem.W.Frag} {G : Gh} {S : Hp} : ∀ {ds : List D} {vs : List V} {bs : List Str}, RepAll K G S vs ds → allStr ds = some bs → vs = bs.map V.str
  | [], _, _, r, e => by
    cases r
    cases e
    rfl
  | d :: ds, _, _, r, e => by
    cases r with
    | cons h r =>
      cases d with
      | str b =>
        cases h
        unfold allStr at e
        cases q : allStr ds with
        | none =>
          rw [q] at e
          cases e
        | some bs =>
          rw [q] at e
          cases e
          rw [rep_strs' r q]
          rfl
      | _ => simp [allStr] at e
theorem allStr_map (l : List Str) : allStr (l.map D.str) = some l := by
  induction l with
  | nil => rfl
  | cons x r ih =>
    rw [List.map_cons]
    unfold allStr
    rw [ih]
def mCount : FM := fun x ds w k => match x, ds with
  | .lst xs, [.str s] => ∃ ss, allStr xs = some ss ∧ ∀ c : Nat, c ≤ xs.length → k (.int (c : Nat)) w
  | _, _ => False
theorem ok_count {K : PySem.W.Frag} : MtOk K (rCntV K) mCount := by
  intro G S H w x d vs ds k Q hr rx rxs kl h
  unfold mCount at h
  split at h
  · obtain ⟨ss, h1, h2⟩ := h
    obtain ⟨v, rfl, r⟩ := one_rep rxs
    cases r
    cases rx with
    | lst e r2 =>
      have e3 := rep_strs' r2 h1
      refine ⟨_, _, _, rfl, rfl, rfl, ?_, .inl (.inl (hr.same _ _ e)), kl.here hr (.int _) (h2 _ ?_)⟩
      · rw [e3]
        simp [flatV]
      · rw [← r2.length]
        exact List.countP_le_length
  · exact h.elim
end DL

namespace DL
open PySem PySem.Spec PyProof.Rows L2 RZ

/-! ### a comprehension whose list may change -/
def gLcC (gi : GI) (gt : GG) (tt : GT) (ge : GE) (vs : List Nat) : GE := fun ρ w kx k => gLc gi gt tt ge vs ρ w kx fun d w1 => ∃ acc, d = .lst acc ∧ k (.rf w1.M.length) ⟨w1.M ++ [.lst acc], w1.n⟩
section
variable {X : Cx} {E : XK} {pos : Pos}
theorem lc_goC {K : PySem.W.Frag} {gi : GI} {gt : GG} {tt : GT} {ge : GE} {vs us : List Nat} (hu : ∀ i ∈ us, i ∈ vs) : ∀ σ H Q, upE K E (gLcC gi gt tt ge vs) σ H Q → tLc (upI K E gi) (upG K us gt) (upT K E0 tt) (upE K E0 ge) vs σ H Q := by
  rintro σ H Q ⟨G, S, ρ, w, kx, k, hr, sr, xl, kl, h⟩
  refine ⟨G, S, ρ, w, kx, _, hr, sr, xl, fun G1 S1 H1 w1 items Ok J x1 hr1 it h1 Dl hD => ?_, h⟩
  obtain ⟨P, h1, hP⟩ := h1
  have hfr := fr_ne hr1 hD
  have sD := hr1.freshS hD
  -- the state between turns: the list so far stands apart
  refine ⟨fun i m H' => m = items.length - i ∧ i ≤ items.length ∧ ∃ (G' : Gh) (S' : Hp) (w' : Wd) (xs : List V) (acc : List D), Ext G1 S1 ⟨G'.al, G'.st, G1.fr⟩ S' ∧ (∀ q ∈ G1.fr, q ∈ G'.fr) ∧ (Dl, HO.lst xs) ∈ G'.fr ∧ HR K G' S' w' H' ∧ RepAll K G' S' xs acc ∧ P (items.drop i) acc w', ⟨items.length, ?_⟩, ?_⟩
  · obtain ⟨hr2, x2⟩ := hr1.push (o := .lst []) hD
    refine ⟨by simp, Nat.zero_le _, ⟨G1.al, G1.st, (Dl, .lst []) :: G1.fr⟩, S1, w1, [], [], ⟨⟨[], by simp⟩, fun _ z => z, fun _ z => z, Same.refl _⟩, fun q hq => List.mem_cons_of_mem _ hq, List.mem_cons_self, hr2, .nil, h1⟩
  rintro i m H' ⟨rfl, hi, G2, S2, w2, xs, acc, x2, f2, fD, hr2, ra, h2⟩
  have x12 : Ext G1 S1 G2 S2 := ⟨x2.al, x2.st, f2, x2.same⟩
  by_cases hlt : i < items.length
  · have e : items.drop i = items[i] :: items.drop (i + 1) := List.drop_eq_getElem_cons hlt
    rw [e] at h2
    obtain ⟨ok, h2⟩ := hP.turn _ _ _ _ h2
    obtain ⟨i1, _⟩ := it i G2 S2 w2 H' x12 hr2 ok
    obtain ⟨go, yld⟩ := i1 items[i] (List.getElem?_eq_getElem hlt)
    refine .inr ⟨go, fun H3 => ∃ (G' : Gh) (S' : Hp) (w' : Wd) (xs : List V) (acc : List D), Ext G1 S1 ⟨G'.al, G'.st, G1.fr⟩ S' ∧ (∀ q ∈ G1.fr, q ∈ G'.fr) ∧ (Dl, HO.lst xs) ∈ G'.fr ∧ HR K G' S' w' H3 ∧ RepAll K G' S' xs acc ∧ P (items.drop (i + 1)) acc w', fun H3 h3 => ⟨items.length - (i + 1), by omega, rfl, hlt, h3⟩, fun x H3 y => ?_⟩
    obtain ⟨G3, S3, x3, hr3, rp⟩ := yld x H3 y
    have x13 := x12.trans x3
    refine ⟨G3, S3, wipeR ρ vs, w2, items[i], _, hr3, (wipe_sr (sr.mono x1) vs).mono x13, rp, fun G4 S4 H4 w4 ρ4 σ4 x4 hr4 sr4 off4 h4 => ⟨wipe_off hu off4, ?_⟩, h2⟩
    have x24 : Ext G2 S2 G4 S4 := x3.trans x4
    refine ⟨G4, S4, ρ4, w4, noX, _, hr4, sr4, xl_no, fun G5 S5 H5 w5 b x5 hr5 h5 => ?_, h4⟩
    have x25 := x24.trans x5
    have x15 := x12.trans x25
    cases b with
    | false => exact iteF ⟨G5, S5, w5, xs, acc, ⟨x15.al, x15.st, fun _ z => z, x15.same⟩, x15.fr, x25.fr _ fD, hr5, ra.mono x25, by simpa using h5⟩
    | true =>
      refine iteT ⟨G5, S5, ρ4, w5, noX, _, hr5, sr4.mono x5, xl_no, fun G6 S6 H6 w6 d v x6 hr6 rp6 h6 => ?_, by simpa using h5⟩
      have x26 := x25.trans x6
      have x16 := x12.trans x26
      have ra6 := ra.mono x26
      have fD6 := x26.fr _ fD
      refine ⟨xs, (hr6.fr _ fD6).2.2, by rw [ra.length]; exact h6.1, ?_⟩
      have hp := hr6.poke (o' := .lst (xs ++ [v])) (fr := G1.fr) fD6 (fun q hq => ⟨x16.fr q hq, hfr q hq⟩)
      refine ⟨⟨G6.al, G6.st, (Dl, .lst (xs ++ [v])) :: G1.fr⟩, S6, w6, xs ++ [v], acc ++ [d], ⟨x16.al, x16.st, fun _ z => z, x16.same⟩, fun q hq => List.mem_cons_of_mem _ hq, List.mem_cons_self, hp, ?_, h6.2⟩
      exact (RepAll.refr ra6).append (.cons (Rep.refr rp6) .nil)
  · have e : i = items.length := by omega
    subst e
    rw [List.drop_length] at h2
    obtain ⟨ok, h2⟩ := hP.done _ _ h2
    obtain ⟨_, i2⟩ := it items.length G2 S2 w2 H' x12 hr2 ok
    refine .inl ⟨i2 rfl, ?_⟩
    obtain ⟨z1, z2, z3⟩ := hr2.fr _ fD
    obtain ⟨acc0, ee, hk⟩ := h2
    cases ee
    have x3 : Ext G1 S1 ⟨G2.al ++ [Dl], G2.st, G1.fr⟩ S2 := ⟨(by obtain ⟨r, e⟩ := x2.al; exact ⟨r ++ [Dl], by show G2.al ++ [Dl] = _; rw [show G2.al = G1.al ++ r from e, List.append_assoc]⟩), x2.st, fun _ z => z, x2.same⟩
    have xc : Ext ⟨G2.al, G2.st, G1.fr⟩ S2 ⟨G2.al ++ [Dl], G2.st, G1.fr⟩ S2 := ⟨⟨[Dl], rfl⟩, fun _ z => z, fun _ z => z, Same.refl _⟩
    refine kl ⟨G2.al ++ [Dl], G2.st, G1.fr⟩ S2 H' ⟨w2.M ++ [.lst acc], w2.n⟩ _ _ (x1.trans x3) ⟨hr2.same, by simp [hr2.len], ?_, fun j b c' f1 f2 => ?_, ⟨hr2.st.1, fun b c' e => ?_⟩, fun q hq => ?_⟩ (.rf (show (G2.al ++ [Dl])[w2.M.length]? = some Dl by rw [List.getElem?_append_right (by rw [hr2.len]; exact Nat.le_refl _), hr2.len, Nat.sub_self]; rfl)) hk
    · show (G2.al ++ [Dl]).Nodup
      rw [List.nodup_append]
      refine ⟨hr2.nod, by simp, fun a ha b hb z => ?_⟩
      rw [List.mem_singleton] at hb
      exact z2 (by rw [← hb, ← z]; exact ha)
    · have f1 : (G2.al ++ [Dl])[j]? = some b := f1
      have f2 : (w2.M ++ [Cell.lst acc])[j]? = some c' := f2
      by_cases hj : j < G2.al.length
      · rw [List.getElem?_append_left hj] at f1
        rw [List.getElem?_append_left (by rw [← hr2.len]; exact hj)] at f2
        have q := hr2.cell j b c' f1 f2
        cases c' with
        | dead => exact q
        | exc C => exact q
        | lst ds =>
          obtain ⟨n0, ys, e3, r⟩ := q
          exact ⟨n0, ys, e3, (RepAll.refr r).mono xc⟩
        | dk ds =>
          obtain ⟨n0, ys, e3, r⟩ := q
          exact ⟨n0, ys, e3, Paired.mapP r fun p q z => ⟨z.1, (Rep.refr z.2).mono xc⟩⟩
        | ins C ds =>
          obtain ⟨n0, dx, ys, e3, r⟩ := q
          exact ⟨n0, dx, ys, e3, Paired.mapP r fun p q z => ⟨z.1, (Rep.refr z.2).mono xc⟩⟩
      · have hi2 : G2.al.length ≤ j := Nat.le_of_not_lt hj
        rw [List.getElem?_append_right hi2] at f1
        rw [List.getElem?_append_right (by rw [← hr2.len]; exact hi2), ← hr2.len] at f2
        have l := (List.getElem?_eq_some_iff.mp f1).1
        have l0 : j - G2.al.length = 0 := by
          rw [List.length_singleton] at l
          omega
        rw [l0] at f1 f2
        have e1 : Dl = b := by simpa using f1
        have e2 : Cell.lst acc = c' := by simpa using f2
        subst e1
        subst e2
        exact ⟨z1, xs, z3, (RepAll.refr ra).mono xc⟩
    · obtain ⟨y1, y2, y3, y4, y5, y6, y7⟩ := hr2.st.2 b c' e
      obtain ⟨n1, n2⟩ := y6 _ fD
      refine ⟨y1, y2, y3, fun hm => ?_, fun hm => ?_, fun q hq => y6 q (f2 q hq), y7⟩
      · rcases List.mem_append.mp hm with hm | hm
        · exact y4 hm
        · exact n1 (List.mem_singleton.mp hm).symm
      · rcases List.mem_append.mp hm with hm | hm
        · exact y5 hm
        · exact n2 (List.mem_singleton.mp hm).symm
    · obtain ⟨y1, y2, y3⟩ := hr2.fr q (f2 q hq)
      refine ⟨y1, fun hm => ?_, y3⟩
      rcases List.mem_append.mp hm with hm | hm
      · exact y2 hm
      · exact hfr q hq (List.mem_singleton.mp hm)
theorem de_lcC {elt tg iter : Expr} {ifs : List Expr} {scope : Scope} {own : List (Str × Nat)} {us : List Nat} {gi : GI} {gt : GG} {tt : GT} {ge : GE} (hc : X.calm = true) (hN : X.N.Nodup) (hi : DI X E tg iter gi) (ok : BlkOk X.N X.env.scope scope own) (hu : ∀ i ∈ us, i ∈ own.map (·.2))
    (hg : ∀ (s : Shared) (H : Hp) (C : Addr) (cl : List (Str × Addr)) (fp : List Addr), DG (X.blk s H scope (compEnvC scope cl C X.env) fp) us tg gt) (ht : ∀ (s : Shared) (H : Hp) (C : Addr) (cl : List (Str × Addr)) (fp : List Addr), DTs (X.blk s H scope (compEnvC scope cl C X.env) fp) E0 ifs tt)
    (he : ∀ (s : Shared) (H : Hp) (C : Addr) (cl : List (Str × Addr)) (fp : List Addr), DE (X.blk s H scope (compEnvC scope cl C X.env) fp) E0 elt ge) (hs : ∀ x, foldedSetIterable iter X.env x = pure x := by intro _; rfl) :
    DE X E (.ListComp elt [⟨tg, iter, ifs, 0⟩] scope pos) (gLcC gi gt tt ge (own.map (·.2))) := pe_imp (pe_lc (g := upG X.K us gt) (tt := upT X.K E0 tt) (te := upE X.K E0 ge) hc hN hi ok hg ht he hs) (lc_goC hu)
theorem ds_setLcC {i : Nat} {y : Str} {py spos : Pos} {elt tg iter : Expr} {ifs : List Expr} {scope : Scope} {own : List (Str × Nat)} {us : List Nat} {gi : GI} {gt : GG} {tt : GT} {ge : GE} (hc : X.calm = true) (hN : X.N.Nodup) (hy : X.N[i]? = some y) (hyl : X.env.scope.names.lookup y = some .local)
    (hsw : swapsWith (.ListComp elt [⟨tg, iter, ifs, 0⟩] scope pos) (some (.Name y py)) spos.line X.env = pure true) (hi : DI X E tg iter gi) (ok : BlkOk X.N X.env.scope scope own) (hu : ∀ i ∈ us, i ∈ own.map (·.2))
    (hg : ∀ (s : Shared) (H : Hp) (C : Addr) (cl : List (Str × Addr)) (fp : List Addr), DG (X.blk s H scope (compEnvC scope cl C X.env) fp) us tg gt) (ht : ∀ (s : Shared) (H : Hp) (C : Addr) (cl : List (Str × Addr)) (fp : List Addr), DTs (X.blk s H scope (compEnvC scope cl C X.env) fp) E0 ifs tt)
    (he : ∀ (s : Shared) (H : Hp) (C : Addr) (cl : List (Str × Addr)) (fp : List Addr), DE (X.blk s H scope (compEnvC scope cl C X.env) fp) E0 elt ge) (hs : ∀ x, foldedSetIterable iter X.env x = pure x := by intro _; rfl) :
    DS X E (.Assign [.Name y py] (.ListComp elt [⟨tg, iter, ifs, 0⟩] scope pos) spos) (gSet i (gLcC gi gt tt ge (own.map (·.2)))) := ps_imp (ps_setLc (g := upG X.K us gt) (tt := upT X.K E0 tt) (te := upE X.K E0 ge) hc hN hy hyl hsw hi ok hg ht he hs) (by
  intro D σ H h
  obtain ⟨G, S, ρ, w, F, hr, sr, el, h⟩ := h
  exact lc_goC hu σ H _ ⟨G, S, ρ, w, F.ex, fun d w1 => F.nx (ρ.set i (some d)) w1, hr, sr, el.ex, fun G1 S1 H1 w1 d v x1 hr1 rp h1 => el.nx _ _ _ _ _ _ x1 hr1 ((sr.mono x1).set rp i) h1, h⟩)
end
/-! ### stores -/
def ggSub (go gi : GE) : GG := fun d ρ w k => go ρ w noX fun x w1 => gi ρ w1 noX fun y w2 => match x, y with
  | .rf i, .int j => cellK i w2 fun xs => 0 ≤ j ∧ j < xs.length ∧ k ρ ⟨w2.M.set i (.lst (xs.set j.toNat d)), w2.n⟩
  | _, _ => False
section
variable {X : Cx} {E : XK} {o i : Expr} {go gi : GE} {pos : Pos}
theorem dg_sub (ho : DE X E o go) (hi : DE X E i gi)
    (ha : ∀ v, assign (.Subscript o i pos) X.env v = (do
      let ov ← holding [v] (eval o X.env)
      let iv ← holding [v, ov] (eval i X.env)
      standAt pos
      holding [v, ov, iv] (setItem ov iv v)
      release [v, ov, iv] []) := by intro _; rfl) : DG X [] (.Subscript o i pos) (ggSub go gi) := pg_imp (pg_sub ho hi set_list ha) (by
  rintro v σ H Q ⟨G, S, ρ, w, d, k, hr, sr, rp, nl, h⟩
  refine ⟨G, S, ρ, w, noX, _, hr, sr, xl_no, fun G1 S1 H1 w1 dx vx x1 hr1 rx h1 => ⟨G1, S1, ρ, w1, noX, _, hr1, sr.mono x1, xl_no, fun G2 S2 H2 w2 dy vy x2 hr2 ry h2 => ?_, h1⟩, h⟩
  split at h2
  · cases ry
    have rx2 := rx.mono x2
    cases rx2 with
    | rf e =>
      obtain ⟨es, xs, e2, g1, g2, g3, g4, g5, g6⟩ := cell_get hr2 e h2
      have x12 := x1.trans x2
      rename_i i1 j1 _
      have ej : ∀ n : Nat, n = es.length → ∀ j : Int, 0 ≤ j → j < n → ixN n j = some j.toNat := fun n _ j h0 h1 => by
        unfold ixN
        rw [if_pos h0, if_pos h1]
      exact ⟨_, xs, _, _, rfl, rfl, g2, ej xs.length g3.length _ g4 (by rw [g3.length]; exact g5), nl _ _ _ _ _ _ x12 (cell_put hr2 e e2 g1 (g3.set (rp.mono x12) _)) (sr.mono x12) ⟨rfl, fun _ _ => rfl⟩ g6⟩
  · exact h2.elim)
end
/-! ### slices of lists and tuples, the whole too -/
def slA : D → Option Int → Option Int → Wd → KD → Prop := fun x lo hi w k => match x with
  | .lst ds => k (.lst (cutD ds lo hi)) w
  | .tup ds => k (.tup (cutD ds lo hi)) w
  | .rf i => cellK i w fun ds => k (.lst (cutD ds lo hi)) w
  | _ => False
theorem cut_whole {α : Type} {xs : List α} {lo hi : Option Int} (h : HT.sIx xs.length 0 lo = 0 ∧ HT.sIx xs.length xs.length hi = xs.length) : cutD xs lo hi = xs := by
  unfold cutD
  rw [h.1, h.2, List.drop_zero, Nat.sub_zero, List.take_length]
def rSlAA (K : PySem.W.Frag) : V → Option Int → Option Int → Hp → VK → Prop := fun x lo hi H Q => rSlL K x lo hi H Q ∨ rSlA K x lo hi H Q
theorem ok_slA {K : PySem.W.Frag} : SlOk K (rSlAA K) slA := by
  intro G S H w x d lo hi k Q hr rx kl h
  cases rx with
  | lst e r => exact .inl ⟨_, _, rfl, .inl (.inl (hr.same _ _ e)), kl.newL hr (rep_cut r) h⟩
  | tup e r =>
    refine .inr ⟨_, _, rfl, .inl (.inl (hr.same _ _ e)), fun hw => ?_, fun _ => kl.newT hr (rep_cut r) h⟩
    rw [r.length] at hw
    have h : k (.tup (cutD _ lo hi)) w := h
    rw [cut_whole hw] at h
    exact kl.here hr (.tup e r) h
  | rf e =>
    obtain ⟨es, xs, e2, h1, h2, h3, h4⟩ := cell_get hr e h
    exact .inl ⟨_, _, rfl, .inl (.inl h2), kl.newL hr (rep_cut h3) h4⟩
  | _ => exact h.elim
section
variable {X : Cx} {E : XK} {a : Expr} {ga : GE} {gl gh : GO} {pos p2 : Pos} {lo hi : Option Expr}
theorem de_slA (he : DE X E a ga) (hl : DO X E lo gl) (hu : DO X E hi gh) : DE X E (.Subscript a (.Slice lo hi none p2) pos) (gSl slA ga gl gh) := de_slice (sl_list.or sl_tupA) ok_slA he hl hu
end
/-! ### t + u, of any tuples; lists that may change of + and *; is of truths -/
def addTD : F2 := fun x y w k => match x, y with
  | .tup xs, .tup ys => xs.length + ys.length ≤ sizeLine ∧ k (.tup (xs ++ ys)) w
  | _, _ => False
theorem ok_addTD {K : PySem.W.Frag} : BinOk K (rCatA K) addTD := by
  intro G S H w x y d e k Q hr rx ry kl h
  unfold addTD at h
  split at h
  · cases rx with
    | tup e1 r1 => cases ry with
      | tup e2 r2 =>
        refine ⟨_, _, _, _, rfl, rfl, .inl (.inl (hr.same _ _ e1)), .inl (.inl (hr.same _ _ e2)), by rw [r1.length, r2.length]; exact h.1, fun z => ?_, fun _ z => ?_, fun _ _ => kl.newT hr (r1.append r2) h.2⟩
        · subst z
          cases r1
          exact kl.here hr (.tup e2 r2) h.2
        · subst z
          cases r2
          have h2 := h.2
          rw [List.append_nil] at h2
          exact kl.here hr (.tup e1 r1) h2
  · exact h.elim
def addCD : F2 := fun x y w k => match x, y with
  | .lst xs, .lst ys => xs.length + ys.length ≤ sizeLine ∧ k (.rf w.M.length) ⟨w.M ++ [.lst (xs ++ ys)], w.n⟩
  | .rf i, .lst ys => cellK i w fun xs => xs.length + ys.length ≤ sizeLine ∧ k (.rf w.M.length) ⟨w.M ++ [.lst (xs ++ ys)], w.n⟩
  | _, _ => False
theorem ok_addCD {K : PySem.W.Frag} : BinOk K rCat addCD := by
  intro G S H w x y d e k Q hr rx ry kl h
  unfold addCD at h
  split at h
  · cases rx with
    | lst e1 r1 => cases ry with
      | lst e2 r2 => exact ⟨_, _, _, _, rfl, rfl, hr.same _ _ e1, hr.same _ _ e2, by rw [r1.length, r2.length]; exact h.1, kl.newCL hr (r1.append r2) h.2⟩
  · cases rx with
    | rf e1 => cases ry with
      | lst e2 r2 =>
        obtain ⟨es, xs, _, h1, h2, h3, h4, h5⟩ := cell_get hr e1 h
        exact ⟨_, _, _, _, rfl, rfl, h2, hr.same _ _ e2, by rw [h3.length, r2.length]; exact h4, kl.newCL hr (h3.append r2) h5⟩
  · exact h.elim
def mulCD : F2 := fun x y w k => match x, y with
  | .lst xs, .int j => -(2 ^ 63) ≤ j ∧ j < 2 ^ 63 ∧ xs.length * j.toNat ≤ sizeLine ∧ k (.rf w.M.length) ⟨w.M ++ [.lst (List.replicate j.toNat xs).flatten], w.n⟩
  | _, _ => False
theorem ok_mulCD {K : PySem.W.Frag} : BinOk K rRep mulCD := by
  intro G S H w x y d e k Q hr rx ry kl h
  unfold mulCD at h
  split at h
  · cases ry
    cases rx with
    | lst e1 r1 => exact ⟨_, _, _, rfl, rfl, hr.same _ _ e1, h.1, h.2.1, by rw [r1.length]; exact h.2.2.1, kl.newCL hr (r1.rep _) h.2.2.2⟩
  · exact h.elim
def isbD : F2 := fun x y w k => match x, y with
  | .bl a, .bl b => k (.bl (decide (a = b))) w
  | _, _ => False
def isnotbD : F2 := fun x y w k => match x, y with
  | .bl a, .bl b => k (.bl (!decide (a = b))) w
  | _, _ => False
theorem ok_isbD {K : PySem.W.Frag} : BinOk K rIsB isbD := by
  intro G S H w x y d e k Q hr rx ry kl h
  unfold isbD at h
  split at h
  · cases rx
    cases ry
    exact ⟨_, _, rfl, rfl, kl.here hr (.bl _) h⟩
  · exact h.elim
theorem ok_isnotbD {K : PySem.W.Frag} : BinOk K rNotB isnotbD := by
  intro G S H w x y d e k Q hr rx ry kl h
  unfold isnotbD at h
  split at h
  · cases rx
    cases ry
    exact ⟨_, _, rfl, rfl, kl.here hr (.bl _) h⟩
  · exact h.elim
section
variable {X : Cx} {E : XK} {a b : Expr} {ga gb : GE} {pos : Pos}
theorem de_addt (ha : DE X E a ga) (hb : DE X E b gb) : DE X E (.BinOp a .Add b pos) (gBin addTD ga gb) := de_bin op_catA ok_addTD ha hb
theorem de_addC (ha : DE X E a ga) (hb : DE X E b gb) : DE X E (.BinOp a .Add b pos) (gBin addCD ga gb) := de_bin op_cat ok_addCD ha hb
theorem de_mulC (ha : DE X E a ga) (hb : DE X E b gb) : DE X E (.BinOp a .Mult b pos) (gBin mulCD ga gb) := de_bin op_rep ok_mulCD ha hb
theorem de_isb (ha : DE X E a ga) (hb : DE X E b gb) : DE X E (.Compare a [.Is] [b] pos) (gBin isbD ga gb) := de_cmp op_isBl ok_isbD ha hb (nomark _)
theorem de_isnotb (ha : DE X E a ga) (hb : DE X E b gb) : DE X E (.Compare a [.IsNot] [b] pos) (gBin isnotbD ga gb) := de_cmp op_notBl ok_isnotbD ha hb (nomark _)
theorem dt_isb (ha : DE X E a ga) (hb : DE X E b gb) : DT X E (.Compare a [.Is] [b] pos) (gB (gBin isbD ga gb)) := dt_cmp op_isBl ok_isbD ha hb (nomark _)
theorem dt_isnotb (ha : DE X E a ga) (hb : DE X E b gb) : DT X E (.Compare a [.IsNot] [b] pos) (gB (gBin isnotbD ga gb)) := dt_cmp op_notBl ok_isnotbD ha hb (nomark _)
end
/-! ### enumerate -/
def enumD : Nat → List D → List D
  | _, [] => []
  | i, x :: xs => .tup [.int (i : Nat), x] :: enumD (i + 1) xs
theorem enum_len : ∀ (xs : List D) (i : Nat), (enumD i xs).length = xs.length
  | [], _ => rfl
  | x :: xs, i => congrArg (· + 1) (enum_len xs (i + 1))
theorem enum_get : ∀ {xs : List D} {n i : Nat} {d : D}, (enumD n xs)[i]? = some d → ∃ x, xs[i]? = some x ∧ d = .tup [.int ((n + i : Nat) : Int), x]
  | [], _, _, _, h => by simp [enumD] at h
  | x :: xs, n, 0, d, h => by
    unfold enumD at h
    rw [List.getElem?_cons_zero] at h
    exact ⟨x, rfl, (Option.some.inj h).symm⟩
  | x :: xs, n, i + 1, d, h => by
    unfold enumD at h
    rw [List.getElem?_cons_succ] at h
    obtain ⟨y, h1, h2⟩ := enum_get h
    refine ⟨y, by rw [List.getElem?_cons_succ]; exact h1, ?_⟩
    rw [h2, show n + 1 + i = n + (i + 1) by omega]
def giEnum (ga : GA) : GI := fun ρ w kx k => ga ρ w kx fun ds w1 => match ds with
  | [.lst xs] => k (enumD 0 xs) (fun _ => True) w1
  | _ => False
theorem iter_enum {K : PySem.W.Frag} {G : Gh} {S : Hp} {a : Addr} {xs : List V} {ds : List D} (e1 : S a = some (.lst xs)) (r1 : RepAll K G S xs ds) : IterOk K (Ite K a) (enumD 0 ds) (fun _ => True) G S := by
  intro i G1 S1 w1 H1 x1 hr1 _
  have q1 : SqL K H1 a xs := .inl (.inl (hr1.same _ _ (x1.same _ _ e1)))
  refine ⟨fun d hd => ?_, fun hl => ⟨xs, q1, by rw [r1.length, ← enum_len ds 0, hl]; exact Nat.le_refl _⟩⟩
  obtain ⟨d1, g1, rfl⟩ := enum_get hd
  obtain ⟨v1, h1, h2⟩ := r1.get g1
  refine ⟨⟨xs, v1, q1, h1⟩, fun x H2 y => ?_⟩
  obtain ⟨T, u1, rfl, hT, rfl, y1⟩ := y
  have z1 := y1 xs q1
  rw [h1] at z1
  cases z1
  rw [Nat.zero_add]
  exact zip_new hr1 hT (.int _) (h2.mono x1)
section
variable {X : Cx} {E : XK}
theorem di_enum {e : Expr} {ga : GA} {p pos tpos : Pos} {elts : List Expr} {kk : Nat} (B : Blt X.mg) (hg : Gl X "enumerate") (ha : DA X E [e] ga) (hs : starEach [e] X.env = [(false, eval e X.env)] := by rfl) :
    DI X E (.Tuple elts kk tpos) (.Call (.Name "enumerate" p) [e] [] pos) (giEnum ga) := pi_imp (pi_enum hg B.enum_ ha hs) (by
  rintro σ H R ⟨G, S, ρ, w, kx, k, hr, sr, xl, kl, h⟩
  refine ⟨G, S, ρ, w, kx, _, hr, sr, xl, fun G1 S1 H1 w1 ds vs x1 hr1 rp h1 => ?_, h⟩
  split at h1
  · obtain ⟨v, rfl, r1⟩ := one_rep rp
    cases r1 with
    | lst e1 q1 => exact ⟨_, _, rfl, .inl (.inl (hr1.same _ _ e1)), kl _ _ _ _ _ _ _ x1 hr1 (iter_enum e1 q1) h1⟩
  · exact h1.elim)
end
/-! ### behind a def its own cells are forgotten -/
mutual
def low (n : Nat) : D → Bool
  | .rf i => decide (i < n)
  | .lst xs => lows n xs
  | .tup xs => lows n xs
  | _ => true
def lows (n : Nat) : List D → Bool
  | [] => true
  | x :: xs => low n x && lows n xs
end
section
variable {K : PySem.W.Frag} {G : Gh} {S H : Hp} {w : Wd}
mutual
theorem Rep.low : ∀ {v : V} {d : D}, Rep K G S v d → DL.low G.al.length d = true
  | _, _, .non => rfl
  | _, _, .bl _ => rfl
  | _, _, .int _ => rfl
  | _, _, .str _ => rfl
  | _, _, .lst _ r => RepAll.low r
  | _, _, .tup _ r => RepAll.low r
  | _, _, .rf h => decide_eq_true (List.getElem?_eq_some_iff.mp h).1
  | _, _, .st _ => rfl
  | _, _, .ob _ => rfl
  | _, _, .scr _ => rfl
theorem RepAll.low : ∀ {v : List V} {d : List D}, RepAll K G S v d → lows G.al.length d = true
  | _, _, .nil => rfl
  | _, _, .cons h r => by
    unfold lows
    rw [Rep.low h, RepAll.low r]
    rfl
end
variable {n : Nat}
mutual
theorem Rep.trunc : ∀ {v : V} {d : D}, Rep K G S v d → DL.low n d = true → Rep K ⟨G.al.take n, G.st, G.fr⟩ S v d
  | _, _, .non, _ => .non
  | _, _, .bl b, _ => .bl b
  | _, _, .int b, _ => .int b
  | _, _, .str b, _ => .str b
  | _, _, .lst e r, h => .lst e (RepAll.trunc r h)
  | _, _, .tup e r, h => .tup e (RepAll.trunc r h)
  | _, _, .rf (i := i) e, h => by
    have hi : i < n := of_decide_eq_true h
    refine .rf ?_
    show (G.al.take n)[i]? = _
    rw [List.getElem?_take, if_pos hi]
    exact e
  | _, _, .st h, _ => .st h
  | _, _, .ob h, _ => .ob h
  | _, _, .scr h, _ => .scr h
theorem RepAll.trunc : ∀ {v : List V} {d : List D}, RepAll K G S v d → lows n d = true → RepAll K ⟨G.al.take n, G.st, G.fr⟩ S v d
  | _, _, .nil, _ => .nil
  | _, _, .cons q r, h => by
    unfold lows at h
    rw [Bool.and_eq_true] at h
    exact .cons (Rep.trunc q h.1) (RepAll.trunc r h.2)
end
def lowC (n : Nat) : Cell → Prop
  | .dead => True
  | .exc _ => True
  | .lst xs => lows n xs = true
  | .dk kvs => ∀ p ∈ kvs, low n p.2 = true
  | .ins _ fs => ∀ p ∈ fs, low n p.2 = true
theorem fs_low {κ : Type} : ∀ {xs : List (κ × V)} {ys : List (κ × D)}, FsRep K G S xs ys → ∀ p ∈ ys, DL.low G.al.length p.2 = true
  | _, _, .nil, p, hp => nomatch hp
  | _, _, .cons h r, p, hp => by
    rcases List.mem_cons.mp hp with rfl | hp
    · exact h.2.low
    · exact fs_low r p hp
theorem fs_trunc {κ : Type} : ∀ {xs : List (κ × V)} {ys : List (κ × D)}, FsRep K G S xs ys → (∀ p ∈ ys, DL.low n p.2 = true) → FsRep K ⟨G.al.take n, G.st, G.fr⟩ S xs ys
  | _, _, .nil, _ => .nil
  | _, _, .cons h r, hp => .cons ⟨h.1, h.2.trunc (hp _ List.mem_cons_self)⟩ (fs_trunc r fun p q => hp p (List.mem_cons_of_mem _ q))
theorem CellOk.low {a : Addr} {c : Cell} (h : CellOk K G S H a c) : lowC G.al.length c := by
  cases c with
  | dead => trivial
  | exc C => trivial
  | lst ds => obtain ⟨_, _, _, r⟩ := h; exact r.low
  | dk ds => obtain ⟨_, _, _, r⟩ := h; exact fs_low r
  | ins C ds => obtain ⟨_, _, _, _, r⟩ := h; exact fs_low r
theorem CellOk.trunc {a : Addr} {c : Cell} (h : CellOk K G S H a c) (l : lowC n c) : CellOk K ⟨G.al.take n, G.st, G.fr⟩ S H a c := by
  cases c with
  | dead => exact h
  | exc C => exact h
  | lst ds => obtain ⟨h1, xs, h2, r⟩ := h; exact ⟨h1, xs, h2, r.trunc l⟩
  | dk ds => obtain ⟨h1, xs, h2, r⟩ := h; exact ⟨h1, xs, h2, fs_trunc r l⟩
  | ins C ds => obtain ⟨h1, dx, xs, h2, r⟩ := h; exact ⟨h1, dx, xs, h2, fs_trunc r l⟩
theorem HR.lowAll (h : HR K G S w H) : ∀ c ∈ w.M, lowC w.M.length c := fun c hc => by
  obtain ⟨i, hi⟩ := List.getElem?_of_mem hc
  have l := (List.getElem?_eq_some_iff.mp hi).1
  rw [← h.len] at l ⊢
  exact (h.cell i _ c (List.getElem?_eq_getElem l) hi).low
theorem HR.trunc {M0 r : List Cell} (h : HR K G S w H) (e : w.M = M0 ++ r) (hl : ∀ c ∈ M0, lowC M0.length c) : HR K ⟨G.al.take M0.length, G.st, G.fr⟩ S ⟨M0, w.n⟩ H := by
  have ln : G.al.length = M0.length + r.length := by rw [h.len, e, List.length_append]
  refine ⟨h.same, ?_, h.nod.sublist (List.take_sublist _ _), fun i a c e1 e2 => ?_, ⟨h.st.1, fun a c z => ?_⟩, fun p hp => ?_⟩
  · show (G.al.take M0.length).length = M0.length
    rw [List.length_take, ln]
    omega
  · have e1 : (G.al.take M0.length)[i]? = some a := e1
    have e2 : M0[i]? = some c := e2
    have li := (List.getElem?_eq_some_iff.mp e2).1
    rw [List.getElem?_take, if_pos li] at e1
    have q := h.cell i a c e1 (by rw [e, List.getElem?_append_left li]; exact e2)
    exact q.trunc (hl c (List.mem_of_getElem? e2))
  · obtain ⟨z1, z2, z3, z4, z5, z6⟩ := h.st.2 a c z
    exact ⟨z1, z2, z3, fun q => z4 (List.mem_of_mem_take q), fun q => z5 (List.mem_of_mem_take q), z6⟩
  · obtain ⟨y1, y2, y3⟩ := h.fr p hp
    exact ⟨y1, fun q => y2 (List.mem_of_mem_take q), y3⟩
end
/-- the def's own cells are gone: what it tells names none of them -/
def gTr (f : GF) : GF := fun ds w kx k => f ds w kx fun d w1 => (∃ r, w1.M = w.M ++ r) ∧ low w.M.length d = true ∧ k d ⟨w.M, w1.n⟩
theorem tr_up {n : Nat} {K : PySem.W.Frag} {f : GF} : ∀ vs H Q E, upF n K (gTr f) vs H Q E → upF n K f vs H Q E := by
  rintro vs H Q E ⟨G, S, ds, w, kx, k, h1, h2, h3, h4, h5, h6⟩
  refine ⟨G, S, ds, w, kx, _, h1, h2, h3, h4, fun G' S' H' w' d v x1 hr1 rp hk => ?_, h6⟩
  obtain ⟨⟨r, e⟩, lo, hk⟩ := hk
  refine h5 ⟨G'.al.take w.M.length, G'.st, G'.fr⟩ S' H' ⟨w.M, w'.n⟩ _ _ ⟨⟨[], ?_⟩, x1.st, x1.fr, x1.same⟩ (hr1.trunc e h2.lowAll) (rp.trunc lo) hk
  obtain ⟨r2, e2⟩ := x1.al
  show G'.al.take w.M.length = G.al ++ []
  rw [e2, ← h2.len, List.take_left, List.append_nil]
theorem FnAt.trunc {P : Program} {w : World} {K : PySem.W.Frag} {mg : Str → Option Value} {base : Heap} {CX : CXT} {k : Nat} {x : Str} {n : Nat} {g : GF} (h : FnAt P w K mg base CX k x n g) : FnAt P w K mg base CX k x n (gTr g) := by
  obtain ⟨f, fd, ps, h1, h2⟩ := h.ex
  exact ⟨f, fd, ps, h1.imp tr_up, h2⟩
/-! ### equations -/
section
variable {w : Wd} {k : KD} {i j : Int} {M : List Cell} {n : Option Nat} {xs ys : List D} {d : D} {c c' : Cell}
theorem isTy_l {T : String} : isTy T (.lst xs) w = (T = "list") := rfl
theorem isTy_s {T : String} {s : Str} : isTy T (.str s) w = (T = "str") := rfl
theorem new_at : (M ++ [c])[M.length]? = some c := by simp
theorem new_set : (M ++ [c]).set M.length c' = M ++ [c'] := by
  rw [List.set_append_right (h := Nat.le_refl _), Nat.sub_self]
  rfl
theorem isTy_new {T : String} : isTy T (.rf M.length) ⟨M ++ [.lst xs], n⟩ = (T = "list") := by
  unfold isTy
  simp
theorem cellK_new {f : List D → Prop} : cellK M.length ⟨M ++ [.lst xs], n⟩ f = f xs := by
  unfold cellK
  simp
theorem append_new : mAppend (.rf M.length) [d] ⟨M ++ [.lst xs], n⟩ k = (xs.length < sizeLine ∧ k .non ⟨M ++ [.lst (xs ++ [d])], n⟩) := by
  unfold mAppend
  simp only [cellK_new, new_set]
theorem popAt_new : mPopAt (.rf M.length) [.int j] ⟨M ++ [.lst xs], n⟩ k = (0 ≤ j ∧ j < xs.length ∧ j < 2 ^ 63 ∧ someK xs[j.toNat]? fun d => k d ⟨M ++ [.lst (xs.eraseIdx j.toNat)], n⟩) := by
  unfold mPopAt
  simp only [cellK_new, new_set]
theorem frz_new {ge : GE} {ρ : Rho} {kx : KX} : gFrz ge ρ w kx k = ge ρ w kx fun x w1 => match x with
  | .rf i => match w1.M[i]? with
    | some (.lst ds) => k (.lst ds) ⟨w1.M.set i .dead, w1.n⟩
    | _ => False
  | _ => False := rfl
def frzK (d : D) (w : Wd) (k : KD) : Prop := match d with
  | .rf i => match w.M[i]? with
    | some (.lst ds) => k (.lst ds) ⟨w.M.set i .dead, w.n⟩
    | _ => False
  | _ => False
theorem gFrz_eq {ge : GE} {ρ : Rho} {kx : KX} : gFrz ge ρ w kx k = ge ρ w kx fun x w1 => frzK x w1 k := rfl
theorem frzK_new : frzK (.rf M.length) ⟨M ++ [.lst xs], n⟩ k = k (.lst xs) ⟨M ++ [.dead], n⟩ := by
  unfold frzK
  simp only [new_at, new_set]
theorem fLen_new : fLen [.rf M.length] ⟨M ++ [.lst xs], n⟩ k = k (.int xs.length) ⟨M ++ [.lst xs], n⟩ := by
  simp [fLen, seqD]
theorem fTuple_new : fTuple [.rf M.length] ⟨M ++ [.lst xs], n⟩ k = k (.tup xs) ⟨M ++ [.lst xs], n⟩ := by
  simp [fTuple, seqD]
theorem ixD_new : ixD (.rf M.length) (.int j) ⟨M ++ [.lst xs], n⟩ k = someK (atI xs j) (fun d => k d ⟨M ++ [.lst xs], n⟩) := by
  simp [ixD, seqD]
  rfl
theorem slA_l {lo hi : Option Int} : slA (.lst xs) lo hi w k = k (.lst (cutD xs lo hi)) w := rfl
theorem slA_t {lo hi : Option Int} : slA (.tup xs) lo hi w k = k (.tup (cutD xs lo hi)) w := rfl
theorem slA_new {lo hi : Option Int} : slA (.rf M.length) lo hi ⟨M ++ [.lst xs], n⟩ k = k (.lst (cutD xs lo hi)) ⟨M ++ [.lst xs], n⟩ := by
  unfold slA
  simp only [cellK_new]
theorem addTD_t : addTD (.tup xs) (.tup ys) w k = (xs.length + ys.length ≤ sizeLine ∧ k (.tup (xs ++ ys)) w) := rfl
theorem addCD_l : addCD (.lst xs) (.lst ys) w k = (xs.length + ys.length ≤ sizeLine ∧ k (.rf w.M.length) ⟨w.M ++ [.lst (xs ++ ys)], w.n⟩) := rfl
theorem mulCD_l : mulCD (.lst xs) (.int j) w k = (-(2 ^ 63) ≤ j ∧ j < 2 ^ 63 ∧ xs.length * j.toNat ≤ sizeLine ∧ k (.rf w.M.length) ⟨w.M ++ [.lst (List.replicate j.toNat xs).flatten], w.n⟩) := rfl
theorem isbD_b {a b : Bool} : isbD (.bl a) (.bl b) w k = k (.bl (decide (a = b))) w := rfl
theorem isnotbD_b {a b : Bool} : isnotbD (.bl a) (.bl b) w k = k (.bl (!decide (a = b))) w := rfl
theorem mSplitC_s {a b : Str} : mSplitC (.str a) [.str b] w k = ((b.length == 0) = false ∧ a.length + 2 ≤ sizeLine ∧ k (.rf w.M.length) ⟨w.M ++ [.lst ((Txt.split a b).map D.str)], w.n⟩) := rfl
theorem giEnum_l {ρ : Rho} {kx : KX} {ga : GA} {kk : List D → (Wd → Prop) → Wd → Prop} : giEnum ga ρ w kx kk = ga ρ w kx fun ds w1 => match ds with
  | [.lst xs] => kk (enumD 0 xs) (fun _ => True) w1
  | _ => False := rfl
end
theorem lows_of {n : Nat} : ∀ {xs : List D}, (∀ x ∈ xs, low n x = true) → lows n xs = true
  | [], _ => rfl
  | x :: xs, h => by
    unfold lows
    rw [h x List.mem_cons_self, lows_of fun y hy => h y (List.mem_cons_of_mem _ hy)]
    rfl
/-! ### list + list, either may be changeable -/
def lstK (d : D) (w : Wd) (f : List D → Prop) : Prop := match d with
  | .lst xs => f xs
  | .rf i => cellK i w f
  | _ => False
def addLD : F2 := fun x y w k => lstK x w fun xs => lstK y w fun ys => xs.length + ys.length ≤ sizeLine ∧ k (.lst (xs ++ ys)) w
theorem lst_get {K : PySem.W.Frag} {G : Gh} {S H : Hp} {w : Wd} {v : V} {d : D} {f : List D → Prop} (hr : HR K G S w H) (r : Rep K G S v d) (h : lstK d w f) : ∃ a xs ds, v = .ref a ∧ H a = some (.lst xs) ∧ RepAll K G S xs ds ∧ f ds := by
  cases r with
  | lst e r => exact ⟨_, _, _, rfl, hr.same _ _ e, r, h⟩
  | rf e =>
    obtain ⟨es, xs, _, _, h2, h3, h4⟩ := cell_get hr e h
    exact ⟨_, _, _, rfl, h2, h3, h4⟩
  | _ => exact h.elim
theorem ok_addLD {K : PySem.W.Frag} : BinOk K rCat addLD := by
  intro G S H w x y d e k Q hr rx ry kl h
  obtain ⟨a, xs, ds, rfl, h1, h2, h⟩ := lst_get hr rx h
  obtain ⟨b, ys, es, rfl, h3, h4, h5, h6⟩ := lst_get hr ry h
  exact ⟨_, _, _, _, rfl, rfl, h1, h3, by rw [h2.length, h4.length]; exact h5, kl.newL hr (h2.append h4) h6⟩
theorem de_addl {X : Cx} {E : XK} {a b : Expr} {ga gb : GE} {pos : Pos} (ha : DE X E a ga) (hb : DE X E b gb) : DE X E (.BinOp a .Add b pos) (gBin addLD ga gb) := de_bin op_cat ok_addLD ha hb
theorem lstK_l {xs : List D} {w : Wd} {f : List D → Prop} : lstK (.lst xs) w f = f xs := rfl
theorem lstK_r {i : Nat} {w : Wd} {f : List D → Prop} : lstK (.rf i) w f = cellK i w f := rfl
theorem addLD_eq {x y : D} {w : Wd} {k : KD} : addLD x y w k = lstK x w fun xs => lstK y w fun ys => xs.length + ys.length ≤ sizeLine ∧ k (.lst (xs ++ ys)) w := rfl
end DL

namespace DL
open PySem PySem.Spec PyProof.Rows L2 RZ

/-! ### comprehensions over data of a kind -/
theorem lc_tyf {α : Type} {gt : GG} {tt : GT} {ge : GE} {Ok : Wd → Prop} {ρ : Rho} {k : KD} {w : Wd} (toD f : α → D) (p : α → Bool) (xs : List α) (hOk : Ok w) (hl : xs.length ≤ 100000)
    (h : ∀ a, a ∈ xs → ∀ (A : KD) (B : Wd → Prop), (p a = true → A (f a) w) → (p a = false → B w) → gt (toD a) ρ w fun ρ1 w1 => tt ρ1 w1 noX fun c w2 => if c = true then ge ρ1 w2 noX A else B w2)
    (hk : k (.lst ((xs.filter p).map f)) w) : ∃ P : List D → List D → Wd → Prop, P (xs.map toD) [] w ∧ LcS gt tt ge Ok ρ k P := by
  refine ⟨fun rem acc w' => w' = w ∧ ∃ dn rs, xs = dn ++ rs ∧ rem = rs.map toD ∧ acc = (dn.filter p).map f, ⟨rfl, [], xs, rfl, rfl, rfl⟩, ?_, ?_⟩
  · rintro acc w' ⟨rfl, dn, rs, e, e2, rfl⟩
    have : rs = [] := by simpa using e2.symm
    subst this
    rw [List.append_nil] at e
    subst e
    exact ⟨hOk, hk⟩
  · rintro x rem acc w' ⟨rfl, dn, rs, e, e2, rfl⟩
    cases rs with
    | nil => cases e2
    | cons a rs =>
      rw [List.map_cons] at e2
      injection e2 with e2 e3
      subst e2
      subst e3
      refine ⟨hOk, ?_⟩
      have ha : a ∈ xs := by rw [e]; simp
      have hlen : dn.length ≤ xs.length := by rw [e]; simp
      refine h a ha _ _ (fun hp => ⟨?_, rfl, dn ++ [a], rs, by rw [e]; simp, rfl, ?_⟩) (fun hp => ⟨rfl, dn ++ [a], rs, by rw [e]; simp, rfl, ?_⟩)
      · rw [List.length_map]
        have := List.length_filter_le p dn
        exact Nat.lt_of_le_of_lt (show (dn.filter p).length ≤ 100000 by omega) (by decide)
      · rw [List.filter_append, List.filter_cons, if_pos hp, List.map_append]
        rfl
      · rw [List.filter_append, List.filter_cons, if_neg (by rw [hp]; decide), List.filter_nil, List.append_nil]
theorem lc_ty {α : Type} {gt : GG} {ge : GE} {Ok : Wd → Prop} {ρ : Rho} {k : KD} {w : Wd} (toD f : α → D) (xs : List α) (hOk : Ok w) (hl : xs.length ≤ 100000)
    (h : ∀ a, a ∈ xs → ∀ k' : KD, k' (f a) w → gt (toD a) ρ w fun ρ1 w1 => ge ρ1 w1 noX k') (hk : k (.lst (xs.map f)) w) : ∃ P : List D → List D → Wd → Prop, P (xs.map toD) [] w ∧ LcS gt gYes ge Ok ρ k P := by
  refine lc_tyf toD f (fun _ => true) xs hOk hl (fun a ha A B h1 _ => ?_) ?_
  · exact h a ha A (h1 rfl)
  · rw [List.filter_eq_self.mpr fun _ _ => rfl]
    exact hk
/-! ### places from the end -/
theorem at_last1 {α : Type} (xs : List α) (v : α) : atI (xs ++ [v]) (-1) = some v := atI_last xs v
theorem cut_init {α : Type} (xs : List α) (v : α) : cutD (xs ++ [v]) none (some (-1)) = xs := by
  unfold cutD
  rw [HT.sIx_none, List.drop_zero, Nat.sub_zero]
  have : HT.sIx (xs ++ [v]).length (xs ++ [v]).length (some (-1)) = xs.length := by
    show (if (-1 : Int) < 0 then ((-1 : Int) + ((xs ++ [v]).length : Int)).toNat else min (-1 : Int).toNat (xs ++ [v]).length) = _
    rw [if_pos (by decide), List.length_append, List.length_singleton]
    omega
  rw [this, List.take_left]
theorem rep_map {α β : Type} (f : α → β) (n : Nat) (xs : List α) : (List.replicate n (xs.map f)).flatten = ((List.replicate n xs).flatten).map f := by
  rw [List.map_flatten, List.map_replicate]
theorem rep_mem {α : Type} {n : Nat} {xs : List α} {x : α} (h : x ∈ (List.replicate n xs).flatten) : x ∈ xs := by
  obtain ⟨l, h1, h2⟩ := List.mem_flatten.mp h
  rw [List.eq_of_mem_replicate h1] at h2
  exact h2
theorem rep_flen {α : Type} (n : Nat) (xs : List α) : ((List.replicate n xs).flatten).length = n * xs.length := by
  rw [List.length_flatten, List.map_replicate, List.sum_replicate_nat]
theorem cut_len' {α : Type} (xs : List α) (lo hi : Option Int) : (cutD xs lo hi).length ≤ xs.length := by
  unfold cutD
  rw [List.length_take, List.length_drop]
  omega
theorem split_last {α : Type} {xs : List α} (h : 0 < xs.length) : ∃ ys y, xs = ys ++ [y] := by
  have : xs ≠ [] := fun z => by rw [z] at h; cases h
  exact ⟨xs.dropLast, xs.getLast this, (List.dropLast_concat_getLast this).symm⟩
end DL

namespace DL
open PySem PySem.Spec PyProof.Rows L2 RZ

/-! ### dicts: keys are ints and texts -/
def keyD : D → Option Key
  | .int i => some (.inl i)
  | .str s => some (.inr s)
  | _ => none
section
variable {K : PySem.W.Frag} {G : Gh} {S H : Hp} {w : Wd}
theorem rep_key {v : V} {d : D} {k : Key} (r : Rep K G S v d) (h : keyD d = some k) : v = kV k := by
  cases r with
  | int i => cases h; rfl
  | str i => cases h; rfl
  | _ => cases h
section
variable {κ : Type} [DecidableEq κ]
def valD (kvs : List (κ × D)) (k : κ) : Option D := (kvs.find? fun kv => decide (kv.1 = k)).map (·.2)
def putD (kvs : List (κ × D)) (k : κ) (d : D) : List (κ × D) := if (kvs.any fun kv => decide (kv.1 = k)) = true then kvs.map fun kv => if kv.1 = k then (kv.1, d) else kv else kvs ++ [(k, d)]
theorem fs_any {k : κ} : ∀ {xs : List (κ × V)} {ys : List (κ × D)}, FsRep K G S xs ys → (xs.any fun kv => decide (kv.1 = k)) = ys.any fun kv => decide (kv.1 = k)
  | _, _, .nil => rfl
  | _, _, .cons h r => by
    rw [List.any_cons, List.any_cons, fs_any r, h.1]
theorem fs_some {k : κ} {d : D} : ∀ {xs : List (κ × V)} {ys : List (κ × D)}, FsRep K G S xs ys → valD ys k = some d → ∃ v, valV xs k = some v ∧ Rep K G S v d
  | _, _, .nil, e => nomatch e
  | x :: xs, y :: ys, .cons h r, e => by
    by_cases hk : y.1 = k
    · have e2 : valD (y :: ys) k = some y.2 := by simp [valD, List.find?_cons, hk]
      rw [e2] at e
      cases e
      exact ⟨x.2, valV_pos (h.1.trans hk), h.2⟩
    · have e2 : valD (y :: ys) k = valD ys k := by simp [valD, List.find?_cons, hk]
      rw [e2] at e
      rw [valV_neg fun z => hk (h.1.symm.trans z)]
      exact fs_some r e
theorem fs_none {k : κ} : ∀ {xs : List (κ × V)} {ys : List (κ × D)}, FsRep K G S xs ys → valD ys k = none → valV xs k = none
  | _, _, .nil, _ => rfl
  | x :: xs, y :: ys, .cons h r, e => by
    by_cases hk : y.1 = k
    · have e2 : valD (y :: ys) k = some y.2 := by simp [valD, List.find?_cons, hk]
      rw [e2] at e
      cases e
    · have e2 : valD (y :: ys) k = valD ys k := by simp [valD, List.find?_cons, hk]
      rw [e2] at e
      rw [valV_neg fun z => hk (h.1.symm.trans z)]
      exact fs_none r e
theorem fs_map {k : κ} {v : V} {d : D} (hd : Rep K G S v d) : ∀ {xs : List (κ × V)} {ys : List (κ × D)}, FsRep K G S xs ys → FsRep K G S (xs.map fun kv => if kv.1 = k then (kv.1, v) else kv) (ys.map fun kv => if kv.1 = k then (kv.1, d) else kv)
  | _, _, .nil => .nil
  | x :: _, y :: _, .cons h r => by
    refine .cons ?_ (fs_map hd r)
    by_cases hk : y.1 = k
    · simp only [if_pos hk, if_pos (h.1.trans hk)]
      exact ⟨h.1, hd⟩
    · have hk2 : ¬ x.1 = k := fun z => hk (h.1.symm.trans z)
      simp only [if_neg hk, if_neg hk2]
      exact h
theorem fs_snoc {k : κ} {v : V} {d : D} (hd : Rep K G S v d) : ∀ {xs : List (κ × V)} {ys : List (κ × D)}, FsRep K G S xs ys → FsRep K G S (xs ++ [(k, v)]) (ys ++ [(k, d)])
  | _, _, .nil => .cons ⟨rfl, hd⟩ .nil
  | _, _, .cons h r => .cons h (fs_snoc hd r)
theorem fs_put {k : κ} {v : V} {d : D} (hd : Rep K G S v d) {xs : List (κ × V)} {ys : List (κ × D)} (h : FsRep K G S xs ys) : FsRep K G S (putK xs k v) (putD ys k d) := by
  unfold putK putD
  rw [fs_any h]
  split
  · exact fs_map hd h
  · exact fs_snoc hd h
theorem fs_lenD {xs : List (κ × V)} {ys : List (κ × D)} (h : FsRep K G S xs ys) : xs.length = ys.length := Paired.length h
theorem fs_keys : ∀ {xs : List (κ × V)} {ys : List (κ × D)}, FsRep K G S xs ys → xs.map (·.1) = ys.map (·.1)
  | _, _, .nil => rfl
  | _, _, .cons h r => by
    rw [List.map_cons, List.map_cons, fs_keys r, h.1]
end
def dkK (i : Nat) (w : Wd) (f : List (Key × D) → Prop) : Prop := match w.M[i]? with
  | some (.dk xs) => f xs
  | _ => False
theorem dk_get {a : Addr} {i : Nat} {f : List (Key × D) → Prop} (hr : HR K G S w H) (e : G.al[i]? = some a) (h : dkK i w f) :
    ∃ ds xs, w.M[i]? = some (.dk ds) ∧ S a = none ∧ H a = some (.dK xs) ∧ FsRep K G S xs ds ∧ f ds := by
  unfold dkK at h
  split at h
  · rename_i ds e2
    obtain ⟨h1, xs, h2, h3⟩ := hr.cell _ _ _ e e2
    exact ⟨ds, xs, e2, h1, h2, h3, h⟩
  · exact h.elim
theorem dk_put {a : Addr} {i : Nat} {c : Cell} {ys : List (Key × V)} {es : List (Key × D)} (hr : HR K G S w H) (e : G.al[i]? = some a) (e2 : w.M[i]? = some c) (hs : S a = none) (r : FsRep K G S ys es) :
    HR K G S ⟨w.M.set i (.dk es), w.n⟩ (upd H a (.dK ys)) := hr.setC e e2 hs ⟨hs, ys, upd_same, r⟩
theorem KL.newCell {k : KD} {Q : VK} {o : HO} {c : Cell} (kl : KL K G S k Q) (hr : HR K G S w H) (h : k (.rf w.M.length) ⟨w.M ++ [c], w.n⟩) {p : Addr} (hp : H p = none) (hc : CellOk K ⟨G.al ++ [p], G.st, G.fr⟩ S (upd H p o) p c) : Q (.ref p) (upd H p o) := by
  obtain ⟨h1, x1⟩ := hr.newC hp o c hc
  refine kl _ _ _ _ _ _ x1 h1 (.rf ?_) h
  show (G.al ++ [p])[w.M.length]? = some p
  rw [List.getElem?_append_right (by rw [hr.len]; exact Nat.le_refl _), hr.len, Nat.sub_self]
  rfl
end
def gDNew : GE := fun _ w _ k => k (.rf w.M.length) ⟨w.M ++ [.dk []], w.n⟩
def keyK (d : D) (f : Key → Prop) : Prop := match keyD d with
  | some k => f k
  | none => False
def rfK (d : D) (f : Nat → Prop) : Prop := match d with
  | .rf i => f i
  | _ => False
def gDGet (go gi : GE) : GE := fun ρ w kx k => go ρ w kx fun x w1 => gi ρ w1 kx fun y w2 => rfK x fun i => keyK y fun q => dkK i w2 fun kvs => someK (valD kvs q) fun d => k d w2
def gDGet2 (go gi gd : GE) : GE := fun ρ w kx k => go ρ w kx fun x w1 => rfK x fun i => dkK i w1 fun _ => gi ρ w1 kx fun y w2 => gd ρ w2 kx fun z w3 => keyK y fun q => dkK i w3 fun kvs => k ((valD kvs q).getD z) w3
def gDSetd (go gi gd : GE) : GE := fun ρ w kx k => go ρ w kx fun x w1 => rfK x fun i => dkK i w1 fun _ => gi ρ w1 kx fun y w2 => gd ρ w2 kx fun z w3 => keyK y fun q => dkK i w3 fun kvs => kvs.length < sizeLine ∧ match valD kvs q with
  | some d => k d w3
  | none => k z ⟨w3.M.set i (.dk (putD kvs q z)), w3.n⟩
def ggDPut (go gi : GE) : GG := fun d ρ w k => go ρ w noX fun x w1 => gi ρ w1 noX fun y w2 => rfK x fun i => keyK y fun q => dkK i w2 fun kvs => kvs.length < sizeLine ∧ k ρ ⟨w2.M.set i (.dk (putD kvs q d)), w2.n⟩
theorem rfK_rep {K : PySem.W.Frag} {G : Gh} {S : Hp} {v : V} {d : D} {f : Nat → Prop} (r : Rep K G S v d) (h : rfK d f) : ∃ a i, v = .ref a ∧ d = .rf i ∧ G.al[i]? = some a ∧ f i := by
  cases r with
  | rf e => exact ⟨_, _, rfl, rfl, e, h⟩
  | _ => exact h.elim
theorem keyK_rep {K : PySem.W.Frag} {G : Gh} {S : Hp} {v : V} {d : D} {f : Key → Prop} (r : Rep K G S v d) (h : keyK d f) : ∃ k, v = kV k ∧ f k := by
  unfold keyK at h
  split at h
  · rename_i k e
    exact ⟨k, rep_key r e, h⟩
  · exact h.elim
theorem someK_get {o : Option D} {f : D → Prop} (h : someK o f) : ∃ d, o = some d ∧ f d := by
  unfold someK at h
  split at h
  · exact ⟨_, rfl, h⟩
  · exact h.elim
section
variable {X : Cx} {E : XK} {o i e : Expr} {go gi gd : GE} {pos apos cpos : Pos}
theorem de_dnew : DE X E (.Dict [] [] pos) gDNew := pe_imp pe_dnewK (by
  rintro σ H Q ⟨G, S, ρ, w, kx, k, hr, sr, xl, kl, h⟩ p hp
  exact kl.newCell hr h hp ⟨hr.freshS hp, [], upd_same, .nil⟩)
theorem de_dget (hu : X.A.units + 1 < cLine) (ho : DE X E o go) (hi : DE X E i gi) (hs : NoSl i := by exact fun _ _ => rfl) : DE X E (.Subscript o i pos) (gDGet go gi) := pe_imp (pe_dget hu ho hi hs) (by
  rintro σ H Q ⟨G, S, ρ, w, kx, k, hr, sr, xl, kl, h⟩
  refine ⟨G, S, ρ, w, kx, _, hr, sr, xl, fun G1 S1 H1 w1 dx vx x1 hr1 rx h1 => ⟨G1, S1, ρ, w1, kx, _, hr1, sr.mono x1, xl.mono x1, fun G2 S2 H2 w2 dy vy x2 hr2 ry h2 => ?_, h1⟩, h⟩
  obtain ⟨a, j, rfl, rfl, ea, h3⟩ := rfK_rep (rx.mono x2) h2
  obtain ⟨q, rfl, h4⟩ := keyK_rep ry h3
  obtain ⟨ds, xs, _, _, g1, g2, h5⟩ := dk_get hr2 ea h4
  obtain ⟨d, e1, h6⟩ := someK_get h5
  obtain ⟨v, e2, rv⟩ := fs_some g2 e1
  exact ⟨a, v, rfl, by rw [← e2]; exact DGet.k g1, kl _ _ _ _ _ _ (x1.trans x2) hr2 rv h6⟩)
theorem de_dget2 (hu : X.A.units + 1 < cLine) (ho : DE X E o go) (hi : DE X E i gi) (hd : DE X E e gd) (m : M2 X o "get" apos i e cpos := by exact ⟨rfl, rfl, rfl, rfl⟩) : DE X E (.Call (.Attribute o "get" apos) [i, e] [] cpos) (gDGet2 go gi gd) := pe_imp (pe_dget2 hu ho hi hd m) (by
  rintro σ H Q ⟨G, S, ρ, w, kx, k, hr, sr, xl, kl, h⟩
  refine ⟨G, S, ρ, w, kx, _, hr, sr, xl, fun G1 S1 H1 w1 dx vx x1 hr1 rx h1 => ?_, h⟩
  obtain ⟨a, j, rfl, rfl, ea, h3⟩ := rfK_rep rx h1
  obtain ⟨ds, xs, _, _, g1, g2, h5⟩ := dk_get hr1 ea h3
  refine ⟨a, rfl, .inl ⟨xs, .inl g1⟩, G1, S1, ρ, w1, kx, _, hr1, sr.mono x1, xl.mono x1, fun G2 S2 H2 w2 dy vy x2 hr2 ry h6 => ⟨G2, S2, ρ, w2, kx, _, hr2, sr.mono (x1.trans x2), xl.mono (x1.trans x2), fun G3 S3 H3 w3 dz vz x3 hr3 rz h7 => ?_, h6⟩, h5⟩
  obtain ⟨q, rfl, h8⟩ := keyK_rep (ry.mono x3) h7
  have ea3 := (x2.trans x3).alGet ea
  obtain ⟨es, ys, _, _, g3, g4, h9⟩ := dk_get hr3 ea3 h8
  have xt := x1.trans (x2.trans x3)
  refine ⟨_, DGet.k g3, ?_⟩
  cases e1 : valD es q with
  | none =>
    rw [e1] at h9
    rw [fs_none g4 e1]
    exact kl _ _ _ _ _ _ xt hr3 rz h9
  | some d =>
    rw [e1] at h9
    obtain ⟨v, e2, rv⟩ := fs_some g4 e1
    rw [e2]
    exact kl _ _ _ _ _ _ xt hr3 rv h9)
theorem de_dsetd (ho : DE X E o go) (hi : DE X E i gi) (hd : DE X E e gd) (m : M2 X o "setdefault" apos i e cpos := by exact ⟨rfl, rfl, rfl, rfl⟩) : DE X E (.Call (.Attribute o "setdefault" apos) [i, e] [] cpos) (gDSetd go gi gd) := pe_imp (pe_dsetd ho hi hd m) (by
  rintro σ H Q ⟨G, S, ρ, w, kx, k, hr, sr, xl, kl, h⟩
  refine ⟨G, S, ρ, w, kx, _, hr, sr, xl, fun G1 S1 H1 w1 dx vx x1 hr1 rx h1 => ?_, h⟩
  obtain ⟨a, j, rfl, rfl, ea, h3⟩ := rfK_rep rx h1
  obtain ⟨ds, xs, _, _, g1, g2, h5⟩ := dk_get hr1 ea h3
  refine ⟨a, rfl, .inl ⟨xs, .inl g1⟩, G1, S1, ρ, w1, kx, _, hr1, sr.mono x1, xl.mono x1, fun G2 S2 H2 w2 dy vy x2 hr2 ry h6 => ⟨G2, S2, ρ, w2, kx, _, hr2, sr.mono (x1.trans x2), xl.mono (x1.trans x2), fun G3 S3 H3 w3 dz vz x3 hr3 rz h7 => ?_, h6⟩, h5⟩
  obtain ⟨q, rfl, h8⟩ := keyK_rep (ry.mono x3) h7
  have ea3 := (x2.trans x3).alGet ea
  obtain ⟨es, ys, e2, hs, g3, g4, h9, h10⟩ := dk_get hr3 ea3 h8
  have xt := x1.trans (x2.trans x3)
  refine ⟨ys, q, g3, rfl, by rw [fs_lenD g4]; exact h9, fun v hv => ?_, fun hv => ?_⟩
  · cases e1 : valD es q with
    | none =>
      rw [fs_none g4 e1] at hv
      cases hv
    | some d =>
      rw [e1] at h10
      obtain ⟨u, e3, rv⟩ := fs_some g4 e1
      rw [e3] at hv
      cases hv
      exact kl _ _ _ _ _ _ xt hr3 rv h10
  · cases e1 : valD es q with
    | none =>
      rw [e1] at h10
      exact kl _ _ _ _ _ _ xt (dk_put hr3 ea3 e2 hs (fs_put rz g4)) rz h10
    | some d =>
      obtain ⟨u, e3, rv⟩ := fs_some g4 e1
      rw [e3] at hv
      cases hv)
theorem dg_dput (hu : X.A.units + 1 < cLine) (ho : DE X E o go) (hi : DE X E i gi)
    (ha : ∀ v, assign (.Subscript o i pos) X.env v = (do
      let ov ← holding [v] (eval o X.env)
      let iv ← holding [v, ov] (eval i X.env)
      standAt pos
      holding [v, ov, iv] (setItem ov iv v)
      release [v, ov, iv] []) := by intro _; rfl) : DG X [] (.Subscript o i pos) (ggDPut go gi) := pg_imp (pg_sub ho hi (set_dict hu) ha) (by
  rintro v σ H Q ⟨G, S, ρ, w, d, k, hr, sr, rp, nl, h⟩
  refine ⟨G, S, ρ, w, noX, _, hr, sr, xl_no, fun G1 S1 H1 w1 dx vx x1 hr1 rx h1 => ⟨G1, S1, ρ, w1, noX, _, hr1, sr.mono x1, xl_no, fun G2 S2 H2 w2 dy vy x2 hr2 ry h2 => ?_, h1⟩, h⟩
  have x12 := x1.trans x2
  obtain ⟨a, j, rfl, rfl, ea, h3⟩ := rfK_rep (rx.mono x2) h2
  obtain ⟨q, rfl, h4⟩ := keyK_rep ry h3
  obtain ⟨es, ys, e2, hs, g3, g4, h9, h10⟩ := dk_get hr2 ea h4
  exact ⟨a, _, rfl, DPut.k g3 (by rw [fs_lenD g4]; exact h9), nl _ _ _ _ _ _ x12 (dk_put hr2 ea e2 hs (fs_put (rp.mono x12) g4)) (sr.mono x12) ⟨rfl, fun _ _ => rfl⟩ h10⟩)
end
/-- sorted(d): its keys are texts -/
def fSortD : FB := fun ds w k => match ds with
  | [.rf i] => dkK i w fun kvs => ∃ ks : List Str, kvs.map (·.1) = ks.map Sum.inr ∧ ks.length < 64 ∧ ∀ ys : List Str, ys.Perm ks → sortedS ys = true → k (.lst (ys.map D.str)) w
  | _ => False
theorem de_sortD {X : Cx} {E : XK} {e : Expr} {es : List Expr} {ga : GA} {p pos : Pos} (B : Blt X.mg) (hc : X.calm = true) (hg : Gl X "sorted") (ha : DA X E (e :: es) ga) (he : starEach (e :: es) X.env = (false, eval e X.env) :: starEach es X.env := by rfl) (hpl : (backTo pos (starEach es X.env)).any (·.1) = false := by rfl) : DE X E (.Call (.Name "sorted" p) (e :: es) [] pos) (gCB fSortD ga) := de_cb (call_sortedD hc) (by
  intro G S H w xs ds k Q hr rx kl h
  unfold fSortD at h
  split at h
  · obtain ⟨v, rfl, r⟩ := one_rep rx
    cases r with
    | rf e =>
      obtain ⟨kvs, ys, _, _, g1, g2, ks, h1, h2, h3⟩ := dk_get hr e h
      exact ⟨_, ys, ks, rfl, .inl g1, (fs_keys g2).trans h1, h2, fun zs p h4 h5 hp => kl.newL hr (rep_strs zs) (h3 zs h4 h5) p hp⟩
  · exact h.elim) hg B.sorted_ (by decide +kernel) ha (he := he) (hpl := hpl)

/-! ### instances -/
def insK (C : Addr) (i : Nat) (w : Wd) (f : List (Str × D) → Prop) : Prop := match w.M[i]? with
  | some (.ins C' fs) => C' = C ∧ f fs
  | _ => False
theorem ins_at {K : PySem.W.Frag} {G : Gh} {S H : Hp} {w : Wd} {C a : Addr} {i : Nat} {f : List (Str × D) → Prop} (hr : HR K G S w H) (e : G.al[i]? = some a) (h : insK C i w f) :
    ∃ ds dx xs, w.M[i]? = some (.ins C ds) ∧ S a = none ∧ H a = some (.ins C dx xs) ∧ FsRep K G S xs ds ∧ f ds := by
  unfold insK at h
  split at h
  · rename_i C' ds e2
    obtain ⟨rfl, h⟩ := h
    obtain ⟨h1, dx, xs, h2, h3⟩ := hr.cell _ _ _ e e2
    exact ⟨ds, dx, xs, e2, h1, h2, h3, h⟩
  · exact h.elim
def putFD (f : Str) (d : D) : List (Str × D) → List (Str × D)
  | [] => [(f, d)]
  | (g, x) :: r => if g = f then (g, d) :: r else (g, x) :: putFD f d r
section
variable {K : PySem.W.Frag} {G : Gh} {S : Hp}
theorem fs_putF {f : Str} {v : V} {d : D} (hd : Rep K G S v d) : ∀ {xs : List (Str × V)} {ys : List (Str × D)}, FsRep K G S xs ys → FsRep K G S (putF f v xs) (putFD f d ys)
  | _, _, .nil => .cons ⟨rfl, hd⟩ .nil
  | (g, x) :: xs, (g', y) :: ys, .cons h r => by
    have e : g = g' := h.1
    subst e
    show FsRep K G S (if g = f then (g, v) :: xs else (g, x) :: putF f v xs) (if g = f then (g, d) :: ys else (g, y) :: putFD f d ys)
    split
    · exact .cons ⟨rfl, hd⟩ r
    · exact .cons h (fs_putF hd r)
theorem fs_look {f : Str} {d : D} : ∀ {xs : List (Str × V)} {ys : List (Str × D)}, FsRep K G S xs ys → ys.lookup f = some d → ∃ v, xs.lookup f = some v ∧ Rep K G S v d
  | _, _, .nil, e => nomatch e
  | (g, x) :: xs, (g', y) :: ys, .cons h r, e => by
    have eg : g = g' := h.1
    subst eg
    rw [List.lookup_cons] at e ⊢
    split at e
    · cases e
      exact ⟨x, rfl, h.2⟩
    · exact fs_look r e
theorem fs_lookN {f : Str} : ∀ {xs : List (Str × V)} {ys : List (Str × D)}, FsRep K G S xs ys → ys.lookup f = none → xs.lookup f = none
  | _, _, .nil, _ => rfl
  | (g, x) :: xs, (g', y) :: ys, .cons h r, e => by
    have eg : g = g' := h.1
    subst eg
    rw [List.lookup_cons] at e ⊢
    split at e
    · cases e
    · exact fs_lookN r e
end
def gFld (C : Addr) (go : GE) (f : Str) : GE := fun ρ w kx k => go ρ w kx fun x w1 => rfK x fun i => insK C i w1 fun fs => someK (fs.lookup f) fun d => k d w1
def gSetF (C : Addr) (go gv : GE) (f : Str) : GS := fun F ρ w => gv ρ w F.ex fun d w1 => go ρ w1 F.ex fun x w2 => rfK x fun i => insK C i w2 fun fs => fs.length < 1000 ∧ F.nx ρ ⟨w2.M.set i (.ins C (putFD f d fs)), w2.n⟩
/-- o.m(..): the method's meaning sp, of n arguments with self -/
def gMeth (C : Addr) (n : Nat) (sp : GF) (m : Str) (go : GE) (ga : GA) : GE := fun ρ w kx k => go ρ w kx fun x w1 => rfK x fun i => insK C i w1 fun fs => fs.lookup m = none ∧ ga ρ w1 kx fun xs w2 => (x :: xs).length = n ∧ sp (x :: xs) w2 noX k
def gMake (C : Addr) (n : Nat) (sp : GF) (ga : GA) : GE := fun ρ w kx k => ga ρ w kx fun xs w1 => (D.rf w1.M.length :: xs).length = n ∧ sp (.rf w1.M.length :: xs) ⟨w1.M ++ [.ins C []], w1.n⟩ noX fun d w2 => d = .non ∧ k (.rf w1.M.length) w2
structure ClsAt (K : PySem.W.Frag) (mg : Str → Option Value) (x : Str) (C : Addr) (fs : List Str) : Prop where
  cl : Cls K C
  mgC : mg x = some (.ref C)
  na : ∀ f ∈ fs, NoAttr K C f
structure MethAt (K : PySem.W.Frag) (C : Addr) (m qual : Str) (st : Stmt) (ps : List Str) : Prop where
  ex : ∃ f fd, Fun K m qual st f fd ∧ Meth K C m f ∧ Binds K fd ps []
structure InitAt (K : PySem.W.Frag) (C : Addr) (qual : Str) (st : Stmt) (ps : List Str) : Prop where
  ex : ∃ f fd, Fun K "__init__" qual st f fd ∧ Mk K C f ∧ Binds K fd ps []
structure MtAt (P : Program) (w : World) (K : PySem.W.Frag) (mg : Str → Option Value) (base : Heap) (CX : CXT) (k : Nat) (C : Addr) (m : Str) (n : Nat) (g : GF) : Prop where
  ex : ∃ f fd ps, FnOk P w K mg base CX k f fd ps (upF n K g) ∧ Meth K C m f ∧ Binds K fd ps []
structure InAt (P : Program) (w : World) (K : PySem.W.Frag) (mg : Str → Option Value) (base : Heap) (CX : CXT) (k : Nat) (C : Addr) (n : Nat) (g : GF) : Prop where
  ex : ∃ f fd ps, FnOk P w K mg base CX k f fd ps (upF n K g) ∧ Mk K C f ∧ Binds K fd ps []
section
variable {P : Program} {w : World} {K : PySem.W.Frag} {mg : Str → Option Value} {base : Heap}
theorem MtAt.imp {CX : CXT} {k : Nat} {C : Addr} {m : Str} {n : Nat} {g g' : GF} (h : MtAt P w K mg base CX k C m n g) (i : ∀ ds w kx k, g' ds w kx k → g ds w kx k) : MtAt P w K mg base CX k C m n g' := by
  obtain ⟨f, fd, ps, h1, h2⟩ := h.ex
  exact ⟨f, fd, ps, h1.imp (up_imp i), h2⟩
theorem InAt.imp {CX : CXT} {k : Nat} {C : Addr} {n : Nat} {g g' : GF} (h : InAt P w K mg base CX k C n g) (i : ∀ ds w kx k, g' ds w kx k → g ds w kx k) : InAt P w K mg base CX k C n g' := by
  obtain ⟨f, fd, ps, h1, h2⟩ := h.ex
  exact ⟨f, fd, ps, h1.imp (up_imp i), h2⟩
theorem MtAt.trunc {CX : CXT} {k : Nat} {C : Addr} {m : Str} {n : Nat} {g : GF} (h : MtAt P w K mg base CX k C m n g) : MtAt P w K mg base CX k C m n (gTr g) := by
  obtain ⟨f, fd, ps, h1, h2⟩ := h.ex
  exact ⟨f, fd, ps, h1.imp tr_up, h2⟩
theorem fun_fnq {x q : Str} {st : Stmt} {f : Addr} {fd : FuncData} {N ps : List Str} {k : Nat} {g : GS} (F : Fun K x q st f fd) (S : FnScope N ps (defScope st))
    (hbody : ∀ (f : Addr) (cdv : Value) (A : Around) (outer : List Env) (s : Shared) (H : Hp) (E : XK), Room k (A.deeper (envOfC q (defScope st) s.heap.objs.size f cdv)) →
      DSs (cxOf CX0 P w K mg base N q (defScope st) f cdv A outer s H E).nox E0 (defBody st) g) : FnOk P w K mg base CX0 (k + 1) f fd ps (upF ps.length K (sem0 N.length g)) := by
  refine F.ok S (fun vs H Q E h => ?_) (fun cdv A outer s H vs Q E hr h => ?_)
  · obtain ⟨G, S, ds, w, kx, k, h1, h2, h3, _⟩ := h
    rw [h3.length, h1]
  · obtain ⟨G, S1, ds, w1, kx, k1, h1, h2, h3, h4, h5, h6⟩ := h
    refine ⟨_, hbody f cdv A outer s H E hr, G, S1, rho N.length ds, w1, { nx := fun _ w' => k1 .non w', rt := k1, ex := noX }, h2, sr_start h3, ⟨fun G' S' H' w' ρ' σ' x1 hr1 _ hk => h5 _ _ _ _ _ _ x1 hr1 .non hk, h5, ?_, ?_, xl_no⟩, h6⟩
    · intro _ _ _ _ _ _ _ _ _ z
      exact z.elim
    · intro _ _ _ _ _ _ _ _ _ z
      exact z.elim
theorem MethAt.fn0 {C : Addr} {m q : Str} {st : Stmt} {N ps : List Str} {k : Nat} {g : GS} (T : MethAt K C m q st ps) (S : FnScope N ps (defScope st))
    (hbody : ∀ (f : Addr) (cdv : Value) (A : Around) (outer : List Env) (s : Shared) (H : Hp) (E : XK), Room k (A.deeper (envOfC q (defScope st) s.heap.objs.size f cdv)) →
      DSs (cxOf CX0 P w K mg base N q (defScope st) f cdv A outer s H E).nox E0 (defBody st) g) : MtAt P w K mg base CX0 (k + 1) C m ps.length (sem0 N.length g) := by
  obtain ⟨f, fd, F, hm, hb⟩ := T.ex
  exact ⟨f, fd, ps, fun_fnq F S hbody, hm, hb⟩
theorem InitAt.fn0 {C : Addr} {q : Str} {st : Stmt} {N ps : List Str} {k : Nat} {g : GS} (T : InitAt K C q st ps) (S : FnScope N ps (defScope st))
    (hbody : ∀ (f : Addr) (cdv : Value) (A : Around) (outer : List Env) (s : Shared) (H : Hp) (E : XK), Room k (A.deeper (envOfC q (defScope st) s.heap.objs.size f cdv)) →
      DSs (cxOf CX0 P w K mg base N q (defScope st) f cdv A outer s H E).nox E0 (defBody st) g) : InAt P w K mg base CX0 (k + 1) C ps.length (sem0 N.length g) := by
  obtain ⟨f, fd, F, hm, hb⟩ := T.ex
  exact ⟨f, fd, ps, fun_fnq F S hbody, hm, hb⟩
end
section
variable {X : Cx} {E : XK} {o e value : Expr} {es : List Expr} {go gv : GE} {ga : GA} {pos pos' apos p : Pos} {f x m : Str} {C : Addr} {fs : List Str} {k n : Nat} {g : GF}
theorem de_fld (c : ClsAt X.K X.mg x C fs) (hf : f ∈ fs) (ho : DE X E o go) (hb : attributeBase o f X.env (eval o X.env) = eval o X.env := by rfl) : DE X E (.Attribute o f pos) (gFld C go f) := pe_imp (pe_fld ho hb) (by
  rintro σ H Q ⟨G, S, ρ, w, kx, k, hr, sr, xl, kl, h⟩
  refine ⟨G, S, ρ, w, kx, _, hr, sr, xl, fun G1 S1 H1 w1 dx vx x1 hr1 rx h1 => ?_, h⟩
  obtain ⟨a, j, rfl, rfl, ea, h3⟩ := rfK_rep rx h1
  obtain ⟨ds, dx, xs, _, _, g1, g2, h5⟩ := ins_at hr1 ea h3
  obtain ⟨d, e1, h6⟩ := someK_get h5
  obtain ⟨v, e2, rv⟩ := fs_look g2 e1
  exact ⟨a, C, dx, xs, v, rfl, g1, c.cl, c.na f hf, e2, kl _ _ _ _ _ _ x1 hr1 rv h6⟩)
theorem ds_setF (c : ClsAt X.K X.mg x C fs) (hf : f ∈ fs) (ho : DE X E o go) (hv : DE X E value gv) (hs : swapsWith value (some (.Attribute o f pos')) pos.line X.env = pure false) : DS X E (.Assign [.Attribute o f pos'] value pos) (gSetF C go gv f) := ps_imp (ps_fld ho hv hs) (by
  rintro D σ H ⟨G, S, ρ, w, F, hr, sr, el, h⟩
  refine ⟨G, S, ρ, w, F.ex, _, hr, sr, el.ex, fun G1 S1 H1 w1 d v x1 hr1 rv h1 => ⟨G1, S1, ρ, w1, F.ex, _, hr1, sr.mono x1, (el.mono x1).ex, fun G2 S2 H2 w2 dx vx x2 hr2 rx h2 => ?_, h1⟩, h⟩
  obtain ⟨a, j, rfl, rfl, ea, h3⟩ := rfK_rep rx h2
  obtain ⟨ds, dx, xs, e2, hs, g1, g2, h5, h6⟩ := ins_at hr2 ea h3
  refine ⟨a, C, dx, xs, rfl, g1, c.cl, c.na f hf, by rw [Paired.length g2]; exact h5, ?_⟩
  exact el.nx _ _ _ _ _ _ (x1.trans x2) (hr2.setC (c := .ins C (putFD f d ds)) ea e2 hs ⟨hs, dx, _, upd_same, fs_putF (rv.mono x2) g2⟩) (sr.mono (x1.trans x2)) h6)
theorem de_meth {j : Nat} {pl : Sem Bool} (c : ClsAt X.K X.mg x C fs) (F : MtAt X.prog X.w X.K X.mg X.base CX0 j C m n g) (hr : Room k X.A) (ho : DE X E o go) (ha : DA X E (e :: es) ga) (hjk : j ≤ k)
    (hst : starEach (e :: es) X.env = (false, eval e X.env) :: starEach es X.env) (hpl : (backTo pos (starEach es X.env)).any (·.1) = false)
    (ht : eval (.Call (.Attribute o m apos) (e :: es) [] pos) X.env = (do
      let ov ← eval o X.env
      standAt apos.atName
      let (f, first) ← holding [ov] (getMethod ov m pl)
      callWith pos f first (backTo pos (starEach (e :: es) X.env)) (backToKw pos (keywordEach [] X.env)))) : DE X E (.Call (.Attribute o m apos) (e :: es) [] pos) (gMeth C n g m go ga) := by
  obtain ⟨f, fd, ps, h1, h2, h3⟩ := F.ex
  refine pe_imp (pe_meth (pl := pl) ho c.cl h2 h1 (hr.mono hjk) h3 .nil pass0 ha hst hpl ht) ?_
  rintro σ H Q ⟨G, S, ρ, w, kx, k, hr, sr, xl, kl, h⟩
  refine ⟨G, S, ρ, w, kx, _, hr, sr, xl, fun G1 S1 H1 w1 dx vx x1 hr1 rx h1 => ?_, h⟩
  obtain ⟨a, i, rfl, rfl, ea, h3⟩ := rfK_rep rx h1
  obtain ⟨ds, dx, xs, _, _, g1, g2, h5, h6⟩ := ins_at hr1 ea h3
  refine ⟨a, dx, xs, rfl, g1, fs_lookN g2 h5, G1, S1, ρ, w1, kx, _, hr1, sr.mono x1, xl.mono x1, fun G2 S2 H2 w2 as vs x2 hr2 ra h7 => ?_, h6⟩
  show upF n X.K g (.ref a :: (vs ++ [])) H2 Q E0
  rw [List.append_nil]
  exact ⟨G2, S2, _, w2, noX, k, h7.1, hr2, .cons (rx.mono x2) ra, xl_no, kl.mono (x1.trans x2), h7.2⟩
theorem de_meth0 {j : Nat} {pl : Sem Bool} (c : ClsAt X.K X.mg x C fs) (F : MtAt X.prog X.w X.K X.mg X.base CX0 j C m n g) (hr : Room k X.A) (ho : DE X E o go) (hjk : j ≤ k)
    (ht : eval (.Call (.Attribute o m apos) [] [] pos) X.env = (do
      let ov ← eval o X.env
      standAt apos.atName
      let (f, first) ← holding [ov] (getMethod ov m pl)
      callWith pos f first (backTo pos (starEach [] X.env)) (backToKw pos (keywordEach [] X.env)))) : DE X E (.Call (.Attribute o m apos) [] [] pos) (gMeth C n g m go gaNil) := by
  obtain ⟨f, fd, ps, h1, h2, h3⟩ := F.ex
  refine pe_imp (pe_meth0 (pl := pl) ho c.cl h2 h1 (hr.mono hjk) h3 .nil pass0 ht) ?_
  rintro σ H Q ⟨G, S, ρ, w, kx, k, hr, sr, xl, kl, h⟩
  refine ⟨G, S, ρ, w, kx, _, hr, sr, xl, fun G1 S1 H1 w1 dx vx x1 hr1 rx h1 => ?_, h⟩
  obtain ⟨a, i, rfl, rfl, ea, h3⟩ := rfK_rep rx h1
  obtain ⟨ds, dx, xs, _, _, g1, g2, h5, h6⟩ := ins_at hr1 ea h3
  exact ⟨a, dx, xs, rfl, g1, fs_lookN g2 h5, G1, S1, _, w1, noX, k, h6.1, hr1, .cons rx .nil, xl_no, kl.mono x1, h6.2⟩
theorem de_make {j : Nat} (c : ClsAt X.K X.mg x C fs) (F : InAt X.prog X.w X.K X.mg X.base CX0 j C n g) (hr : Room k X.A) (hg : Gl X x) (ha : DA X E (e :: es) ga) (hjk : j + 1 ≤ k := by decide) (hdb : (x == ("__debug__" : Str)) = false := by decide)
    (he : starEach (e :: es) X.env = (false, eval e X.env) :: starEach es X.env := by rfl) (hpl : (backTo pos (starEach es X.env)).any (·.1) = false := by rfl) : DE X E (.Call (.Name x p) (e :: es) [] pos) (gMake C n g ga) := by
  obtain ⟨f, fd, ps, h1, h2, h3⟩ := F.ex
  refine pe_imp (pe_make h2 h1 (hr.mono hjk) hg c.mgC h3 .nil pass0 ha hdb he hpl) ?_
  rintro σ H Q ⟨G, S, ρ, w, kx, k, hr, sr, xl, kl, h⟩
  refine ⟨G, S, ρ, w, kx, _, hr, sr, xl, fun G1 S1 H1 w1 as vs x1 hr1 ra h1 => fun a dx na nd ne => ?_, h⟩
  obtain ⟨r2, x2⟩ := hr1.newS nd (.own a)
  have na2 : (upd H1 dx (.own a)) a = none := by rw [upd_ne ne.symm]; exact na
  obtain ⟨r3, x3⟩ := r2.newC na2 (.ins C dx []) (.ins C []) ⟨r2.freshS na2, dx, [], upd_same, .nil⟩
  have x23 := x2.trans x3
  have ea : (G1.al ++ [a])[w1.M.length]? = some a := by
    rw [List.getElem?_append_right (by rw [hr1.len]; exact Nat.le_refl _), hr1.len, Nat.sub_self]
    rfl
  show upF n X.K g (.ref a :: (vs ++ [])) _ _ E0
  rw [List.append_nil]
  refine ⟨_, _, _, _, noX, _, h1.1, r3, .cons (.rf ea) (ra.mono x23), xl_no, fun G4 S4 H4 w4 d v x4 hr4 rv h4 => ?_, h1.2⟩
  obtain ⟨rfl, h4⟩ := h4
  cases rv
  exact ⟨rfl, kl _ _ _ _ _ _ (x1.trans (x23.trans x4)) hr4 (.rf (x4.alGet ea)) h4⟩
end
end DL

namespace PySem
open PySem.W PySem.Calls PySem.NumText PyProof.Rows
/-! ### int(text), a text of up to 4,300 figures -/
namespace LongInt
theorem wp_from {M : Model} {A : Around} {E : Value → Shared → Prop} {s : Shared} {Q : Value → Shared → Prop} {v : Value} {text : List Nat} {n : Int} (nd : s.heap.NoDigits)
    (hr : (int_private% "readNumeral") (if (text.takeWhile (· != 0)).length ≤ 640 then 0 else 4300) 10 (text.takeWhile (· != 0)) = (int_private% "Numeral.value") n)
    (ha : ((text.takeWhile (· != 0)).length == text.length) = true) (h : Q (.int n s.toks) { s with toks := s.toks + 1 }) : wpAny M A ((int_private% "intFromText") v text 10) Q E s := by
  by_cases few : (text.takeWhile (· != 0)).length ≤ 640
  · rw [if_pos few] at hr
    exact PySem.W.KIN.wp_text few hr ha h
  · rw [if_neg few] at hr
    obtain ⟨mc, ns, non⟩ := nd
    obtain ⟨hp, g, d, tk, os⟩ := s
    have lim : ∀ {Q : Nat → Shared → Prop}, Q 4300 ⟨hp, g, d, tk, os⟩ → wpAny M A Builtin.intMaxStrDigits Q E ⟨hp, g, d, tk, os⟩ := fun {Q} q => by
      unfold Builtin.intMaxStrDigits
      refine wpAny_bind (wpAny_nsGet ns ?_)
      rw [non]
      exact wpAny_pure q
    repeat (any_goals (first
      | assumption
      | (with_reducible refine wpAny_ite_false (decide_eq_false few) ?_)
      | (with_reducible refine wpAny_ite_true (decide_eq_true ha) ?_)
      | (with_reducible refine lim ?_)
      | wp_step))
    all_goals (try rw [hr])
    all_goals (try dsimp only)
    repeat (any_goals (first
      | assumption
      | (with_reducible refine wpAny_ite_false (decide_eq_false few) ?_)
      | (with_reducible refine wpAny_ite_true (decide_eq_true ha) ?_)
      | wp_step))
structure Box (p : Prop) : Prop where
  out : p
set_option maxHeartbeats 4000000 in
theorem meets_new {x : PySem.Str} {u : Tok} {n : Int} (hz : x.length ≤ sizeLine) (hn : PySem.intText? x = some n) :
    Meets (Builtin.«int.__new__» ⟨[.type "int", .str x u], []⟩) (fun _ R s => s.heap.NoDigits ∧ R (.ok (.ret (.int n s.toks))) { s with toks := s.toks + 1 }) := by
  intro prog w A R s hs
  obtain ⟨nd, hR⟩ := hs
  have key : (int_private% "readNumeral") (if (numSeenOf x).length ≤ 640 then 0 else 4300) 10 (numSeenOf x) = (int_private% "Numeral.value") n ∧ ((numSeenOf x).length == (numTextOf x).length) = true := by
    rcases readAny x hz with ⟨m, h1, h2, h3⟩ | ⟨h1, _⟩
    · rw [hn] at h1
      injection h1 with h1
      subst h1
      exact ⟨h3, h2⟩
    · rw [hn] at h1
      cases h1
  have box := Box.mk key
  clear key hn hz
  obtain ⟨hp, g, d, tk, os⟩ := s
  have nd' := Box.mk nd
  clear nd
  have i1 := F.conv_sub_int; have i2 := F.madeHere_int; have i3 := PySem.W.KIN.str_int; have i4 := PySem.W.KIN.str_idx; have i5 := PySem.W.KIN.str_trunc
  have i6 : typeOf (.str x u) = pure (.type "str") := rfl
  repeat (any_goals (first
    | assumption
    | ((with_reducible show wpAny _ _ ((int_private% "intFromText") _ _ _) _ _ _); refine wp_from nd'.out box.out.1 box.out.2 ?_)
    | wp_step))
theorem call_long {prog : Program} {w : World} {A : Around} {E : Value → Shared → Prop} {s : Shared} {Q : Value → Shared → Prop} {x : PySem.Str} {t : Tok} {n : Int} (hn : PySem.intText? x = some n) (hz : x.length ≤ sizeLine) (nd : s.heap.NoDigits)
    (h : Q (.int n s.toks) { s with toks := s.toks + 1 }) : wpAny (model prog w) A (call (.type "int") [.str x t]) Q E s :=
  call_int_1 (meets_new hz hn) ⟨nd, typeIs_int _ _ _, h⟩
end LongInt
end PySem
namespace L2
open PySem PySem.Spec PyProof.Rows
/-- no setting of the most figures of a number stands -/
structure NoDg (K : PySem.W.Frag) : Prop where
  ok : PySem.W.nsOkIn K cStatics = true
  non : PySem.W.nsIn K cStatics "sys.int_max_str_digits" = some none
theorem NoDg.heap {K : PySem.W.Frag} {h : Heap} (d : NoDg K) (X : K.In h) : h.NoDigits := ⟨h.nsMap cStatics, .of_isNs (PySem.W.isNs_of_in X d.ok), PySem.W.nsMap_none_of_in X d.ok d.non⟩
section
variable {X : Cx}
/-- str(i) of up to 4,300 figures -/
theorem call_str_long (d : NoDg X.K) (hc : X.calm = true) : CallR X (.type "str") (fun xs H Q => ∃ i, xs = [.int i] ∧ i.natAbs < 10 ^ 4300 ∧ Q (.str (toString i)) H) := by
  intro pins s σ H xs us Q I r h
  obtain ⟨i, rfl, hz, q⟩ := h
  cases r with
  | cons r1 rs =>
    cases rs
    obtain ⟨t, rfl⟩ := r1
    exact PyProof.Rows.str_of_int_or (I.ok.hd hc) (d.heap I.kIn) (fun _ => ⟨.str _, H, I.tok _, ⟨_, rfl⟩, q⟩) (fun z => absurd hz (Nat.not_lt.mpr z))
/-- int(x) of a text of up to 4,300 figures -/
theorem call_int_long (d : NoDg X.K) : CallR X (.type "int") (fun xs H Q => ∃ a n, xs = [.str a] ∧ PySem.intText? a = some n ∧ a.length ≤ sizeLine ∧ Q (.int n) H) := by
  intro pins s σ H xs us Q I r h
  obtain ⟨a, n, rfl, hn, hl, q⟩ := h
  cases r with
  | cons r1 rs =>
    cases rs
    obtain ⟨t, rfl⟩ := r1
    exact PySem.LongInt.call_long hn hl (d.heap I.kIn) ⟨.int n, H, I.tok _, ⟨_, rfl⟩, q⟩
/-- x * i of a text -/
def rMulS : R2 := fun x y H Q => ∃ z i, x = .str z ∧ y = .int i ∧ -(2 ^ 62) ≤ i ∧ i ≤ 1 ∧ Q (.str (if i < 1 then Str.empty else z)) H
theorem op_mulS : OpR X (binaryOp .Mult) rMulS := by
  intro pins s σ H x y v u Q I rx ry h
  obtain ⟨z, i, rfl, rfl, h0, h1, q⟩ := h
  obtain ⟨t, rfl⟩ := rx
  obtain ⟨t2, rfl⟩ := ry
  by_cases hi : i < 1
  · rw [if_pos hi] at q
    exact PySem.P.mul_str_none hi (by omega) ⟨.str Str.empty, H, I.tok _, ⟨_, rfl⟩, q⟩
  · have e : i = 1 := by omega
    subst e
    rw [if_neg hi] at q
    refine PySem.P.mul_str (by decide) (fun _ h => absurd h (by simp)) (fun _ h => absurd h (by simp)) ?_
    rw [if_neg hi, if_pos (by rfl)]
    exact ⟨.str z, H, I, ⟨_, rfl⟩, q⟩
end
end L2

namespace DL
open PySem PySem.Spec PyProof.Rows L2 RZ
/-! ### texts -/
def fStrI : FB := fun ds w k => match ds with
  | [.int i] => i.natAbs < 10 ^ 4300 ∧ k (.str (toString i)) w
  | _ => False
theorem ok_strI {K : PySem.W.Frag} : CallOk K (fun xs H Q => ∃ i, xs = [.int i] ∧ i.natAbs < 10 ^ 4300 ∧ Q (.str (toString i)) H) fStrI := by
  intro G S H w xs ds k Q hr rx kl h
  unfold fStrI at h
  split at h
  · obtain ⟨v, rfl, r⟩ := one_rep rx
    cases r
    exact ⟨_, rfl, h.1, kl.here hr (.str _) h.2⟩
  · exact h.elim
def fIntS : FB := fun ds w k => match ds with
  | [.str a] => ∃ n, PySem.intText? a = some n ∧ a.length ≤ sizeLine ∧ k (.int n) w
  | _ => False
theorem ok_intS {K : PySem.W.Frag} : CallOk K (fun xs H Q => ∃ a n, xs = [.str a] ∧ PySem.intText? a = some n ∧ a.length ≤ sizeLine ∧ Q (.int n) H) fIntS := by
  intro G S H w xs ds k Q hr rx kl h
  unfold fIntS at h
  split at h
  · obtain ⟨v, rfl, r⟩ := one_rep rx
    cases r
    obtain ⟨n, h1, h2, h3⟩ := h
    exact ⟨_, n, rfl, h1, h2, kl.here hr (.int _) h3⟩
  · exact h.elim
def inSD : F2 := fun x y w k => match x, y with
  | .str s, .str z => ∃ c, s = ⟨#[c]⟩ ∧ k (.bl (decide (c ∈ z.cps.toList))) w
  | _, _ => False
theorem ok_inSD {K : PySem.W.Frag} : BinOk K (fun x y H Q => ∃ (c : Nat) (z : Str), x = .str ⟨#[c]⟩ ∧ y = .str z ∧ Q (.bl (decide (c ∈ z.cps.toList))) H) inSD := by
  intro G S H w x y d e k Q hr rx ry kl h
  cases rx with
  | str s =>
    cases ry with
    | str z =>
      obtain ⟨c, rfl, h⟩ := h
      exact ⟨c, z, rfl, rfl, kl.here hr (.bl _) h⟩
    | _ => exact h.elim
  | _ => cases ry <;> exact h.elim
def mulSD : F2 := fun x y w k => match x, y with
  | .str z, .int i => (-(2 ^ 62) ≤ i ∧ i ≤ 1) ∧ k (.str (if i < 1 then Str.empty else z)) w
  | _, _ => False
theorem ok_mulSD {K : PySem.W.Frag} : BinOk K rMulS mulSD := by
  intro G S H w x y d e k Q hr rx ry kl h
  cases rx with
  | str z =>
    cases ry with
    | int i => exact ⟨z, i, rfl, rfl, h.1.1, h.1.2, kl.here hr (.str _) h.2⟩
    | _ => exact h.elim
  | _ => cases ry <;> exact h.elim
def slS : D → Option Int → Option Int → Wd → KD → Prop := fun x lo hi w k => match x with
  | .str z => z.length ≤ sizeLine ∧ k (.str (L2.cutS z lo hi)) w
  | _ => False
theorem ok_slS {K : PySem.W.Frag} : SlOk K L2.rSlS slS := by
  intro G S H w x d lo hi k Q hr rx kl h
  cases rx with
  | str z => exact ⟨z, rfl, h.1, kl.here hr (.str _) h.2⟩
  | _ => exact h.elim
section
variable {X : Cx} {E : XK} {a b e : Expr} {es : List Expr} {ga gb : GE} {gA : GA} {p p2 pos : Pos} {lo hi : Option Expr} {gl gh : GO} {tg : Expr}
theorem de_strI (B : Blt X.mg) (dg : NoDg X.K) (hc : X.calm = true) (hg : Gl X "str") (ha : DA X E (e :: es) gA) (he : starEach (e :: es) X.env = (false, eval e X.env) :: starEach es X.env := by rfl) (hpl : (backTo pos (starEach es X.env)).any (·.1) = false := by rfl) : DE X E (.Call (.Name "str" p) (e :: es) [] pos) (gCB fStrI gA) := de_ct (call_str_long dg hc) ok_strI hg B.str_ (by decide +kernel) ha (he := he) (hpl := hpl)
theorem de_intS (B : Blt X.mg) (dg : NoDg X.K) (hg : Gl X "int") (ha : DA X E (e :: es) gA) (he : starEach (e :: es) X.env = (false, eval e X.env) :: starEach es X.env := by rfl) (hpl : (backTo pos (starEach es X.env)).any (·.1) = false := by rfl) : DE X E (.Call (.Name "int" p) (e :: es) [] pos) (gCB fIntS gA) := de_ct (call_int_long dg) ok_intS hg B.int_ (by decide +kernel) ha (he := he) (hpl := hpl)
theorem de_inS (ha : DE X E a ga) (hb : DE X E b gb) (hm : behindInMarks .In b = false := by rfl) : DE X E (.Compare a [.In] [b] pos) (gBin inSD ga gb) := de_cmp L2.op_in_sign ok_inSD ha hb hm
theorem de_mulS (ha : DE X E a ga) (hb : DE X E b gb) : DE X E (.BinOp a .Mult b pos) (gBin mulSD ga gb) := de_bin op_mulS ok_mulSD ha hb
theorem de_slS (he : DE X E a ga) (hl : DO X E lo gl) (hu : DO X E hi gh) : DE X E (.Subscript a (.Slice lo hi none p2) pos) (gSl slS ga gl gh) := de_slice L2.sl_str ok_slS he hl hu
/-- a text is walked, sign by sign -/
def giStr (ge : GE) : GI := fun ρ w kx k => ge ρ w kx fun d w1 => match d with
  | .str x => k (x.cps.toList.map fun c => D.str ⟨#[c]⟩) (fun _ => True) w1
  | _ => False
theorem iter_str {K : PySem.W.Frag} {G : Gh} {S : Hp} {x : Str} : IterOk K (Its x) (x.cps.toList.map fun c => D.str ⟨#[c]⟩) (fun _ => True) G S := by
  intro i G1 S1 w1 H1 x1 hr1 _
  refine ⟨fun d hd => ?_, fun hl => ?_⟩
  · rw [List.getElem?_map, Array.getElem?_toList] at hd
    cases q : x.cps[i]? with
    | none => rw [q] at hd; cases hd
    | some c =>
      rw [q] at hd
      have hd : D.str ⟨#[c]⟩ = d := by simpa using hd
      subst hd
      refine ⟨(Array.getElem?_eq_some_iff.mp q).1, fun y H2 hy => ?_⟩
      obtain ⟨rfl, c2, hc, rfl⟩ := hy
      rw [q] at hc
      cases hc
      exact ⟨G1, S1, Ext.refl _ _, hr1, .str _⟩
  · rw [List.length_map, Array.length_toList] at hl
    exact Nat.le_of_eq hl
theorem di_str {l : Expr} {ge : GE} (hl : DE X E l ge) : DI X E tg l (giStr ge) := pi_imp (pi_str hl) (by
  rintro σ H R ⟨G, S, ρ, w, kx, k, hr, sr, xl, kl, h⟩
  refine ⟨G, S, ρ, w, kx, _, hr, sr, xl, fun G1 S1 H1 w1 d v x1 hr1 rp h1 => ?_, h⟩
  cases rp with
  | str x => exact ⟨x, rfl, kl _ _ _ _ _ _ _ x1 hr1 iter_str h1⟩
  | _ => exact h1.elim)
end
end DL

namespace DL
open PySem PySem.Spec PyProof.Rows L2 RZ
/-! ### exceptions of own classes, without fields -/
/-- what the written part says of such a class -/
structure XCls (K : PySem.W.Frag) (mg : Str → Option Value) (x : Str) (C : Addr) : Prop where
  mgC : mg x = some (.ref C)
  kp : PySem.W.keepIn K (.ref C) = true
  exc : PySem.W.excIn K C [.type "ValueError", .type "Exception", .type "BaseException", .type "object"] "ValueError.__new__" = true
  sub : PySem.W.subIn K (.ref C) (.type "BaseException") = some true
  ty : PySem.W.typeIn K (.ref C) = some (.type "type")
structure Tk (X : Cx) (E : XK) : Prop where
  tk : Takes X (fun cls d _ H => E cls d H)
theorem Tk.pass {X : Cx} {E : XK} (t : Tk X E) : Passes (L2.CX X.prog X.w) X E := fun _ _ _ _ e s' I c => t.tk e s' (XE.of_call I (fun _ _ _ h => h) c)
def gRaise (C : Addr) : GS := fun F _ w => F.ex (.own C) w
theorem ds_raise {X : Cx} {E : XK} {x m : Str} {C : Addr} {j : Nat} {p p2 pos pos2 : Pos} (hc : X.calm = true) (tk : Tk X E) (c : XCls X.K X.mg x C) (hg : Gl X x) (hdb : (x == ("__debug__" : Str)) = false := by decide) :
    DS X E (.Raise (some (.Call (.Name x p) [.Constant (.str m) j p2] [] pos)) none pos2) (gRaise C) :=
  ps_imp (ps_raise hc tk.tk (pmk_own PySem.F.excBase_ValueError c.exc c.mgC c.kp (raises_own c.sub c.ty) hg hdb)) (by
    rintro D σ H ⟨G, S, ρ, w, F, hr, sr, el, h⟩
    exact el.ex _ _ _ _ (.own C) (.ref C) none (Ext.refl _ _) hr ⟨rfl, rfl⟩ h)
section
variable {P : Program} {w : World} {K : PySem.W.Frag} {mg : Str → Option Value} {base : Heap}
/-- a def that may raise -/
theorem fun_fnX {x q : Str} {st : Stmt} {f : Addr} {fd : FuncData} {N ps : List Str} {k : Nat} {g : GS} (F : Fun K x q st f fd) (S : FnScope N ps (defScope st))
    (hbody : ∀ (f : Addr) (cdv : Value) (A : Around) (outer : List Env) (s : Shared) (H : Hp) (E : XK), Room k (A.deeper (envOfC q (defScope st) s.heap.objs.size f cdv)) →
      Tk (cxOf (L2.CX P w) P w K mg base N q (defScope st) f cdv A outer s H E) E → DSs (cxOf (L2.CX P w) P w K mg base N q (defScope st) f cdv A outer s H E) E (defBody st) g) : FnOk P w K mg base (L2.CX P w) (k + 1) f fd ps (upF ps.length K (semX N.length g)) := by
  refine F.okX S (fun vs H Q E h => ?_) (fun cdv A outer s H vs Q E hr h => ?_)
  · obtain ⟨G, S, ds, w, kx, k, h1, h2, h3, _⟩ := h
    rw [h3.length, h1]
  · obtain ⟨G, S1, ds, w1, kx, k1, h1, h2, h3, h4, h5, h6⟩ := h
    refine ⟨_, hbody f cdv A outer s H E hr ⟨takes_of rfl rfl rfl rfl⟩, G, S1, rho N.length ds, w1, { nx := fun _ w' => k1 .non w', rt := k1, ex := kx }, h2, sr_start h3, ⟨fun G' S' H' w' ρ' σ' x1 hr1 _ hk => h5 _ _ _ _ _ _ x1 hr1 .non hk, h5, ?_, ?_, h4⟩, h6⟩
    · intro _ _ _ _ _ _ _ _ _ z
      exact z.elim
    · intro _ _ _ _ _ _ _ _ _ z
      exact z.elim
theorem DefAt.fnX {x : Str} {st : Stmt} {N ps : List Str} {k : Nat} {g : GS} (T : DefAt K mg x st ps) (S : FnScope N ps (defScope st))
    (hbody : ∀ (f : Addr) (cdv : Value) (A : Around) (outer : List Env) (s : Shared) (H : Hp) (E : XK), Room k (A.deeper (envOfC x (defScope st) s.heap.objs.size f cdv)) →
      Tk (cxOf (L2.CX P w) P w K mg base N x (defScope st) f cdv A outer s H E) E → DSs (cxOf (L2.CX P w) P w K mg base N x (defScope st) f cdv A outer s H E) E (defBody st) g) : FnAt P w K mg base (L2.CX P w) (k + 1) x ps.length (semX N.length g) := by
  obtain ⟨f, fd, F, hm, hb⟩ := T.ex
  exact ⟨f, fd, ps, fun_fnX F S hbody, hm, F.kp, hb⟩
theorem MethAt.fnX {C : Addr} {m q : Str} {st : Stmt} {N ps : List Str} {k : Nat} {g : GS} (T : MethAt K C m q st ps) (S : FnScope N ps (defScope st))
    (hbody : ∀ (f : Addr) (cdv : Value) (A : Around) (outer : List Env) (s : Shared) (H : Hp) (E : XK), Room k (A.deeper (envOfC q (defScope st) s.heap.objs.size f cdv)) →
      Tk (cxOf (L2.CX P w) P w K mg base N q (defScope st) f cdv A outer s H E) E → DSs (cxOf (L2.CX P w) P w K mg base N q (defScope st) f cdv A outer s H E) E (defBody st) g) : MtAt P w K mg base (L2.CX P w) (k + 1) C m ps.length (semX N.length g) := by
  obtain ⟨f, fd, F, hm, hb⟩ := T.ex
  exact ⟨f, fd, ps, fun_fnX F S hbody, hm, hb⟩
end
/-- a call that may raise, in a def that may raise -/
def gCallX (n : Nat) (g : GF) (ga : GA) : GE := fun ρ w kx k => ga ρ w kx fun ds w1 => ds.length = n ∧ g ds w1 kx k
def gMethX (C : Addr) (n : Nat) (sp : GF) (m : Str) (go : GE) (ga : GA) : GE := fun ρ w kx k => go ρ w kx fun x w1 => rfK x fun i => insK C i w1 fun fs => fs.lookup m = none ∧ ga ρ w1 kx fun xs w2 => (x :: xs).length = n ∧ sp (x :: xs) w2 kx k
section
variable {X : Cx} {E : XK} {k n : Nat} {g : GF} {x m : Str} {e o : Expr} {es : List Expr} {ga : GA} {go : GE} {p pos apos : Pos} {C : Addr} {fs : List Str}
theorem de_callX {j : Nat} (F : FnAt X.prog X.w X.K X.mg X.base (L2.CX X.prog X.w) j x n g) (tk : Tk X E) (hr : Room k X.A) (hg : Gl X x) (ha : DA X E (e :: es) ga) (hjk : j ≤ k := by decide) (hdb : (x == ("__debug__" : Str)) = false := by decide) (he : starEach (e :: es) X.env = (false, eval e X.env) :: starEach es X.env := by rfl) (hpl : (backTo pos (starEach es X.env)).any (·.1) = false := by rfl) :
    DE X E (.Call (.Name x p) (e :: es) [] pos) (gCallX n g ga) := by
  obtain ⟨f, fd, ps, h1, h2, h3, h4⟩ := F.ex
  refine pe_imp (pe_call h1 (hr.mono hjk) hg h2 h3 h4 .nil tk.pass ha hdb he hpl) ?_
  rintro σ H Q ⟨G, S, ρ, w, kx, k, hr, sr, xl, kl, h⟩
  refine ⟨G, S, ρ, w, kx, _, hr, sr, xl, fun G1 S1 H1 w1 ds vs x1 hr1 rp hq => ?_, h⟩
  show upF n X.K g (vs ++ []) H1 Q E
  rw [List.append_nil]
  exact ⟨G1, S1, ds, w1, kx, k, hq.1, hr1, rp, xl.mono x1, kl.mono x1, hq.2⟩
theorem de_methX {j : Nat} {pl : Sem Bool} (c : ClsAt X.K X.mg x C fs) (F : MtAt X.prog X.w X.K X.mg X.base (L2.CX X.prog X.w) j C m n g) (tk : Tk X E) (hr : Room k X.A) (ho : DE X E o go) (ha : DA X E (e :: es) ga) (hjk : j ≤ k)
    (hst : starEach (e :: es) X.env = (false, eval e X.env) :: starEach es X.env) (hpl : (backTo pos (starEach es X.env)).any (·.1) = false)
    (ht : eval (.Call (.Attribute o m apos) (e :: es) [] pos) X.env = (do
      let ov ← eval o X.env
      standAt apos.atName
      let (f, first) ← holding [ov] (getMethod ov m pl)
      callWith pos f first (backTo pos (starEach (e :: es) X.env)) (backToKw pos (keywordEach [] X.env)))) : DE X E (.Call (.Attribute o m apos) (e :: es) [] pos) (gMethX C n g m go ga) := by
  obtain ⟨f, fd, ps, h1, h2, h3⟩ := F.ex
  refine pe_imp (pe_meth (pl := pl) ho c.cl h2 h1 (hr.mono hjk) h3 .nil tk.pass ha hst hpl ht) ?_
  rintro σ H Q ⟨G, S, ρ, w, kx, k, hr, sr, xl, kl, h⟩
  refine ⟨G, S, ρ, w, kx, _, hr, sr, xl, fun G1 S1 H1 w1 dx vx x1 hr1 rx h1 => ?_, h⟩
  obtain ⟨a, i, rfl, rfl, ea, h3⟩ := rfK_rep rx h1
  obtain ⟨ds, dx, xs, _, _, g1, g2, h5, h6⟩ := ins_at hr1 ea h3
  refine ⟨a, dx, xs, rfl, g1, fs_lookN g2 h5, G1, S1, ρ, w1, kx, _, hr1, sr.mono x1, xl.mono x1, fun G2 S2 H2 w2 as vs x2 hr2 ra h7 => ?_, h6⟩
  show upF n X.K g (.ref a :: (vs ++ [])) H2 Q E
  rw [List.append_nil]
  exact ⟨G2, S2, _, w2, kx, k, h7.1, hr2, .cons (rx.mono x2) ra, xl.mono (x1.trans x2), kl.mono (x1.trans x2), h7.2⟩
end
end DL

namespace DL
open PySem PySem.Spec PyProof.Rows L2 RZ
/-! ### try: .. except x as n: m = n -/
/-- statements of a try's body: what is raised is wished for at the slots of its beginning -/
def DEW (X : Cx) (W : WX) (e : Expr) (g : GE) : Prop := PE X e (fun σ H Q => upE X.K (WE W σ) g σ H Q)
def DSW (X : Cx) (W : WX) (st : Stmt) (g : GS) : Prop := PS X st (fun D σ H => upS X.K (WE W σ) g D σ H)
def DSsW (X : Cx) (W : WX) (st : List Stmt) (g : GS) : Prop := PSs X st (fun D σ H => upS X.K (WE W σ) g D σ H)
section
variable {X : Cx} {W : WX} {k n : Nat} {g : GF} {x m : Str} {e o : Expr} {es : List Expr} {ga : GA} {go ge : GE} {p pos apos : Pos} {C : Addr} {fs : List Str}
theorem daw (h : ∀ E, DA X E es ga) : PA X es (fun σ H Q => upA X.K (WE W σ) ga σ H Q) := ⟨fun pos pins s σ H Q I q => (h (WE W σ)).run pos pins s σ H Q I q⟩
theorem dew (h : ∀ E, DE X E e ge) : DEW X W e ge := ⟨fun pins s σ H Q I q => (h (WE W σ)).run pins s σ H Q I q⟩
theorem dtw {c : Expr} {gc : GT} (h : ∀ E, DT X E c gc) : PT X c (fun σ H Q => upT X.K (WE W σ) gc σ H Q) := ⟨fun pins s σ H Q I q => (h (WE W σ)).run pins s σ H Q I q⟩
theorem dew_callX {j : Nat} (F : FnAt X.prog X.w X.K X.mg X.base (L2.CX X.prog X.w) j x n g) (tk : Takes X W) (hr : Room k X.A) (hg : Gl X x) (ha : ∀ E, DA X E (e :: es) ga) (hjk : j ≤ k := by decide) (hdb : (x == ("__debug__" : Str)) = false := by decide) (he : starEach (e :: es) X.env = (false, eval e X.env) :: starEach es X.env := by rfl) (hpl : (backTo pos (starEach es X.env)).any (·.1) = false := by rfl) :
    DEW X W (.Call (.Name x p) (e :: es) [] pos) (gCallX n g ga) := by
  obtain ⟨f, fd, ps, h1, h2, h3, h4⟩ := F.ex
  refine pe_imp (pe_callS h1 (hr.mono hjk) hg h2 h3 h4 (fun σ => passAt tk σ) (daw (W := W) ha) hdb he hpl) ?_
  rintro σ H Q ⟨G, S, ρ, w, kx, k, hr, sr, xl, kl, h⟩
  refine ⟨G, S, ρ, w, kx, _, hr, sr, xl, fun G1 S1 H1 w1 ds vs x1 hr1 rp hq => ?_, h⟩
  exact ⟨G1, S1, ds, w1, kx, k, hq.1, hr1, rp, xl.mono x1, kl.mono x1, hq.2⟩
/-- o.m(e, ..) in a try's body -/
def tMethS (C : Addr) (m : Str) (sp : Sp) (E : L2.St → XK) (ta : TE) (t : TA) : TE := fun σ H Q => ta σ H fun x H1 => ∃ a dx fs, x = .ref a ∧ H1 a = some (.ins C dx fs) ∧ fs.lookup m = none ∧ t σ H1 fun vs H2 => sp (x :: vs) H2 Q (E σ)
theorem pe_methW {X : Cx} {CX : CXT} {k : Nat} {f C : Addr} {fd : FuncData} {ps : List Str} {sp : Sp} {E : L2.St → XK} {m : Str} {pos apos : Pos} {e o : Expr} {es : List Expr} {ta : TE} {t : TA} {pl : Sem Bool} (he : PE X o ta) (c : Cls X.K C) (hm : Meth X.K C m f) (F : FnOk X.prog X.w X.K X.mg X.base CX k f fd ps sp) (hr : Room k X.A) (hb : Binds X.K fd ps []) (hx : ∀ σ, PassesAt CX X σ (E σ)) (ha : PA X (e :: es) t)
    (hst : starEach (e :: es) X.env = (false, eval e X.env) :: starEach es X.env := by rfl) (hpl : (backTo pos (starEach es X.env)).any (·.1) = false := by rfl)
    (ht : eval (.Call (.Attribute o m apos) (e :: es) [] pos) X.env = (do
      let ov ← eval o X.env
      standAt apos.atName
      let (f, first) ← holding [ov] (getMethod ov m pl)
      callWith pos f first (backTo pos (starEach (e :: es) X.env)) (backToKw pos (keywordEach [] X.env))) := by rfl) :
    PE X (.Call (.Attribute o m apos) (e :: es) [] pos) (tMethS C m sp E ta t) := by
  refine ⟨fun pins s σ H Q I h => ?_⟩
  refine PySem.W.methodCall_KW (pl := pl) (thn (he.run pins s σ H _ I h) fun u s1 ⟨x, H1, I1, rx, a, dx, fs, ex, ea, l, q⟩ => ?_) ht
  subst ex
  obtain rfl : u = Value.ref a := rx
  refine getmeth_ok I1 ea c hm l ?_
  refine PySem.W.callWith_K (first := [.ref a]) (h₀ := X.base) I.ok.mod.kin hm.kp (thn (ha.run pos pins s1 σ H1 _ I1 q) fun us s2 ⟨vs, H2, I2, r, q2⟩ => ⟨I2.kIn, ?_⟩) hst hpl
  exact run_fnS (us := .ref a :: us) (vs := .ref a :: vs) F hr hb (hx σ) I2 (.cons rfl r) q2
theorem dew_methX {j : Nat} {pl : Sem Bool} {fs : List Str} (c : ClsAt X.K X.mg x C fs) (F : MtAt X.prog X.w X.K X.mg X.base (L2.CX X.prog X.w) j C m n g) (tk : Takes X W) (hr : Room k X.A) (ho : ∀ E, DE X E o go) (ha : ∀ E, DA X E (e :: es) ga) (hjk : j ≤ k)
    (hst : starEach (e :: es) X.env = (false, eval e X.env) :: starEach es X.env) (hpl : (backTo pos (starEach es X.env)).any (·.1) = false)
    (ht : eval (.Call (.Attribute o m apos) (e :: es) [] pos) X.env = (do
      let ov ← eval o X.env
      standAt apos.atName
      let (f, first) ← holding [ov] (getMethod ov m pl)
      callWith pos f first (backTo pos (starEach (e :: es) X.env)) (backToKw pos (keywordEach [] X.env)))) : DEW X W (.Call (.Attribute o m apos) (e :: es) [] pos) (gMethX C n g m go ga) := by
  obtain ⟨f, fd, ps, h1, h2, h3⟩ := F.ex
  refine pe_imp (pe_methW (pl := pl) (dew (W := W) ho) c.cl h2 h1 (hr.mono hjk) h3 (fun σ => passAt tk σ) (daw (W := W) ha) hst hpl ht) ?_
  rintro σ H Q ⟨G, S, ρ, w, kx, k, hr, sr, xl, kl, h⟩
  refine ⟨G, S, ρ, w, kx, _, hr, sr, xl, fun G1 S1 H1 w1 dx vx x1 hr1 rx h1 => ?_, h⟩
  obtain ⟨a, i, rfl, rfl, ea, h3⟩ := rfK_rep rx h1
  obtain ⟨ds, dx, xs, _, _, g1, g2, h5, h6⟩ := ins_at hr1 ea h3
  refine ⟨a, dx, xs, rfl, g1, fs_lookN g2 h5, G1, S1, ρ, w1, kx, _, hr1, sr.mono x1, xl.mono x1, fun G2 S2 H2 w2 as vs x2 hr2 ra h7 => ?_, h6⟩
  exact ⟨G2, S2, _, w2, kx, k, h7.1, hr2, .cons (rx.mono x2) ra, xl.mono (x1.trans x2), kl.mono (x1.trans x2), h7.2⟩
theorem dsw_expr (he : DEW X W e ge) (hs : swapsWith e none pos.line X.env = pure false := by rfl) : DSW X W (.Expr e pos) (gDrop ge) := ps_imp (ps_expr he hs) (by
  rintro D σ H ⟨G, S, ρ, w, F, hr, sr, el, h⟩
  exact ⟨G, S, ρ, w, F.ex, _, hr, sr, el.ex, fun G1 S1 H1 w1 d v x1 hr1 _ h1 => el.nx _ _ _ _ _ _ x1 hr1 (sr.mono x1) h1, h⟩)
theorem dsw_set {i : Nat} {y : Str} {pos' : Pos} (hN : X.N.Nodup) (hi : X.N[i]? = some y) (hx : Loc X.env.scope y) (he : DEW X W e ge) (hs : swapsWith e (some (.Name y pos')) pos.line X.env = pure false := by rfl) (hf : X.fn y = true ∨ X.env.scope.names.lookup y = some .local := by first | exact .inl rfl | exact .inr rfl | assumption) :
    DSW X W (.Assign [.Name y pos'] e pos) (gSet i ge) := ps_imp (ps_set hN hi hx he hs hf) (fun D σ H h => set_up D σ H h)
theorem dsw_if {c : Expr} {a b : List Stmt} {tc : GT} {t u : GS} (hc : ∀ E, DT X E c tc) (ha : DSsW X W a t) (hb : DSsW X W b u) : DSW X W (.If c a b pos) (gIfS tc t u) := ps_imp (ps_if (dtw (W := W) hc) ha hb) (by
  rintro D σ H ⟨G, S, ρ, w, F, hr, sr, el, h⟩
  refine ⟨G, S, ρ, w, F.ex, _, hr, sr, el.ex, fun G1 S1 H1 w1 c x1 hr1 h1 => ?_, h⟩
  cases c with
  | true => exact iteT ⟨G1, S1, ρ, w1, F, hr1, sr.mono x1, el.mono x1, by simpa using h1⟩
  | false => exact iteF ⟨G1, S1, ρ, w1, F, hr1, sr.mono x1, el.mono x1, by simpa using h1⟩)
theorem dssw_one {st : Stmt} {t : GS} (h : DSW X W st t) : DSsW X W [st] t := pss_one h
end
/-- the body; an exception of the classes P is put into slot j, slot i is left empty -/
def gTry (i j : Nat) (P : Addr → Prop) (body : GS) : GS := fun F ρ w => i < ρ.length ∧ body { F with ex := fun e w' => match e with
  | .own C => P C ∧ F.nx ((ρ.set j (some (.rf w'.M.length))).set i none) ⟨w'.M ++ [.exc C], w'.n⟩
  | _ => False } ρ w
theorem sr_note {K : PySem.W.Frag} {G : Gh} {S : Hp} {σ : L2.St} {ρ : Rho} {i j : Nat} {v u : V} {d : D} (h : SR K G S σ ρ) (r : Rep K G S v d) (hij : i ≠ j) : SR K G S (((σ.set i (some u)).set j (some v)).set i none) ((ρ.set j (some d)).set i none) := by
  have h1 := h.set r j
  refine ⟨by simp [h.1], fun q e hq => ?_⟩
  by_cases hqi : q = i
  · subst hqi
    by_cases hl : q < ρ.length
    · rw [List.getElem?_set_self (by simpa using hl)] at hq
      cases hq
    · rw [List.getElem?_eq_none (by simpa using hl)] at hq
      cases hq
  · rw [List.getElem?_set_ne (Ne.symm hqi)] at hq
    obtain ⟨z, z1, z2⟩ := h1.2 q e hq
    refine ⟨z, ?_, z2⟩
    rw [List.getElem?_set_ne (Ne.symm hqi), List.set_comm _ _ hij, List.getElem?_set_ne (Ne.symm hqi)]
    exact z1
theorem ds_try {X : Cx} {E : XK} {x n m : Str} {C : Addr} {i j : Nat} {P : Addr → Prop} {body : List Stmt} {g : GS} {np mp np2 apos pos pos' : Pos} (hx : X.ex = []) (stk : X.stack = X.env :: X.outer) (frm : X.env.frame = some X.env.locals) (nodup : X.N.Nodup) (hi : X.N[i]? = some n) (lcl : X.env.kindOf n = some .local)
    (hj : X.N[j]? = some m) (lclm : X.env.kindOf m = some .local) (hij : i ≠ j) (nm : Names X x (.ref C)) (tk : Takes X (fun _ _ _ _ => False)) (exm : ∀ B, P B → PySem.W.exmOne X.K (.ref B) (.ref C) = some true)
    (hb : ∀ (W : WX) (pn : List (Addr × Obj)) (xe : Value → Shared → Prop), Takes (X.tr pn xe) W → DSsW (X.tr pn xe) W body g)
    (hd : (n == ("__debug__" : Str)) = false := by decide) (hcd : (n == ("__classdict__" : Str)) = false := by decide) (hsw : swapsWith (.Name n np2) (some (.Name m mp)) apos.line X.env = pure false := by rfl) :
    DS X E (.Try body [.ExceptHandler (some (.Name x np)) (some n) [.Assign [.Name m mp] (.Name n np2) apos] pos'] [] [] pos) (gTry i j P g) := by
  have vis : Vis X.env.scope n := .inl lcl
  refine ps_imp (ps_try_note (i := i) (c := .ref C) (Wout := fun _ _ _ _ => False) (tb := fun W D σ H => upS X.K (WE W σ) g D σ H)
    (ts := fun _ _ _ D σ H => ∃ v, σ[i]? = some (some v) ∧ D.nx (σ.set j (some v)) H) hx stk frm nodup hi lcl nm tk (fun W pn xe t _ => hb W pn xe t) (fun a oe cls d pn _ _ => ?_)) ?_
  · refine pss_one (ps_imp (ps_set (X := X.suite a ((a, oe) :: pn)) nodup hj (.inl lclm) (pe_var (X := X.suite a ((a, oe) :: pn)) hi vis hd hcd) hsw (.inr lclm)) ?_)
    rintro D σ H ⟨v, h1, h2⟩
    exact ⟨v, h1, h2⟩
  · rintro D σ H ⟨G, S, ρ, w, F, hr, sr, el, hlen, h⟩
    refine ⟨G, S, ρ, w, { F with ex := fun e w' => match e with
      | .own C => P C ∧ F.nx ((ρ.set j (some (.rf w'.M.length))).set i none) ⟨w'.M ++ [.exc C], w'.n⟩
      | _ => False }, hr, sr, ⟨el.nx, el.rt, el.bk, el.ct, ?_⟩, h⟩
    intro G1 S1 H1 w1 ex cls d x1 hr1 rp hk
    cases ex with
    | flds B fs => exact hk.elim
    | own B =>
      obtain ⟨rfl, rfl⟩ := rp
      obtain ⟨hP, hn⟩ := hk
      refine ⟨true, exm B hP, fun _ a na => ⟨.ref a, ?_, fun na2 => ?_⟩, fun z => nomatch z⟩
      · have : i < σ.length := by
          have := sr.1
          omega
        rw [List.getElem?_set_self this]
      · obtain ⟨hr2, x2⟩ := hr1.newC na (ExcAt a (.ref B) none) (.exc B) ⟨hr1.freshS na, upd_same⟩
        refine el.nx _ _ _ _ _ _ (x1.trans x2) hr2 (sr_note (sr.mono (x1.trans x2)) (.rf ?_) hij) hn
        show (G1.al ++ [a])[w1.M.length]? = some a
        rw [List.getElem?_append_right (by rw [hr1.len]; exact Nat.le_refl _), hr1.len, Nat.sub_self]
        rfl
end DL

namespace DL
open PySem PySem.Spec PyProof.Rows L2 RZ
/-! ### the program's refusals -/
structure XF where
  (bf taken noname toomuch norate noneleft endless badrow royal : Addr)
  nd : [bf, taken, noname, toomuch, norate, noneleft].Nodup
  ne : ∀ a ∈ [bf, taken, noname, toomuch, norate, noneleft], a ≠ endless ∧ a ≠ badrow ∧ a ≠ royal
  nr : endless ≠ royal ∧ badrow ≠ royal
def XF.all (X : XF) : List (Str × Addr) := [("BadFraction", X.bf), ("Taken", X.taken), ("NoName", X.noname), ("TooMuch", X.toomuch), ("NoRate", X.norate), ("NoneLeft", X.noneleft), ("Endless", X.endless), ("BadRow", X.badrow), ("RoyalError", X.royal)]
def XF.addrs (X : XF) : List Addr := [X.bf, X.taken, X.noname, X.toomuch, X.norate, X.noneleft, X.endless, X.badrow, X.royal]
def XF.raised (X : XF) : List Addr := [X.bf, X.taken, X.noname, X.toomuch, X.norate, X.noneleft]
def isEV (X : XF) (D : Addr) : V → Option Bool
  | .ref C => if C ∈ X.addrs then some (decide (D = C ∨ C = X.royal)) else none
  | .ty n => if n = "ValueError" then some true else none
  | _ => none
def isEVs (X : XF) (A : Addr) : List D → Option Bool
  | [] => some false
  | .ob v :: r => match isEV X A v, isEVs X A r with
    | some a, some b => some (a || b)
    | _, _ => none
  | _ :: _ => none
def excK (X : XF) (i : Nat) (w : Wd) (f : Addr → Prop) : Prop := match w.M[i]? with
  | some (.exc A) => A ∈ X.raised ∧ f A
  | _ => False
def optK (o : Option Bool) (f : Bool → Prop) : Prop := match o with
  | some b => f b
  | none => False
def fIsE (X : XF) : FB := fun ds w k => match ds with
  | [.rf i, .ob v] => excK X i w fun A => optK (isEV X A v) fun b => k (.bl b) w
  | _ => False
def fIsET (X : XF) : FB := fun ds w k => match ds with
  | [.rf i, .tup cs] => excK X i w fun A => optK (isEVs X A cs) fun b => k (.bl b) w
  | _ => False
structure XFK (K : PySem.W.Frag) (mg : Str → Option Value) (X : XF) : Prop where
  at_ : ∀ p ∈ X.all, mg p.1 = some (.ref p.2) ∧ PySem.W.keepIn K (.ref p.2) = true ∧ PySem.W.hasDictIn K p.2 = true ∧ PySem.W.typeIn K (.ref p.2) = some (.type "type") ∧ PySem.W.subIn K (.ref p.2) (.type "BaseException") = some true
  exc : ∀ A ∈ X.raised, PySem.W.excIn K A [.type "ValueError", .type "Exception", .type "BaseException", .type "object"] "ValueError.__new__" = true ∧ ExcC K A ∧ PySem.W.subIn K (.ref A) (.type "ValueError") = some true
  sub : ∀ A ∈ X.raised, ∀ C ∈ X.addrs, PySem.W.subIn K (.ref A) (.ref C) = some (decide (A = C ∨ C = X.royal))
section
variable {K : PySem.W.Frag} {mg : Str → Option Value} {X : XF}
theorem XFK.addr (h : XFK K mg X) {C : Addr} (hC : C ∈ X.addrs) : ∃ x, mg x = some (.ref C) ∧ PySem.W.keepIn K (.ref C) = true ∧ PySem.W.hasDictIn K C = true ∧ PySem.W.typeIn K (.ref C) = some (.type "type") ∧ PySem.W.subIn K (.ref C) (.type "BaseException") = some true := by
  have : ∃ p ∈ X.all, p.2 = C := by
    have e : X.addrs = X.all.map (·.2) := rfl
    rw [e] at hC
    exact List.mem_map.mp hC
  obtain ⟨p, hp, rfl⟩ := this
  exact ⟨p.1, h.at_ p hp⟩
theorem raised_addr {A : Addr} (h : A ∈ X.raised) : A ∈ X.addrs := by
  simp only [XF.raised, XF.addrs, List.mem_cons, List.not_mem_nil, or_false] at h ⊢
  rcases h with h | h | h | h | h | h <;> simp [h]
theorem XFK.one (h : XFK K mg X) {A : Addr} (hA : A ∈ X.raised) {v : V} {b : Bool} (e : isEV X A v = some b) : ∃ u, ClsV v u ∧ PySem.W.kitOne K (.ref A) u = some b := by
  unfold isEV at e
  split at e
  · rename_i C
    split at e
    · rename_i hC
      refine ⟨.ref C, .own C, ?_⟩
      obtain ⟨_, _, _, hd, ht, _⟩ := h.addr hC
      obtain ⟨cd, hc, _⟩ := PySem.W.any_some hd
      have hs := h.sub A hA C hC
      unfold PySem.W.kitOne PySem.W.kitCls
      by_cases hAC : A = C
      · subst hAC
        simp only [beq_self_eq_true, if_true]
        rw [← e]
        simp
      · rw [if_neg (by simpa using hAC)]
        have e2 : ((PySem.W.clsIn K C).isSome && PySem.W.typeIn K (.ref C) == some (.type "type")) = true := by rw [hc, ht] <;> rfl
        simp only [e2, if_true]
        rw [hs, e]
    · cases e
  · rename_i n
    split at e
    · rename_i hn
      subst hn
      cases e
      refine ⟨.type "ValueError", .ty _, ?_⟩
      unfold PySem.W.kitOne PySem.W.kitCls
      rw [if_neg (by simp)]
      have e2 : PySem.W.kitMeta "ValueError" = true := by decide +kernel
      simp only [e2, if_true]
      exact (h.exc A hA).2.2
    · cases e
  · cases e
theorem XFK.any (h : XFK K mg X) {G : Gh} {S : Hp} {A : Addr} (hA : A ∈ X.raised) : ∀ {vs : List V} {ds : List D} {b : Bool}, RepAll K G S vs ds → isEVs X A ds = some b → ∃ us, Paired ClsV vs us ∧ PySem.W.kitAny K (.ref A) us = some b := by
  intro vs ds b r e
  induction ds generalizing vs b with
  | nil =>
    cases r
    cases e
    exact ⟨[], .nil, rfl⟩
  | cons d ds ih =>
    cases r with
    | cons h1 r =>
      cases d with
      | ob v =>
        simp only [isEVs] at e
        cases e1 : isEV X A v with
        | none => rw [e1] at e; cases e
        | some a1 =>
          cases e2 : isEVs X A ds with
          | none => rw [e1, e2] at e; cases e
          | some b1 =>
            rw [e1, e2] at e
            cases e
            cases h1
            obtain ⟨u, c, hu⟩ := h.one hA e1
            obtain ⟨us, p, hus⟩ := ih r e2
            refine ⟨u :: us, .cons c p, ?_⟩
            unfold PySem.W.kitAny
            rw [hu]
            cases a1
            · exact hus
            · rfl
      | _ => simp [isEVs] at e
theorem exc_at {K : PySem.W.Frag} {G : Gh} {S H : Hp} {w : Wd} {a : Addr} {i : Nat} {f : Addr → Prop} (hr : HR K G S w H) (e : G.al[i]? = some a) (h : excK X i w f) : ∃ A, A ∈ X.raised ∧ w.M[i]? = some (.exc A) ∧ S a = none ∧ H a = some (ExcAt a (.ref A) none) ∧ f A := by
  unfold excK at h
  split at h
  · rename_i A e2
    obtain ⟨h1, h2⟩ := hr.cell _ _ _ e e2
    exact ⟨A, h.1, e2, h1, h2, h.2⟩
  · exact h.elim
theorem optK_get {o : Option Bool} {f : Bool → Prop} (h : optK o f) : ∃ b, o = some b ∧ f b := by
  unfold optK at h
  split at h
  · exact ⟨_, rfl, h⟩
  · exact h.elim
theorem ok_isE (h : XFK K mg X) : CallOk K (rIsiE K) (fIsE X) := by
  intro G S H w xs ds k Q hr rx kl hq
  unfold fIsE at hq
  split at hq
  · rename_i i v
    obtain ⟨v1, v2, rfl, r1, r2⟩ := two_rep rx
    cases r1 with
    | rf ea =>
      cases r2
      obtain ⟨A, hA, _, _, e3, hf⟩ := exc_at hr ea hq
      obtain ⟨b, e4, hk⟩ := optK_get hf
      obtain ⟨u, c, hu⟩ := h.one hA e4
      exact ⟨_, A, _, u, b, rfl, (h.exc A hA).2.1, e3, c, hu, kl.here hr (.bl _) hk⟩
  · exact hq.elim
theorem ok_isET (h : XFK K mg X) : CallOk K (rIsiTE K) (fIsET X) := by
  intro G S H w xs ds k Q hr rx kl hq
  unfold fIsET at hq
  split at hq
  · rename_i i cs
    obtain ⟨v1, v2, rfl, r1, r2⟩ := two_rep rx
    cases r1 with
    | rf ea =>
      cases r2 with
      | tup ht hcs =>
        obtain ⟨A, hA, _, _, e3, hf⟩ := exc_at hr ea hq
        obtain ⟨b, e4, hk⟩ := optK_get hf
        obtain ⟨us, c, hu⟩ := h.any hA hcs e4
        exact ⟨_, A, _, _, us, b, rfl, (h.exc A hA).2.1, e3, hr.same _ _ ht, c, hu, kl.here hr (.bl _) hk⟩
  · exact hq.elim
end
section
variable {X : Cx} {E : XK} {e : Expr} {es : List Expr} {ga : GA} {p pos : Pos} {F : XF}
theorem de_isE (h : XFK X.K X.mg F) (B : Blt X.mg) (hg : Gl X "isinstance") (ha : DA X E (e :: es) ga) (he : starEach (e :: es) X.env = (false, eval e X.env) :: starEach es X.env := by rfl) (hpl : (backTo pos (starEach es X.env)).any (·.1) = false := by rfl) : DE X E (.Call (.Name "isinstance" p) (e :: es) [] pos) (gCB (fIsE F) ga) := de_cb call_isiE (ok_isE h) hg B.isi_ (by decide +kernel) ha (he := he) (hpl := hpl)
theorem de_isET (h : XFK X.K X.mg F) (B : Blt X.mg) (hg : Gl X "isinstance") (ha : DA X E (e :: es) ga) (he : starEach (e :: es) X.env = (false, eval e X.env) :: starEach es X.env := by rfl) (hpl : (backTo pos (starEach es X.env)).any (·.1) = false := by rfl) : DE X E (.Call (.Name "isinstance" p) (e :: es) [] pos) (gCB (fIsET F) ga) := de_cb call_isiTE (ok_isET h) hg B.isi_ (by decide +kernel) ha (he := he) (hpl := hpl)
/-- an own class, named -/
theorem de_own {x : Str} {C : Addr} (hg : Gl X x) (hm : X.mg x = some (.ref C)) (hd : (x == ("__debug__" : Str)) = false := by decide) : DE X E (.Name x pos) (gC (.ob (.ref C))) := pe_imp (pe_glob (v := .ref C) hg hm rfl hd) (by
  rintro σ H Q ⟨G, S, ρ, w, kx, k, hr, sr, xl, kl, h⟩
  exact kl _ _ _ _ _ _ (Ext.refl _ _) hr (.ob rfl) h)
theorem tk0 {X : Cx} : Takes X (fun _ _ _ _ => False) := fun _ _ ⟨_, _, _, _, _, _, _, _, _, _, _, _, _, _, _, _, h⟩ => h.elim
theorem Tk.no {X : Cx} : Tk X E0 := ⟨tk0⟩
theorem XFK.xcls {K : PySem.W.Frag} {mg : Str → Option Value} (h : XFK K mg F) {x : Str} {C : Addr} (hx : (x, C) ∈ F.all) (hr : C ∈ F.raised) : XCls K mg x C := by
  obtain ⟨h1, h2, h3, h4, h5⟩ := h.at_ _ hx
  exact ⟨h1, h2, (h.exc C hr).1, h5, h4⟩
/-- except RoyalError as n -/
theorem XFK.royal {K : PySem.W.Frag} {mg : Str → Option Value} (h : XFK K mg F) : ∀ B, B ∈ F.raised → PySem.W.exmOne K (.ref B) (.ref F.royal) = some true := by
  intro B hB
  obtain ⟨_, _, hd, ht, hb⟩ := h.at_ ("RoyalError", F.royal) (by simp [XF.all])
  refine PySem.W.exm_ref hb hd ht ?_
  rw [h.sub B hB F.royal (by simp [XF.addrs])]
  simp
theorem XFK.own {K : PySem.W.Frag} {mg : Str → Option Value} (h : XFK K mg F) {x : Str} {C : Addr} (hx : (x, C) ∈ F.all) : mg x = some (.ref C) := (h.at_ _ hx).1
theorem XFK.kp {K : PySem.W.Frag} {mg : Str → Option Value} (h : XFK K mg F) {x : Str} {C : Addr} (hx : (x, C) ∈ F.all) : PySem.W.keepIn K (.ref C) = true := (h.at_ _ hx).2.1
end
theorem ne_bf_taken (X : XF) : X.bf ≠ X.taken := fun z => by have h := X.nd; rw [z] at h; simp at h
theorem ne_bf_noname (X : XF) : X.bf ≠ X.noname := fun z => by have h := X.nd; rw [z] at h; simp at h
theorem ne_bf_toomuch (X : XF) : X.bf ≠ X.toomuch := fun z => by have h := X.nd; rw [z] at h; simp at h
theorem ne_bf_norate (X : XF) : X.bf ≠ X.norate := fun z => by have h := X.nd; rw [z] at h; simp at h
theorem ne_bf_noneleft (X : XF) : X.bf ≠ X.noneleft := fun z => by have h := X.nd; rw [z] at h; simp at h
theorem ne_bf_endless (X : XF) : X.bf ≠ X.endless := (X.ne X.bf (by simp)).1
theorem ne_bf_badrow (X : XF) : X.bf ≠ X.badrow := (X.ne X.bf (by simp)).2.1
theorem ne_bf_royal (X : XF) : X.bf ≠ X.royal := (X.ne X.bf (by simp)).2.2
theorem ne_taken_bf (X : XF) : X.taken ≠ X.bf := fun z => by have h := X.nd; rw [z] at h; simp at h
theorem ne_taken_noname (X : XF) : X.taken ≠ X.noname := fun z => by have h := X.nd; rw [z] at h; simp at h
theorem ne_taken_toomuch (X : XF) : X.taken ≠ X.toomuch := fun z => by have h := X.nd; rw [z] at h; simp at h
theorem ne_taken_norate (X : XF) : X.taken ≠ X.norate := fun z => by have h := X.nd; rw [z] at h; simp at h
theorem ne_taken_noneleft (X : XF) : X.taken ≠ X.noneleft := fun z => by have h := X.nd; rw [z] at h; simp at h
theorem ne_taken_endless (X : XF) : X.taken ≠ X.endless := (X.ne X.taken (by simp)).1
theorem ne_taken_badrow (X : XF) : X.taken ≠ X.badrow := (X.ne X.taken (by simp)).2.1
theorem ne_taken_royal (X : XF) : X.taken ≠ X.royal := (X.ne X.taken (by simp)).2.2
theorem ne_noname_bf (X : XF) : X.noname ≠ X.bf := fun z => by have h := X.nd; rw [z] at h; simp at h
theorem ne_noname_taken (X : XF) : X.noname ≠ X.taken := fun z => by have h := X.nd; rw [z] at h; simp at h
theorem ne_noname_toomuch (X : XF) : X.noname ≠ X.toomuch := fun z => by have h := X.nd; rw [z] at h; simp at h
theorem ne_noname_norate (X : XF) : X.noname ≠ X.norate := fun z => by have h := X.nd; rw [z] at h; simp at h
theorem ne_noname_noneleft (X : XF) : X.noname ≠ X.noneleft := fun z => by have h := X.nd; rw [z] at h; simp at h
theorem ne_noname_endless (X : XF) : X.noname ≠ X.endless := (X.ne X.noname (by simp)).1
theorem ne_noname_badrow (X : XF) : X.noname ≠ X.badrow := (X.ne X.noname (by simp)).2.1
theorem ne_noname_royal (X : XF) : X.noname ≠ X.royal := (X.ne X.noname (by simp)).2.2
theorem ne_toomuch_bf (X : XF) : X.toomuch ≠ X.bf := fun z => by have h := X.nd; rw [z] at h; simp at h
theorem ne_toomuch_taken (X : XF) : X.toomuch ≠ X.taken := fun z => by have h := X.nd; rw [z] at h; simp at h
theorem ne_toomuch_noname (X : XF) : X.toomuch ≠ X.noname := fun z => by have h := X.nd; rw [z] at h; simp at h
theorem ne_toomuch_norate (X : XF) : X.toomuch ≠ X.norate := fun z => by have h := X.nd; rw [z] at h; simp at h
theorem ne_toomuch_noneleft (X : XF) : X.toomuch ≠ X.noneleft := fun z => by have h := X.nd; rw [z] at h; simp at h
theorem ne_toomuch_endless (X : XF) : X.toomuch ≠ X.endless := (X.ne X.toomuch (by simp)).1
theorem ne_toomuch_badrow (X : XF) : X.toomuch ≠ X.badrow := (X.ne X.toomuch (by simp)).2.1
theorem ne_toomuch_royal (X : XF) : X.toomuch ≠ X.royal := (X.ne X.toomuch (by simp)).2.2
theorem ne_norate_bf (X : XF) : X.norate ≠ X.bf := fun z => by have h := X.nd; rw [z] at h; simp at h
theorem ne_norate_taken (X : XF) : X.norate ≠ X.taken := fun z => by have h := X.nd; rw [z] at h; simp at h
theorem ne_norate_noname (X : XF) : X.norate ≠ X.noname := fun z => by have h := X.nd; rw [z] at h; simp at h
theorem ne_norate_toomuch (X : XF) : X.norate ≠ X.toomuch := fun z => by have h := X.nd; rw [z] at h; simp at h
theorem ne_norate_noneleft (X : XF) : X.norate ≠ X.noneleft := fun z => by have h := X.nd; rw [z] at h; simp at h
theorem ne_norate_endless (X : XF) : X.norate ≠ X.endless := (X.ne X.norate (by simp)).1
theorem ne_norate_badrow (X : XF) : X.norate ≠ X.badrow := (X.ne X.norate (by simp)).2.1
theorem ne_norate_royal (X : XF) : X.norate ≠ X.royal := (X.ne X.norate (by simp)).2.2
theorem ne_noneleft_bf (X : XF) : X.noneleft ≠ X.bf := fun z => by have h := X.nd; rw [z] at h; simp at h
theorem ne_noneleft_taken (X : XF) : X.noneleft ≠ X.taken := fun z => by have h := X.nd; rw [z] at h; simp at h
theorem ne_noneleft_noname (X : XF) : X.noneleft ≠ X.noname := fun z => by have h := X.nd; rw [z] at h; simp at h
theorem ne_noneleft_toomuch (X : XF) : X.noneleft ≠ X.toomuch := fun z => by have h := X.nd; rw [z] at h; simp at h
theorem ne_noneleft_norate (X : XF) : X.noneleft ≠ X.norate := fun z => by have h := X.nd; rw [z] at h; simp at h
theorem ne_noneleft_endless (X : XF) : X.noneleft ≠ X.endless := (X.ne X.noneleft (by simp)).1
theorem ne_noneleft_badrow (X : XF) : X.noneleft ≠ X.badrow := (X.ne X.noneleft (by simp)).2.1
theorem ne_noneleft_royal (X : XF) : X.noneleft ≠ X.royal := (X.ne X.noneleft (by simp)).2.2
theorem ne_endless_royal (X : XF) : X.endless ≠ X.royal := X.nr.1
theorem ne_badrow_royal (X : XF) : X.badrow ≠ X.royal := X.nr.2
theorem is_bf_bf (X : XF) : isEV X X.bf (.ref X.bf) = some true := by show (if X.bf ∈ X.addrs then some (decide (X.bf = X.bf ∨ X.bf = X.royal)) else none) = _; rw [if_pos (by simp [XF.addrs]), decide_eq_true (.inl rfl)]
theorem is_bf_taken (X : XF) : isEV X X.bf (.ref X.taken) = some false := by show (if X.taken ∈ X.addrs then some (decide (X.bf = X.taken ∨ X.taken = X.royal)) else none) = _; rw [if_pos (by simp [XF.addrs]), decide_eq_false (not_or.mpr ⟨ne_bf_taken X, ne_taken_royal X⟩)]
theorem is_bf_noname (X : XF) : isEV X X.bf (.ref X.noname) = some false := by show (if X.noname ∈ X.addrs then some (decide (X.bf = X.noname ∨ X.noname = X.royal)) else none) = _; rw [if_pos (by simp [XF.addrs]), decide_eq_false (not_or.mpr ⟨ne_bf_noname X, ne_noname_royal X⟩)]
theorem is_bf_toomuch (X : XF) : isEV X X.bf (.ref X.toomuch) = some false := by show (if X.toomuch ∈ X.addrs then some (decide (X.bf = X.toomuch ∨ X.toomuch = X.royal)) else none) = _; rw [if_pos (by simp [XF.addrs]), decide_eq_false (not_or.mpr ⟨ne_bf_toomuch X, ne_toomuch_royal X⟩)]
theorem is_bf_norate (X : XF) : isEV X X.bf (.ref X.norate) = some false := by show (if X.norate ∈ X.addrs then some (decide (X.bf = X.norate ∨ X.norate = X.royal)) else none) = _; rw [if_pos (by simp [XF.addrs]), decide_eq_false (not_or.mpr ⟨ne_bf_norate X, ne_norate_royal X⟩)]
theorem is_bf_noneleft (X : XF) : isEV X X.bf (.ref X.noneleft) = some false := by show (if X.noneleft ∈ X.addrs then some (decide (X.bf = X.noneleft ∨ X.noneleft = X.royal)) else none) = _; rw [if_pos (by simp [XF.addrs]), decide_eq_false (not_or.mpr ⟨ne_bf_noneleft X, ne_noneleft_royal X⟩)]
theorem is_bf_endless (X : XF) : isEV X X.bf (.ref X.endless) = some false := by show (if X.endless ∈ X.addrs then some (decide (X.bf = X.endless ∨ X.endless = X.royal)) else none) = _; rw [if_pos (by simp [XF.addrs]), decide_eq_false (not_or.mpr ⟨ne_bf_endless X, ne_endless_royal X⟩)]
theorem is_bf_badrow (X : XF) : isEV X X.bf (.ref X.badrow) = some false := by show (if X.badrow ∈ X.addrs then some (decide (X.bf = X.badrow ∨ X.badrow = X.royal)) else none) = _; rw [if_pos (by simp [XF.addrs]), decide_eq_false (not_or.mpr ⟨ne_bf_badrow X, ne_badrow_royal X⟩)]
theorem is_bf_royal (X : XF) : isEV X X.bf (.ref X.royal) = some true := by show (if X.royal ∈ X.addrs then some (decide (X.bf = X.royal ∨ X.royal = X.royal)) else none) = _; rw [if_pos (by simp [XF.addrs]), decide_eq_true (.inr rfl)]
theorem ra_bf (X : XF) : X.bf ∈ X.raised := by simp [XF.raised]
theorem is_taken_bf (X : XF) : isEV X X.taken (.ref X.bf) = some false := by show (if X.bf ∈ X.addrs then some (decide (X.taken = X.bf ∨ X.bf = X.royal)) else none) = _; rw [if_pos (by simp [XF.addrs]), decide_eq_false (not_or.mpr ⟨ne_taken_bf X, ne_bf_royal X⟩)]
theorem is_taken_taken (X : XF) : isEV X X.taken (.ref X.taken) = some true := by show (if X.taken ∈ X.addrs then some (decide (X.taken = X.taken ∨ X.taken = X.royal)) else none) = _; rw [if_pos (by simp [XF.addrs]), decide_eq_true (.inl rfl)]
theorem is_taken_noname (X : XF) : isEV X X.taken (.ref X.noname) = some false := by show (if X.noname ∈ X.addrs then some (decide (X.taken = X.noname ∨ X.noname = X.royal)) else none) = _; rw [if_pos (by simp [XF.addrs]), decide_eq_false (not_or.mpr ⟨ne_taken_noname X, ne_noname_royal X⟩)]
theorem is_taken_toomuch (X : XF) : isEV X X.taken (.ref X.toomuch) = some false := by show (if X.toomuch ∈ X.addrs then some (decide (X.taken = X.toomuch ∨ X.toomuch = X.royal)) else none) = _; rw [if_pos (by simp [XF.addrs]), decide_eq_false (not_or.mpr ⟨ne_taken_toomuch X, ne_toomuch_royal X⟩)]
theorem is_taken_norate (X : XF) : isEV X X.taken (.ref X.norate) = some false := by show (if X.norate ∈ X.addrs then some (decide (X.taken = X.norate ∨ X.norate = X.royal)) else none) = _; rw [if_pos (by simp [XF.addrs]), decide_eq_false (not_or.mpr ⟨ne_taken_norate X, ne_norate_royal X⟩)]
theorem is_taken_noneleft (X : XF) : isEV X X.taken (.ref X.noneleft) = some false := by show (if X.noneleft ∈ X.addrs then some (decide (X.taken = X.noneleft ∨ X.noneleft = X.royal)) else none) = _; rw [if_pos (by simp [XF.addrs]), decide_eq_false (not_or.mpr ⟨ne_taken_noneleft X, ne_noneleft_royal X⟩)]
theorem is_taken_endless (X : XF) : isEV X X.taken (.ref X.endless) = some false := by show (if X.endless ∈ X.addrs then some (decide (X.taken = X.endless ∨ X.endless = X.royal)) else none) = _; rw [if_pos (by simp [XF.addrs]), decide_eq_false (not_or.mpr ⟨ne_taken_endless X, ne_endless_royal X⟩)]
theorem is_taken_badrow (X : XF) : isEV X X.taken (.ref X.badrow) = some false := by show (if X.badrow ∈ X.addrs then some (decide (X.taken = X.badrow ∨ X.badrow = X.royal)) else none) = _; rw [if_pos (by simp [XF.addrs]), decide_eq_false (not_or.mpr ⟨ne_taken_badrow X, ne_badrow_royal X⟩)]
theorem is_taken_royal (X : XF) : isEV X X.taken (.ref X.royal) = some true := by show (if X.royal ∈ X.addrs then some (decide (X.taken = X.royal ∨ X.royal = X.royal)) else none) = _; rw [if_pos (by simp [XF.addrs]), decide_eq_true (.inr rfl)]
theorem ra_taken (X : XF) : X.taken ∈ X.raised := by simp [XF.raised]
theorem is_noname_bf (X : XF) : isEV X X.noname (.ref X.bf) = some false := by show (if X.bf ∈ X.addrs then some (decide (X.noname = X.bf ∨ X.bf = X.royal)) else none) = _; rw [if_pos (by simp [XF.addrs]), decide_eq_false (not_or.mpr ⟨ne_noname_bf X, ne_bf_royal X⟩)]
theorem is_noname_taken (X : XF) : isEV X X.noname (.ref X.taken) = some false := by show (if X.taken ∈ X.addrs then some (decide (X.noname = X.taken ∨ X.taken = X.royal)) else none) = _; rw [if_pos (by simp [XF.addrs]), decide_eq_false (not_or.mpr ⟨ne_noname_taken X, ne_taken_royal X⟩)]
theorem is_noname_noname (X : XF) : isEV X X.noname (.ref X.noname) = some true := by show (if X.noname ∈ X.addrs then some (decide (X.noname = X.noname ∨ X.noname = X.royal)) else none) = _; rw [if_pos (by simp [XF.addrs]), decide_eq_true (.inl rfl)]
theorem is_noname_toomuch (X : XF) : isEV X X.noname (.ref X.toomuch) = some false := by show (if X.toomuch ∈ X.addrs then some (decide (X.noname = X.toomuch ∨ X.toomuch = X.royal)) else none) = _; rw [if_pos (by simp [XF.addrs]), decide_eq_false (not_or.mpr ⟨ne_noname_toomuch X, ne_toomuch_royal X⟩)]
theorem is_noname_norate (X : XF) : isEV X X.noname (.ref X.norate) = some false := by show (if X.norate ∈ X.addrs then some (decide (X.noname = X.norate ∨ X.norate = X.royal)) else none) = _; rw [if_pos (by simp [XF.addrs]), decide_eq_false (not_or.mpr ⟨ne_noname_norate X, ne_norate_royal X⟩)]
theorem is_noname_noneleft (X : XF) : isEV X X.noname (.ref X.noneleft) = some false := by show (if X.noneleft ∈ X.addrs then some (decide (X.noname = X.noneleft ∨ X.noneleft = X.royal)) else none) = _; rw [if_pos (by simp [XF.addrs]), decide_eq_false (not_or.mpr ⟨ne_noname_noneleft X, ne_noneleft_royal X⟩)]
theorem is_noname_endless (X : XF) : isEV X X.noname (.ref X.endless) = some false := by show (if X.endless ∈ X.addrs then some (decide (X.noname = X.endless ∨ X.endless = X.royal)) else none) = _; rw [if_pos (by simp [XF.addrs]), decide_eq_false (not_or.mpr ⟨ne_noname_endless X, ne_endless_royal X⟩)]
theorem is_noname_badrow (X : XF) : isEV X X.noname (.ref X.badrow) = some false := by show (if X.badrow ∈ X.addrs then some (decide (X.noname = X.badrow ∨ X.badrow = X.royal)) else none) = _; rw [if_pos (by simp [XF.addrs]), decide_eq_false (not_or.mpr ⟨ne_noname_badrow X, ne_badrow_royal X⟩)]
theorem is_noname_royal (X : XF) : isEV X X.noname (.ref X.royal) = some true := by show (if X.royal ∈ X.addrs then some (decide (X.noname = X.royal ∨ X.royal = X.royal)) else none) = _; rw [if_pos (by simp [XF.addrs]), decide_eq_true (.inr rfl)]
theorem ra_noname (X : XF) : X.noname ∈ X.raised := by simp [XF.raised]
theorem is_toomuch_bf (X : XF) : isEV X X.toomuch (.ref X.bf) = some false := by show (if X.bf ∈ X.addrs then some (decide (X.toomuch = X.bf ∨ X.bf = X.royal)) else none) = _; rw [if_pos (by simp [XF.addrs]), decide_eq_false (not_or.mpr ⟨ne_toomuch_bf X, ne_bf_royal X⟩)]
theorem is_toomuch_taken (X : XF) : isEV X X.toomuch (.ref X.taken) = some false := by show (if X.taken ∈ X.addrs then some (decide (X.toomuch = X.taken ∨ X.taken = X.royal)) else none) = _; rw [if_pos (by simp [XF.addrs]), decide_eq_false (not_or.mpr ⟨ne_toomuch_taken X, ne_taken_royal X⟩)]
theorem is_toomuch_noname (X : XF) : isEV X X.toomuch (.ref X.noname) = some false := by show (if X.noname ∈ X.addrs then some (decide (X.toomuch = X.noname ∨ X.noname = X.royal)) else none) = _; rw [if_pos (by simp [XF.addrs]), decide_eq_false (not_or.mpr ⟨ne_toomuch_noname X, ne_noname_royal X⟩)]
theorem is_toomuch_toomuch (X : XF) : isEV X X.toomuch (.ref X.toomuch) = some true := by show (if X.toomuch ∈ X.addrs then some (decide (X.toomuch = X.toomuch ∨ X.toomuch = X.royal)) else none) = _; rw [if_pos (by simp [XF.addrs]), decide_eq_true (.inl rfl)]
theorem is_toomuch_norate (X : XF) : isEV X X.toomuch (.ref X.norate) = some false := by show (if X.norate ∈ X.addrs then some (decide (X.toomuch = X.norate ∨ X.norate = X.royal)) else none) = _; rw [if_pos (by simp [XF.addrs]), decide_eq_false (not_or.mpr ⟨ne_toomuch_norate X, ne_norate_royal X⟩)]
theorem is_toomuch_noneleft (X : XF) : isEV X X.toomuch (.ref X.noneleft) = some false := by show (if X.noneleft ∈ X.addrs then some (decide (X.toomuch = X.noneleft ∨ X.noneleft = X.royal)) else none) = _; rw [if_pos (by simp [XF.addrs]), decide_eq_false (not_or.mpr ⟨ne_toomuch_noneleft X, ne_noneleft_royal X⟩)]
theorem is_toomuch_endless (X : XF) : isEV X X.toomuch (.ref X.endless) = some false := by show (if X.endless ∈ X.addrs then some (decide (X.toomuch = X.endless ∨ X.endless = X.royal)) else none) = _; rw [if_pos (by simp [XF.addrs]), decide_eq_false (not_or.mpr ⟨ne_toomuch_endless X, ne_endless_royal X⟩)]
theorem is_toomuch_badrow (X : XF) : isEV X X.toomuch (.ref X.badrow) = some false := by show (if X.badrow ∈ X.addrs then some (decide (X.toomuch = X.badrow ∨ X.badrow = X.royal)) else none) = _; rw [if_pos (by simp [XF.addrs]), decide_eq_false (not_or.mpr ⟨ne_toomuch_badrow X, ne_badrow_royal X⟩)]
theorem is_toomuch_royal (X : XF) : isEV X X.toomuch (.ref X.royal) = some true := by show (if X.royal ∈ X.addrs then some (decide (X.toomuch = X.royal ∨ X.royal = X.royal)) else none) = _; rw [if_pos (by simp [XF.addrs]), decide_eq_true (.inr rfl)]
theorem ra_toomuch (X : XF) : X.toomuch ∈ X.raised := by simp [XF.raised]
theorem is_norate_bf (X : XF) : isEV X X.norate (.ref X.bf) = some false := by show (if X.bf ∈ X.addrs then some (decide (X.norate = X.bf ∨ X.bf = X.royal)) else none) = _; rw [if_pos (by simp [XF.addrs]), decide_eq_false (not_or.mpr ⟨ne_norate_bf X, ne_bf_royal X⟩)]
theorem is_norate_taken (X : XF) : isEV X X.norate (.ref X.taken) = some false := by show (if X.taken ∈ X.addrs then some (decide (X.norate = X.taken ∨ X.taken = X.royal)) else none) = _; rw [if_pos (by simp [XF.addrs]), decide_eq_false (not_or.mpr ⟨ne_norate_taken X, ne_taken_royal X⟩)]
theorem is_norate_noname (X : XF) : isEV X X.norate (.ref X.noname) = some false := by show (if X.noname ∈ X.addrs then some (decide (X.norate = X.noname ∨ X.noname = X.royal)) else none) = _; rw [if_pos (by simp [XF.addrs]), decide_eq_false (not_or.mpr ⟨ne_norate_noname X, ne_noname_royal X⟩)]
theorem is_norate_toomuch (X : XF) : isEV X X.norate (.ref X.toomuch) = some false := by show (if X.toomuch ∈ X.addrs then some (decide (X.norate = X.toomuch ∨ X.toomuch = X.royal)) else none) = _; rw [if_pos (by simp [XF.addrs]), decide_eq_false (not_or.mpr ⟨ne_norate_toomuch X, ne_toomuch_royal X⟩)]
theorem is_norate_norate (X : XF) : isEV X X.norate (.ref X.norate) = some true := by show (if X.norate ∈ X.addrs then some (decide (X.norate = X.norate ∨ X.norate = X.royal)) else none) = _; rw [if_pos (by simp [XF.addrs]), decide_eq_true (.inl rfl)]
theorem is_norate_noneleft (X : XF) : isEV X X.norate (.ref X.noneleft) = some false := by show (if X.noneleft ∈ X.addrs then some (decide (X.norate = X.noneleft ∨ X.noneleft = X.royal)) else none) = _; rw [if_pos (by simp [XF.addrs]), decide_eq_false (not_or.mpr ⟨ne_norate_noneleft X, ne_noneleft_royal X⟩)]
theorem is_norate_endless (X : XF) : isEV X X.norate (.ref X.endless) = some false := by show (if X.endless ∈ X.addrs then some (decide (X.norate = X.endless ∨ X.endless = X.royal)) else none) = _; rw [if_pos (by simp [XF.addrs]), decide_eq_false (not_or.mpr ⟨ne_norate_endless X, ne_endless_royal X⟩)]
theorem is_norate_badrow (X : XF) : isEV X X.norate (.ref X.badrow) = some false := by show (if X.badrow ∈ X.addrs then some (decide (X.norate = X.badrow ∨ X.badrow = X.royal)) else none) = _; rw [if_pos (by simp [XF.addrs]), decide_eq_false (not_or.mpr ⟨ne_norate_badrow X, ne_badrow_royal X⟩)]
theorem is_norate_royal (X : XF) : isEV X X.norate (.ref X.royal) = some true := by show (if X.royal ∈ X.addrs then some (decide (X.norate = X.royal ∨ X.royal = X.royal)) else none) = _; rw [if_pos (by simp [XF.addrs]), decide_eq_true (.inr rfl)]
theorem ra_norate (X : XF) : X.norate ∈ X.raised := by simp [XF.raised]
theorem is_noneleft_bf (X : XF) : isEV X X.noneleft (.ref X.bf) = some false := by show (if X.bf ∈ X.addrs then some (decide (X.noneleft = X.bf ∨ X.bf = X.royal)) else none) = _; rw [if_pos (by simp [XF.addrs]), decide_eq_false (not_or.mpr ⟨ne_noneleft_bf X, ne_bf_royal X⟩)]
theorem is_noneleft_taken (X : XF) : isEV X X.noneleft (.ref X.taken) = some false := by show (if X.taken ∈ X.addrs then some (decide (X.noneleft = X.taken ∨ X.taken = X.royal)) else none) = _; rw [if_pos (by simp [XF.addrs]), decide_eq_false (not_or.mpr ⟨ne_noneleft_taken X, ne_taken_royal X⟩)]
theorem is_noneleft_noname (X : XF) : isEV X X.noneleft (.ref X.noname) = some false := by show (if X.noname ∈ X.addrs then some (decide (X.noneleft = X.noname ∨ X.noname = X.royal)) else none) = _; rw [if_pos (by simp [XF.addrs]), decide_eq_false (not_or.mpr ⟨ne_noneleft_noname X, ne_noname_royal X⟩)]
theorem is_noneleft_toomuch (X : XF) : isEV X X.noneleft (.ref X.toomuch) = some false := by show (if X.toomuch ∈ X.addrs then some (decide (X.noneleft = X.toomuch ∨ X.toomuch = X.royal)) else none) = _; rw [if_pos (by simp [XF.addrs]), decide_eq_false (not_or.mpr ⟨ne_noneleft_toomuch X, ne_toomuch_royal X⟩)]
theorem is_noneleft_norate (X : XF) : isEV X X.noneleft (.ref X.norate) = some false := by show (if X.norate ∈ X.addrs then some (decide (X.noneleft = X.norate ∨ X.norate = X.royal)) else none) = _; rw [if_pos (by simp [XF.addrs]), decide_eq_false (not_or.mpr ⟨ne_noneleft_norate X, ne_norate_royal X⟩)]
theorem is_noneleft_noneleft (X : XF) : isEV X X.noneleft (.ref X.noneleft) = some true := by show (if X.noneleft ∈ X.addrs then some (decide (X.noneleft = X.noneleft ∨ X.noneleft = X.royal)) else none) = _; rw [if_pos (by simp [XF.addrs]), decide_eq_true (.inl rfl)]
theorem is_noneleft_endless (X : XF) : isEV X X.noneleft (.ref X.endless) = some false := by show (if X.endless ∈ X.addrs then some (decide (X.noneleft = X.endless ∨ X.endless = X.royal)) else none) = _; rw [if_pos (by simp [XF.addrs]), decide_eq_false (not_or.mpr ⟨ne_noneleft_endless X, ne_endless_royal X⟩)]
theorem is_noneleft_badrow (X : XF) : isEV X X.noneleft (.ref X.badrow) = some false := by show (if X.badrow ∈ X.addrs then some (decide (X.noneleft = X.badrow ∨ X.badrow = X.royal)) else none) = _; rw [if_pos (by simp [XF.addrs]), decide_eq_false (not_or.mpr ⟨ne_noneleft_badrow X, ne_badrow_royal X⟩)]
theorem is_noneleft_royal (X : XF) : isEV X X.noneleft (.ref X.royal) = some true := by show (if X.royal ∈ X.addrs then some (decide (X.noneleft = X.royal ∨ X.royal = X.royal)) else none) = _; rw [if_pos (by simp [XF.addrs]), decide_eq_true (.inr rfl)]
theorem ra_noneleft (X : XF) : X.noneleft ∈ X.raised := by simp [XF.raised]
theorem is_ve (X : XF) (A : Addr) : isEV X A (.ty "ValueError") = some true := by show (if ("ValueError" : String) = "ValueError" then some true else none) = some true; exact if_pos rfl
theorem optK_some {b : Bool} {f : Bool → Prop} : optK (some b) f = f b := rfl
theorem excK_at {X : XF} {i : Nat} {w : Wd} {f : Addr → Prop} {A : Addr} (h : w.M[i]? = some (.exc A)) : excK X i w f = (A ∈ X.raised ∧ f A) := by unfold excK; rw [h]
theorem excK_new {X : XF} {M : List Cell} {n : Option Nat} {A : Addr} {f : Addr → Prop} : excK X M.length ⟨M ++ [.exc A], n⟩ f = (A ∈ X.raised ∧ f A) := excK_at (by simp)
theorem ne_of_sub {K : PySem.W.Frag} {A C D : Addr} (h1 : PySem.W.subIn K (.ref A) (.ref C) = some true) (h2 : PySem.W.subIn K (.ref A) (.ref D) = some false) : C ≠ D := fun e => by subst e; rw [h1] at h2; cases h2
theorem xfk_mk {K : PySem.W.Frag} {mg : Str → Option Value} {C_bf C_taken C_noname C_toomuch C_norate C_noneleft C_endless C_badrow C_royal : Addr}
    (xa_bf : mg "BadFraction" = some (.ref C_bf))
    (xk_bf : PySem.W.keepIn K (.ref C_bf) = true)
    (xd_bf : PySem.W.hasDictIn K C_bf = true)
    (xt_bf : PySem.W.typeIn K (.ref C_bf) = some (.type "type"))
    (xb_bf : PySem.W.subIn K (.ref C_bf) (.type "BaseException") = some true)
    (xa_taken : mg "Taken" = some (.ref C_taken))
    (xk_taken : PySem.W.keepIn K (.ref C_taken) = true)
    (xd_taken : PySem.W.hasDictIn K C_taken = true)
    (xt_taken : PySem.W.typeIn K (.ref C_taken) = some (.type "type"))
    (xb_taken : PySem.W.subIn K (.ref C_taken) (.type "BaseException") = some true)
    (xa_noname : mg "NoName" = some (.ref C_noname))
    (xk_noname : PySem.W.keepIn K (.ref C_noname) = true)
    (xd_noname : PySem.W.hasDictIn K C_noname = true)
    (xt_noname : PySem.W.typeIn K (.ref C_noname) = some (.type "type"))
    (xb_noname : PySem.W.subIn K (.ref C_noname) (.type "BaseException") = some true)
    (xa_toomuch : mg "TooMuch" = some (.ref C_toomuch))
    (xk_toomuch : PySem.W.keepIn K (.ref C_toomuch) = true)
    (xd_toomuch : PySem.W.hasDictIn K C_toomuch = true)
    (xt_toomuch : PySem.W.typeIn K (.ref C_toomuch) = some (.type "type"))
    (xb_toomuch : PySem.W.subIn K (.ref C_toomuch) (.type "BaseException") = some true)
    (xa_norate : mg "NoRate" = some (.ref C_norate))
    (xk_norate : PySem.W.keepIn K (.ref C_norate) = true)
    (xd_norate : PySem.W.hasDictIn K C_norate = true)
    (xt_norate : PySem.W.typeIn K (.ref C_norate) = some (.type "type"))
    (xb_norate : PySem.W.subIn K (.ref C_norate) (.type "BaseException") = some true)
    (xa_noneleft : mg "NoneLeft" = some (.ref C_noneleft))
    (xk_noneleft : PySem.W.keepIn K (.ref C_noneleft) = true)
    (xd_noneleft : PySem.W.hasDictIn K C_noneleft = true)
    (xt_noneleft : PySem.W.typeIn K (.ref C_noneleft) = some (.type "type"))
    (xb_noneleft : PySem.W.subIn K (.ref C_noneleft) (.type "BaseException") = some true)
    (xa_endless : mg "Endless" = some (.ref C_endless))
    (xk_endless : PySem.W.keepIn K (.ref C_endless) = true)
    (xd_endless : PySem.W.hasDictIn K C_endless = true)
    (xt_endless : PySem.W.typeIn K (.ref C_endless) = some (.type "type"))
    (xb_endless : PySem.W.subIn K (.ref C_endless) (.type "BaseException") = some true)
    (xa_badrow : mg "BadRow" = some (.ref C_badrow))
    (xk_badrow : PySem.W.keepIn K (.ref C_badrow) = true)
    (xd_badrow : PySem.W.hasDictIn K C_badrow = true)
    (xt_badrow : PySem.W.typeIn K (.ref C_badrow) = some (.type "type"))
    (xb_badrow : PySem.W.subIn K (.ref C_badrow) (.type "BaseException") = some true)
    (xa_royal : mg "RoyalError" = some (.ref C_royal))
    (xk_royal : PySem.W.keepIn K (.ref C_royal) = true)
    (xd_royal : PySem.W.hasDictIn K C_royal = true)
    (xt_royal : PySem.W.typeIn K (.ref C_royal) = some (.type "type"))
    (xb_royal : PySem.W.subIn K (.ref C_royal) (.type "BaseException") = some true)
    (xe_bf : PySem.W.excIn K C_bf [.type "ValueError", .type "Exception", .type "BaseException", .type "object"] "ValueError.__new__" = true)
    (xv_bf : PySem.W.subIn K (.ref C_bf) (.type "ValueError") = some true)
    (xg_bf : PySem.W.findIn K (.ref C_bf) "__getattribute__" = some (some (.builtin "BaseException.__getattribute__")))
    (xh_bf : PySem.W.findIn K (.ref C_bf) "__getattr__" = some none)
    (xc_bf : PySem.W.findIn K (.ref C_bf) "__class__" = some (some (.builtin "object.__class__")))
    (xm_bf : PySem.W.mroIn K C_bf (.type "object") = some true)
    (xs_bf_bf : PySem.W.subIn K (.ref C_bf) (.ref C_bf) = some true)
    (xs_bf_taken : PySem.W.subIn K (.ref C_bf) (.ref C_taken) = some false)
    (xs_bf_noname : PySem.W.subIn K (.ref C_bf) (.ref C_noname) = some false)
    (xs_bf_toomuch : PySem.W.subIn K (.ref C_bf) (.ref C_toomuch) = some false)
    (xs_bf_norate : PySem.W.subIn K (.ref C_bf) (.ref C_norate) = some false)
    (xs_bf_noneleft : PySem.W.subIn K (.ref C_bf) (.ref C_noneleft) = some false)
    (xs_bf_endless : PySem.W.subIn K (.ref C_bf) (.ref C_endless) = some false)
    (xs_bf_badrow : PySem.W.subIn K (.ref C_bf) (.ref C_badrow) = some false)
    (xs_bf_royal : PySem.W.subIn K (.ref C_bf) (.ref C_royal) = some true)
    (xe_taken : PySem.W.excIn K C_taken [.type "ValueError", .type "Exception", .type "BaseException", .type "object"] "ValueError.__new__" = true)
    (xv_taken : PySem.W.subIn K (.ref C_taken) (.type "ValueError") = some true)
    (xg_taken : PySem.W.findIn K (.ref C_taken) "__getattribute__" = some (some (.builtin "BaseException.__getattribute__")))
    (xh_taken : PySem.W.findIn K (.ref C_taken) "__getattr__" = some none)
    (xc_taken : PySem.W.findIn K (.ref C_taken) "__class__" = some (some (.builtin "object.__class__")))
    (xm_taken : PySem.W.mroIn K C_taken (.type "object") = some true)
    (xs_taken_bf : PySem.W.subIn K (.ref C_taken) (.ref C_bf) = some false)
    (xs_taken_taken : PySem.W.subIn K (.ref C_taken) (.ref C_taken) = some true)
    (xs_taken_noname : PySem.W.subIn K (.ref C_taken) (.ref C_noname) = some false)
    (xs_taken_toomuch : PySem.W.subIn K (.ref C_taken) (.ref C_toomuch) = some false)
    (xs_taken_norate : PySem.W.subIn K (.ref C_taken) (.ref C_norate) = some false)
    (xs_taken_noneleft : PySem.W.subIn K (.ref C_taken) (.ref C_noneleft) = some false)
    (xs_taken_endless : PySem.W.subIn K (.ref C_taken) (.ref C_endless) = some false)
    (xs_taken_badrow : PySem.W.subIn K (.ref C_taken) (.ref C_badrow) = some false)
    (xs_taken_royal : PySem.W.subIn K (.ref C_taken) (.ref C_royal) = some true)
    (xe_noname : PySem.W.excIn K C_noname [.type "ValueError", .type "Exception", .type "BaseException", .type "object"] "ValueError.__new__" = true)
    (xv_noname : PySem.W.subIn K (.ref C_noname) (.type "ValueError") = some true)
    (xg_noname : PySem.W.findIn K (.ref C_noname) "__getattribute__" = some (some (.builtin "BaseException.__getattribute__")))
    (xh_noname : PySem.W.findIn K (.ref C_noname) "__getattr__" = some none)
    (xc_noname : PySem.W.findIn K (.ref C_noname) "__class__" = some (some (.builtin "object.__class__")))
    (xm_noname : PySem.W.mroIn K C_noname (.type "object") = some true)
    (xs_noname_bf : PySem.W.subIn K (.ref C_noname) (.ref C_bf) = some false)
    (xs_noname_taken : PySem.W.subIn K (.ref C_noname) (.ref C_taken) = some false)
    (xs_noname_noname : PySem.W.subIn K (.ref C_noname) (.ref C_noname) = some true)
    (xs_noname_toomuch : PySem.W.subIn K (.ref C_noname) (.ref C_toomuch) = some false)
    (xs_noname_norate : PySem.W.subIn K (.ref C_noname) (.ref C_norate) = some false)
    (xs_noname_noneleft : PySem.W.subIn K (.ref C_noname) (.ref C_noneleft) = some false)
    (xs_noname_endless : PySem.W.subIn K (.ref C_noname) (.ref C_endless) = some false)
    (xs_noname_badrow : PySem.W.subIn K (.ref C_noname) (.ref C_badrow) = some false)
    (xs_noname_royal : PySem.W.subIn K (.ref C_noname) (.ref C_royal) = some true)
    (xe_toomuch : PySem.W.excIn K C_toomuch [.type "ValueError", .type "Exception", .type "BaseException", .type "object"] "ValueError.__new__" = true)
    (xv_toomuch : PySem.W.subIn K (.ref C_toomuch) (.type "ValueError") = some true)
    (xg_toomuch : PySem.W.findIn K (.ref C_toomuch) "__getattribute__" = some (some (.builtin "BaseException.__getattribute__")))
    (xh_toomuch : PySem.W.findIn K (.ref C_toomuch) "__getattr__" = some none)
    (xc_toomuch : PySem.W.findIn K (.ref C_toomuch) "__class__" = some (some (.builtin "object.__class__")))
    (xm_toomuch : PySem.W.mroIn K C_toomuch (.type "object") = some true)
    (xs_toomuch_bf : PySem.W.subIn K (.ref C_toomuch) (.ref C_bf) = some false)
    (xs_toomuch_taken : PySem.W.subIn K (.ref C_toomuch) (.ref C_taken) = some false)
    (xs_toomuch_noname : PySem.W.subIn K (.ref C_toomuch) (.ref C_noname) = some false)
    (xs_toomuch_toomuch : PySem.W.subIn K (.ref C_toomuch) (.ref C_toomuch) = some true)
    (xs_toomuch_norate : PySem.W.subIn K (.ref C_toomuch) (.ref C_norate) = some false)
    (xs_toomuch_noneleft : PySem.W.subIn K (.ref C_toomuch) (.ref C_noneleft) = some false)
    (xs_toomuch_endless : PySem.W.subIn K (.ref C_toomuch) (.ref C_endless) = some false)
    (xs_toomuch_badrow : PySem.W.subIn K (.ref C_toomuch) (.ref C_badrow) = some false)
    (xs_toomuch_royal : PySem.W.subIn K (.ref C_toomuch) (.ref C_royal) = some true)
    (xe_norate : PySem.W.excIn K C_norate [.type "ValueError", .type "Exception", .type "BaseException", .type "object"] "ValueError.__new__" = true)
    (xv_norate : PySem.W.subIn K (.ref C_norate) (.type "ValueError") = some true)
    (xg_norate : PySem.W.findIn K (.ref C_norate) "__getattribute__" = some (some (.builtin "BaseException.__getattribute__")))
    (xh_norate : PySem.W.findIn K (.ref C_norate) "__getattr__" = some none)
    (xc_norate : PySem.W.findIn K (.ref C_norate) "__class__" = some (some (.builtin "object.__class__")))
    (xm_norate : PySem.W.mroIn K C_norate (.type "object") = some true)
    (xs_norate_bf : PySem.W.subIn K (.ref C_norate) (.ref C_bf) = some false)
    (xs_norate_taken : PySem.W.subIn K (.ref C_norate) (.ref C_taken) = some false)
    (xs_norate_noname : PySem.W.subIn K (.ref C_norate) (.ref C_noname) = some false)
    (xs_norate_toomuch : PySem.W.subIn K (.ref C_norate) (.ref C_toomuch) = some false)
    (xs_norate_norate : PySem.W.subIn K (.ref C_norate) (.ref C_norate) = some true)
    (xs_norate_noneleft : PySem.W.subIn K (.ref C_norate) (.ref C_noneleft) = some false)
    (xs_norate_endless : PySem.W.subIn K (.ref C_norate) (.ref C_endless) = some false)
    (xs_norate_badrow : PySem.W.subIn K (.ref C_norate) (.ref C_badrow) = some false)
    (xs_norate_royal : PySem.W.subIn K (.ref C_norate) (.ref C_royal) = some true)
    (xe_noneleft : PySem.W.excIn K C_noneleft [.type "ValueError", .type "Exception", .type "BaseException", .type "object"] "ValueError.__new__" = true)
    (xv_noneleft : PySem.W.subIn K (.ref C_noneleft) (.type "ValueError") = some true)
    (xg_noneleft : PySem.W.findIn K (.ref C_noneleft) "__getattribute__" = some (some (.builtin "BaseException.__getattribute__")))
    (xh_noneleft : PySem.W.findIn K (.ref C_noneleft) "__getattr__" = some none)
    (xc_noneleft : PySem.W.findIn K (.ref C_noneleft) "__class__" = some (some (.builtin "object.__class__")))
    (xm_noneleft : PySem.W.mroIn K C_noneleft (.type "object") = some true)
    (xs_noneleft_bf : PySem.W.subIn K (.ref C_noneleft) (.ref C_bf) = some false)
    (xs_noneleft_taken : PySem.W.subIn K (.ref C_noneleft) (.ref C_taken) = some false)
    (xs_noneleft_noname : PySem.W.subIn K (.ref C_noneleft) (.ref C_noname) = some false)
    (xs_noneleft_toomuch : PySem.W.subIn K (.ref C_noneleft) (.ref C_toomuch) = some false)
    (xs_noneleft_norate : PySem.W.subIn K (.ref C_noneleft) (.ref C_norate) = some false)
    (xs_noneleft_noneleft : PySem.W.subIn K (.ref C_noneleft) (.ref C_noneleft) = some true)
    (xs_noneleft_endless : PySem.W.subIn K (.ref C_noneleft) (.ref C_endless) = some false)
    (xs_noneleft_badrow : PySem.W.subIn K (.ref C_noneleft) (.ref C_badrow) = some false)
    (xs_noneleft_royal : PySem.W.subIn K (.ref C_noneleft) (.ref C_royal) = some true)
    (xn : PySem.W.specialIn K (.builtin "object.__class__") "__get__" = some (some (.builtin "getset_descriptor.__get__")))
    (xq : PySem.W.takesIn K (.builtin "object.__class__") = some true)
    : ∃ X : XF, XFK K mg X := by
  have n_bf_taken : C_bf ≠ C_taken := ne_of_sub xs_bf_bf xs_bf_taken
  have n_bf_noname : C_bf ≠ C_noname := ne_of_sub xs_bf_bf xs_bf_noname
  have n_bf_toomuch : C_bf ≠ C_toomuch := ne_of_sub xs_bf_bf xs_bf_toomuch
  have n_bf_norate : C_bf ≠ C_norate := ne_of_sub xs_bf_bf xs_bf_norate
  have n_bf_noneleft : C_bf ≠ C_noneleft := ne_of_sub xs_bf_bf xs_bf_noneleft
  have n_bf_endless : C_bf ≠ C_endless := ne_of_sub xs_bf_bf xs_bf_endless
  have n_bf_badrow : C_bf ≠ C_badrow := ne_of_sub xs_bf_bf xs_bf_badrow
  have n_bf_royal : C_bf ≠ C_royal := (ne_of_sub xs_taken_royal xs_taken_bf).symm
  have n_taken_bf : C_taken ≠ C_bf := ne_of_sub xs_taken_taken xs_taken_bf
  have n_taken_noname : C_taken ≠ C_noname := ne_of_sub xs_taken_taken xs_taken_noname
  have n_taken_toomuch : C_taken ≠ C_toomuch := ne_of_sub xs_taken_taken xs_taken_toomuch
  have n_taken_norate : C_taken ≠ C_norate := ne_of_sub xs_taken_taken xs_taken_norate
  have n_taken_noneleft : C_taken ≠ C_noneleft := ne_of_sub xs_taken_taken xs_taken_noneleft
  have n_taken_endless : C_taken ≠ C_endless := ne_of_sub xs_taken_taken xs_taken_endless
  have n_taken_badrow : C_taken ≠ C_badrow := ne_of_sub xs_taken_taken xs_taken_badrow
  have n_taken_royal : C_taken ≠ C_royal := (ne_of_sub xs_noname_royal xs_noname_taken).symm
  have n_noname_bf : C_noname ≠ C_bf := ne_of_sub xs_noname_noname xs_noname_bf
  have n_noname_taken : C_noname ≠ C_taken := ne_of_sub xs_noname_noname xs_noname_taken
  have n_noname_toomuch : C_noname ≠ C_toomuch := ne_of_sub xs_noname_noname xs_noname_toomuch
  have n_noname_norate : C_noname ≠ C_norate := ne_of_sub xs_noname_noname xs_noname_norate
  have n_noname_noneleft : C_noname ≠ C_noneleft := ne_of_sub xs_noname_noname xs_noname_noneleft
  have n_noname_endless : C_noname ≠ C_endless := ne_of_sub xs_noname_noname xs_noname_endless
  have n_noname_badrow : C_noname ≠ C_badrow := ne_of_sub xs_noname_noname xs_noname_badrow
  have n_noname_royal : C_noname ≠ C_royal := (ne_of_sub xs_toomuch_royal xs_toomuch_noname).symm
  have n_toomuch_bf : C_toomuch ≠ C_bf := ne_of_sub xs_toomuch_toomuch xs_toomuch_bf
  have n_toomuch_taken : C_toomuch ≠ C_taken := ne_of_sub xs_toomuch_toomuch xs_toomuch_taken
  have n_toomuch_noname : C_toomuch ≠ C_noname := ne_of_sub xs_toomuch_toomuch xs_toomuch_noname
  have n_toomuch_norate : C_toomuch ≠ C_norate := ne_of_sub xs_toomuch_toomuch xs_toomuch_norate
  have n_toomuch_noneleft : C_toomuch ≠ C_noneleft := ne_of_sub xs_toomuch_toomuch xs_toomuch_noneleft
  have n_toomuch_endless : C_toomuch ≠ C_endless := ne_of_sub xs_toomuch_toomuch xs_toomuch_endless
  have n_toomuch_badrow : C_toomuch ≠ C_badrow := ne_of_sub xs_toomuch_toomuch xs_toomuch_badrow
  have n_toomuch_royal : C_toomuch ≠ C_royal := (ne_of_sub xs_norate_royal xs_norate_toomuch).symm
  have n_norate_bf : C_norate ≠ C_bf := ne_of_sub xs_norate_norate xs_norate_bf
  have n_norate_taken : C_norate ≠ C_taken := ne_of_sub xs_norate_norate xs_norate_taken
  have n_norate_noname : C_norate ≠ C_noname := ne_of_sub xs_norate_norate xs_norate_noname
  have n_norate_toomuch : C_norate ≠ C_toomuch := ne_of_sub xs_norate_norate xs_norate_toomuch
  have n_norate_noneleft : C_norate ≠ C_noneleft := ne_of_sub xs_norate_norate xs_norate_noneleft
  have n_norate_endless : C_norate ≠ C_endless := ne_of_sub xs_norate_norate xs_norate_endless
  have n_norate_badrow : C_norate ≠ C_badrow := ne_of_sub xs_norate_norate xs_norate_badrow
  have n_norate_royal : C_norate ≠ C_royal := (ne_of_sub xs_noneleft_royal xs_noneleft_norate).symm
  have n_noneleft_bf : C_noneleft ≠ C_bf := ne_of_sub xs_noneleft_noneleft xs_noneleft_bf
  have n_noneleft_taken : C_noneleft ≠ C_taken := ne_of_sub xs_noneleft_noneleft xs_noneleft_taken
  have n_noneleft_noname : C_noneleft ≠ C_noname := ne_of_sub xs_noneleft_noneleft xs_noneleft_noname
  have n_noneleft_toomuch : C_noneleft ≠ C_toomuch := ne_of_sub xs_noneleft_noneleft xs_noneleft_toomuch
  have n_noneleft_norate : C_noneleft ≠ C_norate := ne_of_sub xs_noneleft_noneleft xs_noneleft_norate
  have n_noneleft_endless : C_noneleft ≠ C_endless := ne_of_sub xs_noneleft_noneleft xs_noneleft_endless
  have n_noneleft_badrow : C_noneleft ≠ C_badrow := ne_of_sub xs_noneleft_noneleft xs_noneleft_badrow
  have n_noneleft_royal : C_noneleft ≠ C_royal := (ne_of_sub xs_bf_royal xs_bf_noneleft).symm
  have n_endless_royal : C_endless ≠ C_royal := fun z => by rw [z, xs_bf_royal] at xs_bf_endless; cases xs_bf_endless
  have n_badrow_royal : C_badrow ≠ C_royal := fun z => by rw [z, xs_bf_royal] at xs_bf_badrow; cases xs_bf_badrow
  refine ⟨⟨C_bf, C_taken, C_noname, C_toomuch, C_norate, C_noneleft, C_endless, C_badrow, C_royal, by simp [n_bf_taken, n_bf_noname, n_bf_toomuch, n_bf_norate, n_bf_noneleft, n_taken_noname, n_taken_toomuch, n_taken_norate, n_taken_noneleft, n_noname_toomuch, n_noname_norate, n_noname_noneleft, n_toomuch_norate, n_toomuch_noneleft, n_norate_noneleft], by simp [n_bf_endless, n_bf_badrow, n_bf_royal, n_taken_endless, n_taken_badrow, n_taken_royal, n_noname_endless, n_noname_badrow, n_noname_royal, n_toomuch_endless, n_toomuch_badrow, n_toomuch_royal, n_norate_endless, n_norate_badrow, n_norate_royal, n_noneleft_endless, n_noneleft_badrow, n_noneleft_royal], ⟨n_endless_royal, n_badrow_royal⟩⟩, ?_, ?_, ?_⟩
  · intro p hp
    simp only [XF.all, List.mem_cons, List.not_mem_nil, or_false] at hp
    rcases hp with rfl | rfl | rfl | rfl | rfl | rfl | rfl | rfl | rfl
    · exact ⟨xa_bf, xk_bf, xd_bf, xt_bf, xb_bf⟩
    · exact ⟨xa_taken, xk_taken, xd_taken, xt_taken, xb_taken⟩
    · exact ⟨xa_noname, xk_noname, xd_noname, xt_noname, xb_noname⟩
    · exact ⟨xa_toomuch, xk_toomuch, xd_toomuch, xt_toomuch, xb_toomuch⟩
    · exact ⟨xa_norate, xk_norate, xd_norate, xt_norate, xb_norate⟩
    · exact ⟨xa_noneleft, xk_noneleft, xd_noneleft, xt_noneleft, xb_noneleft⟩
    · exact ⟨xa_endless, xk_endless, xd_endless, xt_endless, xb_endless⟩
    · exact ⟨xa_badrow, xk_badrow, xd_badrow, xt_badrow, xb_badrow⟩
    · exact ⟨xa_royal, xk_royal, xd_royal, xt_royal, xb_royal⟩
  · intro A hA
    simp only [XF.raised, List.mem_cons, List.not_mem_nil, or_false] at hA
    rcases hA with rfl | rfl | rfl | rfl | rfl | rfl
    · exact ⟨xe_bf, ⟨xg_bf, xh_bf, xb_bf, xd_bf, xc_bf, xn, xq, xm_bf⟩, xv_bf⟩
    · exact ⟨xe_taken, ⟨xg_taken, xh_taken, xb_taken, xd_taken, xc_taken, xn, xq, xm_taken⟩, xv_taken⟩
    · exact ⟨xe_noname, ⟨xg_noname, xh_noname, xb_noname, xd_noname, xc_noname, xn, xq, xm_noname⟩, xv_noname⟩
    · exact ⟨xe_toomuch, ⟨xg_toomuch, xh_toomuch, xb_toomuch, xd_toomuch, xc_toomuch, xn, xq, xm_toomuch⟩, xv_toomuch⟩
    · exact ⟨xe_norate, ⟨xg_norate, xh_norate, xb_norate, xd_norate, xc_norate, xn, xq, xm_norate⟩, xv_norate⟩
    · exact ⟨xe_noneleft, ⟨xg_noneleft, xh_noneleft, xb_noneleft, xd_noneleft, xc_noneleft, xn, xq, xm_noneleft⟩, xv_noneleft⟩
  · intro A hA C hC
    simp only [XF.raised, XF.addrs, List.mem_cons, List.not_mem_nil, or_false] at hA hC ⊢
    rcases hA with hA | hA | hA | hA | hA | hA
    · rcases hC with hC | hC | hC | hC | hC | hC | hC | hC | hC
      · rw [hA, hC, xs_bf_bf, decide_eq_true (.inl rfl)]
      · rw [hA, hC, xs_bf_taken, decide_eq_false (not_or.mpr ⟨n_bf_taken, n_taken_royal⟩)]
      · rw [hA, hC, xs_bf_noname, decide_eq_false (not_or.mpr ⟨n_bf_noname, n_noname_royal⟩)]
      · rw [hA, hC, xs_bf_toomuch, decide_eq_false (not_or.mpr ⟨n_bf_toomuch, n_toomuch_royal⟩)]
      · rw [hA, hC, xs_bf_norate, decide_eq_false (not_or.mpr ⟨n_bf_norate, n_norate_royal⟩)]
      · rw [hA, hC, xs_bf_noneleft, decide_eq_false (not_or.mpr ⟨n_bf_noneleft, n_noneleft_royal⟩)]
      · rw [hA, hC, xs_bf_endless, decide_eq_false (not_or.mpr ⟨n_bf_endless, n_endless_royal⟩)]
      · rw [hA, hC, xs_bf_badrow, decide_eq_false (not_or.mpr ⟨n_bf_badrow, n_badrow_royal⟩)]
      · rw [hA, hC, xs_bf_royal, decide_eq_true (.inr rfl)]
    · rcases hC with hC | hC | hC | hC | hC | hC | hC | hC | hC
      · rw [hA, hC, xs_taken_bf, decide_eq_false (not_or.mpr ⟨n_taken_bf, n_bf_royal⟩)]
      · rw [hA, hC, xs_taken_taken, decide_eq_true (.inl rfl)]
      · rw [hA, hC, xs_taken_noname, decide_eq_false (not_or.mpr ⟨n_taken_noname, n_noname_royal⟩)]
      · rw [hA, hC, xs_taken_toomuch, decide_eq_false (not_or.mpr ⟨n_taken_toomuch, n_toomuch_royal⟩)]
      · rw [hA, hC, xs_taken_norate, decide_eq_false (not_or.mpr ⟨n_taken_norate, n_norate_royal⟩)]
      · rw [hA, hC, xs_taken_noneleft, decide_eq_false (not_or.mpr ⟨n_taken_noneleft, n_noneleft_royal⟩)]
      · rw [hA, hC, xs_taken_endless, decide_eq_false (not_or.mpr ⟨n_taken_endless, n_endless_royal⟩)]
      · rw [hA, hC, xs_taken_badrow, decide_eq_false (not_or.mpr ⟨n_taken_badrow, n_badrow_royal⟩)]
      · rw [hA, hC, xs_taken_royal, decide_eq_true (.inr rfl)]
    · rcases hC with hC | hC | hC | hC | hC | hC | hC | hC | hC
      · rw [hA, hC, xs_noname_bf, decide_eq_false (not_or.mpr ⟨n_noname_bf, n_bf_royal⟩)]
      · rw [hA, hC, xs_noname_taken, decide_eq_false (not_or.mpr ⟨n_noname_taken, n_taken_royal⟩)]
      · rw [hA, hC, xs_noname_noname, decide_eq_true (.inl rfl)]
      · rw [hA, hC, xs_noname_toomuch, decide_eq_false (not_or.mpr ⟨n_noname_toomuch, n_toomuch_royal⟩)]
      · rw [hA, hC, xs_noname_norate, decide_eq_false (not_or.mpr ⟨n_noname_norate, n_norate_royal⟩)]
      · rw [hA, hC, xs_noname_noneleft, decide_eq_false (not_or.mpr ⟨n_noname_noneleft, n_noneleft_royal⟩)]
      · rw [hA, hC, xs_noname_endless, decide_eq_false (not_or.mpr ⟨n_noname_endless, n_endless_royal⟩)]
      · rw [hA, hC, xs_noname_badrow, decide_eq_false (not_or.mpr ⟨n_noname_badrow, n_badrow_royal⟩)]
      · rw [hA, hC, xs_noname_royal, decide_eq_true (.inr rfl)]
    · rcases hC with hC | hC | hC | hC | hC | hC | hC | hC | hC
      · rw [hA, hC, xs_toomuch_bf, decide_eq_false (not_or.mpr ⟨n_toomuch_bf, n_bf_royal⟩)]
      · rw [hA, hC, xs_toomuch_taken, decide_eq_false (not_or.mpr ⟨n_toomuch_taken, n_taken_royal⟩)]
      · rw [hA, hC, xs_toomuch_noname, decide_eq_false (not_or.mpr ⟨n_toomuch_noname, n_noname_royal⟩)]
      · rw [hA, hC, xs_toomuch_toomuch, decide_eq_true (.inl rfl)]
      · rw [hA, hC, xs_toomuch_norate, decide_eq_false (not_or.mpr ⟨n_toomuch_norate, n_norate_royal⟩)]
      · rw [hA, hC, xs_toomuch_noneleft, decide_eq_false (not_or.mpr ⟨n_toomuch_noneleft, n_noneleft_royal⟩)]
      · rw [hA, hC, xs_toomuch_endless, decide_eq_false (not_or.mpr ⟨n_toomuch_endless, n_endless_royal⟩)]
      · rw [hA, hC, xs_toomuch_badrow, decide_eq_false (not_or.mpr ⟨n_toomuch_badrow, n_badrow_royal⟩)]
      · rw [hA, hC, xs_toomuch_royal, decide_eq_true (.inr rfl)]
    · rcases hC with hC | hC | hC | hC | hC | hC | hC | hC | hC
      · rw [hA, hC, xs_norate_bf, decide_eq_false (not_or.mpr ⟨n_norate_bf, n_bf_royal⟩)]
      · rw [hA, hC, xs_norate_taken, decide_eq_false (not_or.mpr ⟨n_norate_taken, n_taken_royal⟩)]
      · rw [hA, hC, xs_norate_noname, decide_eq_false (not_or.mpr ⟨n_norate_noname, n_noname_royal⟩)]
      · rw [hA, hC, xs_norate_toomuch, decide_eq_false (not_or.mpr ⟨n_norate_toomuch, n_toomuch_royal⟩)]
      · rw [hA, hC, xs_norate_norate, decide_eq_true (.inl rfl)]
      · rw [hA, hC, xs_norate_noneleft, decide_eq_false (not_or.mpr ⟨n_norate_noneleft, n_noneleft_royal⟩)]
      · rw [hA, hC, xs_norate_endless, decide_eq_false (not_or.mpr ⟨n_norate_endless, n_endless_royal⟩)]
      · rw [hA, hC, xs_norate_badrow, decide_eq_false (not_or.mpr ⟨n_norate_badrow, n_badrow_royal⟩)]
      · rw [hA, hC, xs_norate_royal, decide_eq_true (.inr rfl)]
    · rcases hC with hC | hC | hC | hC | hC | hC | hC | hC | hC
      · rw [hA, hC, xs_noneleft_bf, decide_eq_false (not_or.mpr ⟨n_noneleft_bf, n_bf_royal⟩)]
      · rw [hA, hC, xs_noneleft_taken, decide_eq_false (not_or.mpr ⟨n_noneleft_taken, n_taken_royal⟩)]
      · rw [hA, hC, xs_noneleft_noname, decide_eq_false (not_or.mpr ⟨n_noneleft_noname, n_noname_royal⟩)]
      · rw [hA, hC, xs_noneleft_toomuch, decide_eq_false (not_or.mpr ⟨n_noneleft_toomuch, n_toomuch_royal⟩)]
      · rw [hA, hC, xs_noneleft_norate, decide_eq_false (not_or.mpr ⟨n_noneleft_norate, n_norate_royal⟩)]
      · rw [hA, hC, xs_noneleft_noneleft, decide_eq_true (.inl rfl)]
      · rw [hA, hC, xs_noneleft_endless, decide_eq_false (not_or.mpr ⟨n_noneleft_endless, n_endless_royal⟩)]
      · rw [hA, hC, xs_noneleft_badrow, decide_eq_false (not_or.mpr ⟨n_noneleft_badrow, n_badrow_royal⟩)]
      · rw [hA, hC, xs_noneleft_royal, decide_eq_true (.inr rfl)]
end DL

namespace L2
open PySem PySem.Spec PyProof.Rows
/-! ### behind what is evaluated a token is out -/
def PE1 (X : Cx) (e : Expr) (t : TE) : Prop :=
  ∀ (pins : List (Addr × Obj)) (s : Shared) (σ : L2.St) (H : Hp) (Q : VK), Inv X pins σ H s → t σ H Q → wpAny (model X.prog X.w) X.A (eval e X.env) (fun v s1 => 1 ≤ s1.toks ∧ EP X pins σ Q v s1) X.xe s
def PA1 (X : Cx) (es : List Expr) (t : TA) : Prop :=
  ∀ (pos : Pos) (pins : List (Addr × Obj)) (s : Shared) (σ : L2.St) (H : Hp) (Q : List V → Hp → Prop), Inv X pins σ H s → t σ H Q → wpAny (model X.prog X.w) X.A (spliced (backTo pos (starEach es X.env))) (fun v s1 => 1 ≤ s1.toks ∧ AP X pins σ Q v s1) X.xe s
def PS1 (X : Cx) (st : Stmt) (t : TS) : Prop :=
  ∀ (pins : List (Addr × Obj)) (s : Shared) (σ : L2.St) (H : Hp) (D : Ends), Inv X pins σ H s → t D σ H → wpAny (model X.prog X.w) X.A (exec st X.env) (fun f s1 => 1 ≤ s1.toks ∧ SP X pins D f s1) X.xe s
section
variable {X : Cx} {e f : Expr} {es : List Expr} {te tf : TE} {ta : TA} {st : Stmt} {rest : List Stmt} {t u : TS} {pos : Pos}
theorem toks_up {α : Type} {M : Model} {A : Around} {m : Sem α} {Q : α → Shared → Prop} {E : Value → Shared → Prop} {s : Shared} (h0 : 1 ≤ s.toks) (h : wpAny M A m Q E s) : wpAny M A m (fun a s1 => 1 ≤ s1.toks ∧ Q a s1) E s :=
  wpAny_mono (PySem.wpAny_toks_of h0 h) (fun _ _ x => x) (fun _ _ x => x.2)
theorem pe1_str {x : Str} {j : Nat} : PE1 X (.Constant (.str x) j pos) (tC (.str x)) := fun pins s σ H Q I h => Calls.Constant_str ⟨Nat.succ_le_succ (Nat.zero_le _), .str x, H, I.tok _, ⟨_, rfl⟩, h⟩
theorem pe1_op {op : Operator} {r : R2} (ho : OpR X (binaryOp op) r) (ha : PE1 X e te) (hb : PE X f tf) : PE1 X (.BinOp e op f pos) (tOp r te tf) := by
  intro pins s σ H Q I h
  refine wpAny_BinOp (wpAny_mono (ha pins s σ H _ I h) (fun v s1 q => ?_) fun _ _ z => z)
  obtain ⟨hk, x, H1, I1, r1, q1⟩ := q
  refine wpAny_mono (toks_up hk (hb.run pins s1 σ H1 _ I1 q1)) (fun w s2 q2 => ?_) fun _ _ z => z
  obtain ⟨hk2, y, H2, I2, r2, q2⟩ := q2
  exact toks_up hk2 (ho pins s2 σ H2 x y v w Q I2 r1 r2 q2)
theorem pa1_here (ha : PE1 X e te) (hr : PA X es ta) (hs : starEach (e :: es) X.env = (false, eval e X.env) :: starEach es X.env := by rfl) : PA1 X (e :: es) (tCons te ta) := by
  intro pos pins s σ H Q I h
  rw [hs]
  show wpAny _ _ (spliced ((false, eval e X.env) :: backTo pos (starEach es X.env))) _ _ s
  refine Calls.spliced_cons (wpAny_mono (ha pins s σ H _ I h) (fun v s1 q => ?_) fun _ _ z => z)
  obtain ⟨hk, x, H1, I1, r1, q1⟩ := q
  refine wpAny_mono (toks_up hk (hr.run pos pins s1 σ H1 _ I1 q1)) (fun us s2 q2 => ?_) fun _ _ z => z
  obtain ⟨hk2, xs, H2, I2, r2, q2⟩ := q2
  exact ⟨hk2, x :: xs, H2, I2, .cons r1 r2, q2⟩
theorem pa1_skip (ha : PE X e te) (hr : PA1 X es ta) (hs : starEach (e :: es) X.env = (false, eval e X.env) :: starEach es X.env := by rfl) : PA1 X (e :: es) (tCons te ta) := by
  intro pos pins s σ H Q I h
  rw [hs]
  show wpAny _ _ (spliced ((false, eval e X.env) :: backTo pos (starEach es X.env))) _ _ s
  refine Calls.spliced_cons (thn (ha.run pins s σ H _ I h) fun v s1 ⟨x, H1, I1, r1, q1⟩ => ?_)
  refine wpAny_mono (hr pos pins s1 σ H1 _ I1 q1) (fun us s2 q2 => ?_) fun _ _ z => z
  obtain ⟨hk2, xs, H2, I2, r2, q2⟩ := q2
  exact ⟨hk2, x :: xs, H2, I2, .cons r1 r2, q2⟩
theorem pe1_lst (h : PA1 X es ta) : PE1 X (.List es pos) (tLst ta) := by
  intro pins s σ H Q I hq
  refine wpAny_List_spliced (wpAny_mono (h pos pins s σ H _ I hq) (fun us s1 q => ?_) fun _ _ z => z)
  obtain ⟨hk, xs, H1, I1, r, z, q⟩ := q
  refine ⟨by rw [← r.length]; exact z, ?_⟩
  have hf : H1 s1.heap.objs.size = none := I1.hok.fresh (Nat.le_refl _)
  refine ⟨hk, .ref s1.heap.objs.size, upd H1 s1.heap.objs.size (.lst xs), I1.laid (t' := s1.toks) (fun b u e => Heap.get?_push_of_some _ e) (Nat.le_refl _) ?_, rfl, q _ hf⟩
  exact ⟨z, us, 0, r, Heap.get?_push_size _ rfl⟩
theorem ps1_set {i : Nat} {x : Str} {pos' : Pos} (hN : X.N.Nodup) (hi : X.N[i]? = some x) (hx : Loc X.env.scope x) (he : PE1 X e te) (hs : swapsWith e (some (.Name x pos')) pos.line X.env = pure false := by rfl) (hf : X.fn x = true ∨ X.env.scope.names.lookup x = some .local := by first | exact .inl rfl | exact .inr rfl | assumption) :
    PS1 X (.Assign [.Name x pos'] e pos) (tAsg te (gName i)) := by
  intro pins s σ H D I h
  refine wpAny_Assign_Name (wpAny_mono (he pins s σ H _ I h) (fun v s1 q => ?_) fun _ _ z => z) hs
  obtain ⟨hk, y, H1, I1, r1, q1⟩ := q
  refine wpAny_mono (toks_up hk (store_ok (Q := fun _ s2 => ∃ σ2 H2, Inv X pins σ2 H2 s2 ∧ D.nx σ2 H2) I1 hN hi hx r1 (fun s2 I2 => ⟨_, H1, I2, q1⟩) hf)) (fun _ s2 q => ?_) fun _ _ z => z
  exact q
theorem pst_set {i : Nat} {x : Str} {pos' : Pos} (hN : X.N.Nodup) (hi : X.N[i]? = some x) (hx : Loc X.env.scope x) (he : PET X e te) (hs : swapsWith e (some (.Name x pos')) pos.line X.env = pure false := by rfl) (hf : X.fn x = true ∨ X.env.scope.names.lookup x = some .local := by first | exact .inl rfl | exact .inr rfl | assumption) :
    PST X (.Assign [.Name x pos'] e pos) (tAsg te (gName i)) := by
  intro pins s σ H D h0 I h
  refine wpAny_Assign_Name (thn (he pins s σ H _ h0 I h) fun v s1 ⟨y, H1, I1, r1, q1⟩ => ?_) hs
  exact store_ok I1 hN hi hx r1 (fun s2 I2 => ⟨_, H1, I2, q1⟩) hf
theorem pss_tok (h1 : PS1 X st t) (h2 : PSsT X rest u) : PSs X (st :: rest) (tSeq t u) := by
  refine ⟨fun pins s σ H D I h => ?_⟩
  refine wpAny_execs_cons (wpAny_mono (h1 pins s σ H { D with nx := u D } I h) (fun f s1 q => ?_) fun _ _ z => z)
  obtain ⟨hk, q⟩ := q
  cases f with
  | next =>
    obtain ⟨σ', H', I', q⟩ := q
    exact h2 pins s1 σ' H' D hk I' q
  | ret v => exact q
  | brk => exact q
  | cont => exact q
end
section
variable {X : Cx}
/-- x * i of a text -/
def rMulT : R2 := fun x y H Q => ∃ z i, x = .str z ∧ y = .int i ∧ 0 ≤ i ∧ i ≤ 100000 ∧ z.length * i.toNat ≤ 100000 ∧ Q (.str ⟨(List.replicate i.toNat z.cps).foldl (· ++ ·) #[]⟩) H
theorem op_mulT : OpR X (binaryOp .Mult) rMulT := by
  intro pins s σ H x y v u Q I rx ry h
  obtain ⟨z, i, rfl, rfl, h0, h1, h2, q⟩ := h
  obtain ⟨t, rfl⟩ := rx
  obtain ⟨t2, rfl⟩ := ry
  have e0 : (⟨#[]⟩ : Str) = Str.empty := rfl
  have tl : Builtin.Str.tooLong (z.length * i.toNat) = false := by
    unfold Builtin.Str.tooLong
    exact decide_eq_false (by have : (100000 : Nat) < sizeLine := by decide
                              omega)
  refine PySem.P.mul_str (by
      rw [decide_eq_false (show ¬ i < -(2 ^ 63 : Int) by omega), decide_eq_false (show ¬ i ≥ 2 ^ 63 by omega)]; rfl) (fun hi hn => ?_) (fun _ _ => tl) ?_
  · have hz : z.length ≤ 100000 := by
      have : 1 ≤ i.toNat := by omega
      exact Nat.le_trans (Nat.le_mul_of_pos_right _ this) h2
    have : (92233720368547 : Int) ≤ (2 ^ 63 - 1) / i := Int.le_ediv_of_mul_le (by omega) (by omega)
    omega
  · by_cases hi : i < 1
    · have e : i = 0 := by omega
      subst e
      rw [if_pos (by decide)]
      exact ⟨by decide, .str Str.empty, H, I.tok _, ⟨_, rfl⟩, q⟩
    · rw [if_neg hi]
      by_cases hc : (i == 1 || z.length == 0) = true
      · rw [if_pos hc]
        refine ⟨.str z, H, I, ⟨_, rfl⟩, ?_⟩
        have ez : (⟨(List.replicate i.toNat z.cps).foldl (· ++ ·) #[]⟩ : Str) = z := by
          rw [Bool.or_eq_true] at hc
          rcases hc with hc | hc
          · have e : i = 1 := by simpa using hc
            subst e
            show (⟨#[] ++ z.cps⟩ : Str) = z
            rw [Array.empty_append]
          · have e : z.cps = #[] := Array.eq_empty_of_size_eq_zero (by simpa [Str.length] using hc)
            have : ∀ n, (List.replicate n (#[] : Array Nat)).foldl (· ++ ·) #[] = #[] := fun n => by
              induction n with
              | zero => rfl
              | succ n ih => rw [List.replicate_succ, List.foldl_cons]; exact ih
            obtain ⟨zc⟩ := z
            simp only at e
            subst e
            rw [this]
        rw [ez] at q
        exact q
      · rw [if_neg hc]
        have fl : ∀ n (a : Array Nat), ((List.replicate n z.cps).foldl (· ++ ·) a).size = a.size + z.length * n := fun n => by
          induction n with
          | zero => intro a; rfl
          | succ n ih => intro a; rw [List.replicate_succ, List.foldl_cons, ih, Array.size_append, Nat.mul_succ]; show _ + z.length + _ = _; omega
        refine ⟨?_, .str _, H, I.tok _, ⟨_, rfl⟩, q⟩
        show ((List.replicate i.toNat z.cps).foldl (· ++ ·) #[]).size ≤ sizeLine
        rw [fl]
        have : (100000 : Nat) < sizeLine := by decide
        have : (#[] : Array Nat).size = 0 := rfl
        omega
end
end L2
namespace DL
open PySem PySem.Spec PyProof.Rows L2 RZ
def mulTD : F2 := fun x y w k => match x, y with
  | .str z, .int i => (0 ≤ i ∧ i ≤ 100000 ∧ z.length * i.toNat ≤ 100000) ∧ k (.str ⟨(List.replicate i.toNat z.cps).foldl (· ++ ·) #[]⟩) w
  | _, _ => False
theorem ok_mulTD {K : PySem.W.Frag} : BinOk K rMulT mulTD := by
  intro G S H w x y d e k Q hr rx ry kl h
  cases rx with
  | str z =>
    cases ry with
    | int i => exact ⟨z, i, rfl, rfl, h.1.1, h.1.2.1, h.1.2.2, kl.here hr (.str _) h.2⟩
    | _ => exact h.elim
  | _ => cases ry <;> exact h.elim
def mUpper : FM := fun x ds w k => match x, ds with
  | .str a, [] => a.length ≤ 100000 ∧ k (.str (Txt.upper a)) w
  | _, _ => False
theorem ok_upper {K : PySem.W.Frag} : MtOk K (fun x xs H Q => ∃ a, x = .str a ∧ xs = [] ∧ a.length ≤ 5592405 ∧ Q (.str (Txt.upper a)) H) mUpper := by
  intro G S H w x d vs ds k Q hr rx rxs kl h
  unfold mUpper at h
  split at h
  · cases rx
    cases rxs
    exact ⟨_, rfl, rfl, Nat.le_trans h.1 (by decide), kl.here hr (.str _) h.2⟩
  · exact h.elim
def gRepl (y z : Str) (go : GE) : GE := fun ρ w kx k => go ρ w kx fun d w1 => match d with
  | .str x => x.length + (x.length + 1) * z.length ≤ 16777216 ∧ k (.str (Txt.replace x y z)) w1
  | _ => False
/-! the same with a token out -/
def DET (X : Cx) (E : XK) (e : Expr) (g : GE) : Prop := PET X e (upE X.K E g)
def DAT (X : Cx) (E : XK) (es : List Expr) (g : GA) : Prop := PAT X es (upA X.K E g)
def DST (X : Cx) (E : XK) (st : Stmt) (g : GS) : Prop := PST X st (upS X.K E g)
def DSsT (X : Cx) (E : XK) (st : List Stmt) (g : GS) : Prop := PSsT X st (upS X.K E g)
def DE1 (X : Cx) (E : XK) (e : Expr) (g : GE) : Prop := PE1 X e (upE X.K E g)
def DA1 (X : Cx) (E : XK) (es : List Expr) (g : GA) : Prop := PA1 X es (upA X.K E g)
def DS1 (X : Cx) (E : XK) (st : Stmt) (g : GS) : Prop := PS1 X st (upS X.K E g)
section
variable {X : Cx} {E : XK} {e a b : Expr} {es : List Expr} {g ga gb : GE} {t : GA} {st : Stmt} {rest : List Stmt} {gs gr : GS} {pos : Pos}
theorem det_of (h : DE X E e g) : DET X E e g := fun pins s σ H Q _ I q => h.run pins s σ H Q I q
theorem dst_of (h : DS X E st gs) : DST X E st gs := PST.of h
theorem dat_nil : DAT X E [] gaNil := fun pos pins s σ H Q _ I q => (da_nil (X := X) (E := E)).run pos pins s σ H Q I q
theorem cons_up {K : PySem.W.Frag} {ge : GE} {t : GA} : ∀ σ H Q, upA K E (gaCons ge t) σ H Q → tCons (upE K E ge) (upA K E t) σ H Q := by
  rintro σ H Q ⟨G, S, ρ, w, kx, k, hr, sr, xl, kl, h⟩
  exact ⟨G, S, ρ, w, kx, _, hr, sr, xl, fun G1 S1 H1 w1 d x x1 hr1 rp h1 => ⟨G1, S1, ρ, w1, kx, _, hr1, sr.mono x1, xl.mono x1, fun G2 S2 H2 w2 ds xs x2 hr2 rp2 h2 => kl _ _ _ _ _ _ (x1.trans x2) hr2 (.cons (rp.mono x2) rp2) h2, h1⟩, h⟩
theorem lst_up {K : PySem.W.Frag} {t : GA} : ∀ σ H Q, upE K E (gLst t) σ H Q → tLst (upA K E t) σ H Q := by
  rintro σ H Q ⟨G, S, ρ, w, kx, k, hr, sr, xl, kl, h⟩
  exact ⟨G, S, ρ, w, kx, _, hr, sr, xl, fun G1 S1 H1 w1 ds xs x1 hr1 rp h1 => ⟨by rw [rp.length]; exact h1.1, (kl.mono x1).newL hr1 rp h1.2⟩, h⟩
theorem dat_cons (ha : DET X E e g) (hr : DAT X E es t) (hs : starEach (e :: es) X.env = (false, eval e X.env) :: starEach es X.env := by rfl) : DAT X E (e :: es) (gaCons g t) :=
  fun pos pins s σ H Q h0 I q => pat_cons ha hr hs pos pins s σ H Q h0 I (cons_up _ _ _ q)
theorem det_lst (h : DAT X E es t) : DET X E (.List es pos) (gLst t) := fun pins s σ H Q h0 I q => pet_lst h pins s σ H Q h0 I (lst_up _ _ _ q)
theorem det_add (ha : DET X E a ga) (hb : DET X E b gb) : DET X E (.BinOp a .Add b pos) (gBin addD ga gb) := fun pins s σ H Q h0 I q => CwR.pet_op op_addD ha hb pins s σ H Q h0 I (bin_up ok_addD _ _ _ q)
theorem det_repl {y z : Str} {j k : Nat} {c0 c1 apos : Pos} (ho : DE X E e g) (hyz : (y == z) = false)
    (hst : starEach [.Constant (.str y) j c0, .Constant (.str z) k c1] X.env = [(false, eval (.Constant (.str y) j c0) X.env), (false, eval (.Constant (.str z) k c1) X.env)])
    (hbase : attributeBase e "replace" X.env (eval e X.env) = eval e X.env) (hline : (apos.endLine == pos.line) = true) :
    DET X E (.Call (.Attribute e "replace" apos) [.Constant (.str y) j c0, .Constant (.str z) k c1] [] pos) (gRepl y z g) := by
  intro pins s σ H Q h0 I q
  refine CwR.pet_replC (to := upE X.K E g) ho hyz hst hbase hline pins s σ H Q h0 I ?_
  obtain ⟨G, S, ρ, w, kx, k, hr, sr, xl, kl, h⟩ := q
  refine ⟨G, S, ρ, w, kx, _, hr, sr, xl, fun G1 S1 H1 w1 d v x1 hr1 rp h1 => ?_, h⟩
  cases rp with
  | str x => exact ⟨x, rfl, h1.1, (kl.mono x1).here hr1 (.str _) h1.2⟩
  | _ => exact h1.elim
theorem dst_set {i : Nat} {x : Str} {pos' : Pos} (hN : X.N.Nodup) (hi : X.N[i]? = some x) (hx : Loc X.env.scope x) (he : DET X E e g) (hs : swapsWith e (some (.Name x pos')) pos.line X.env = pure false := by rfl) (hf : X.fn x = true ∨ X.env.scope.names.lookup x = some .local := by first | exact .inl rfl | exact .inr rfl | assumption) :
    DST X E (.Assign [.Name x pos'] e pos) (gSet i g) := fun pins s σ H D h0 I q => pst_set hN hi hx he hs hf pins s σ H D h0 I (set_up _ _ _ q)
theorem dsst_cons (h1 : DST X E st gs) (h2 : DSsT X E rest gr) : DSsT X E (st :: rest) (gSeq gs gr) := fun pins s σ H D h0 I q => by
  refine psst_cons h1 h2 pins s σ H D h0 I ?_
  obtain ⟨G, S, ρ, w, F, hr, sr, el, h⟩ := q
  exact ⟨G, S, ρ, w, { F with nx := gr F }, hr, sr, el_seq el gr, h⟩
theorem dsst_of (h : DSs X E rest gr) : DSsT X E rest gr := PSsT.of h
theorem dss_tok (h1 : DS1 X E st gs) (h2 : DSsT X E rest gr) : DSs X E (st :: rest) (gSeq gs gr) := pss_imp (pss_tok h1 h2) (by
  rintro D σ H ⟨G, S, ρ, w, F, hr, sr, el, h⟩
  exact ⟨G, S, ρ, w, { F with nx := gr F }, hr, sr, el_seq el gr, h⟩)
theorem de1_str {x : Str} {j : Nat} : DE1 X E (.Constant (.str x) j pos) (gC (.str x)) := fun pins s σ H Q I q => by
  refine pe1_str pins s σ H Q I ?_
  obtain ⟨G, S, ρ, w, kx, k, hr, sr, xl, kl, h⟩ := q
  exact kl _ _ _ _ _ _ (Ext.refl _ _) hr (.str x) h
theorem de1_add (ha : DE1 X E a ga) (hb : DE X E b gb) : DE1 X E (.BinOp a .Add b pos) (gBin addD ga gb) := fun pins s σ H Q I q => pe1_op op_addD ha hb pins s σ H Q I (bin_up ok_addD _ _ _ q)
theorem da1_here (ha : DE1 X E e g) (hr : DA X E es t) (hs : starEach (e :: es) X.env = (false, eval e X.env) :: starEach es X.env := by rfl) : DA1 X E (e :: es) (gaCons g t) :=
  fun pos pins s σ H Q I q => pa1_here ha hr hs pos pins s σ H Q I (cons_up _ _ _ q)
theorem da1_skip (ha : DE X E e g) (hr : DA1 X E es t) (hs : starEach (e :: es) X.env = (false, eval e X.env) :: starEach es X.env := by rfl) : DA1 X E (e :: es) (gaCons g t) :=
  fun pos pins s σ H Q I q => pa1_skip ha hr hs pos pins s σ H Q I (cons_up _ _ _ q)
theorem de1_lst (h : DA1 X E es t) : DE1 X E (.List es pos) (gLst t) := fun pins s σ H Q I q => pe1_lst h pins s σ H Q I (lst_up _ _ _ q)
theorem ds1_set {i : Nat} {x : Str} {pos' : Pos} (hN : X.N.Nodup) (hi : X.N[i]? = some x) (hx : Loc X.env.scope x) (he : DE1 X E e g) (hs : swapsWith e (some (.Name x pos')) pos.line X.env = pure false := by rfl) (hf : X.fn x = true ∨ X.env.scope.names.lookup x = some .local := by first | exact .inl rfl | exact .inr rfl | assumption) :
    DS1 X E (.Assign [.Name x pos'] e pos) (gSet i g) := fun pins s σ H D I q => ps1_set hN hi hx he hs hf pins s σ H D I (set_up _ _ _ q)
theorem de_mulT (ha : DE X E a ga) (hb : DE X E b gb) : DE X E (.BinOp a .Mult b pos) (gBin mulTD ga gb) := de_bin op_mulT ok_mulTD ha hb
end
end DL

namespace LW
open PySem PySem.Spec PyProof.Rows L2 RZ DL
def topS (i : Nat) : Stmt := PySem.Challenge.pw_royaltree_k05_texts_that_are_no_fraction.main.body.getD i (.Pass ⟨0, 0, 0, 0⟩)

/-! ### fractions -/
theorem fmod_nat (x m : Nat) : (x : Int).fmod (m : Int) = ((x % m : Nat) : Int) := by
  rw [Int.fmod_eq_emod_of_nonneg _ (by omega)]
  rfl
/-- the divisor with below's sign -/
def sg (t b : Int) : Int := if b < 0 then -(Int.gcd t b : Int) else (Int.gcd t b : Int)
def frT (t b : Int) : Int := t / sg t b
def frB (t b : Int) : Int := b / sg t b
structure IsFr (t b p q : Int) : Prop where
  pos : 0 < q
  cop : Int.gcd p q = 1
  eq : p * b = t * q
theorem gcd_pos {t b : Int} (h : b ≠ 0) : 0 < Int.gcd t b := Int.gcd_pos_of_ne_zero_right t h
theorem sg_dvd (t b : Int) : sg t b ∣ t ∧ sg t b ∣ b := by
  unfold sg
  split
  · exact ⟨Int.neg_dvd.mpr (Int.gcd_dvd_left t b), Int.neg_dvd.mpr (Int.gcd_dvd_right t b)⟩
  · exact ⟨Int.gcd_dvd_left t b, Int.gcd_dvd_right t b⟩
theorem sg_ne {t b : Int} (h : b ≠ 0) : sg t b ≠ 0 := by
  have := gcd_pos (t := t) h
  unfold sg
  split <;> omega
theorem fr_mul (t b : Int) : frT t b * sg t b = t ∧ frB t b * sg t b = b := ⟨Int.ediv_mul_cancel (sg_dvd t b).1, Int.ediv_mul_cancel (sg_dvd t b).2⟩
theorem fr_is {t b : Int} (h : b ≠ 0) : IsFr t b (frT t b) (frB t b) := by
  obtain ⟨e1, e2⟩ := fr_mul t b
  have g0 := gcd_pos (t := t) h
  have ns := sg_ne (t := t) h
  refine ⟨?_, ?_, ?_⟩
  · by_cases hb : b < 0
    · have hs : sg t b < 0 := by
        unfold sg
        rw [if_pos hb]
        omega
      refine Int.pos_of_mul_neg_right ?_ hs |> fun z => z
      rw [Int.mul_comm, e2]
      exact hb
    · have hs : 0 < sg t b := by
        unfold sg
        rw [if_neg hb]
        omega
      refine Int.pos_of_mul_pos_right ?_ hs |> fun z => z
      rw [Int.mul_comm, e2]
      omega
  · have e : Int.gcd t b = Int.gcd (frT t b) (frB t b) * (sg t b).natAbs := by
      have q : Int.gcd (frT t b * sg t b) (frB t b * sg t b) = Int.gcd (frT t b) (frB t b) * (sg t b).natAbs := Int.gcd_mul_right _ _ _
      rw [e1, e2] at q
      exact q
    have e3 : (sg t b).natAbs = Int.gcd t b := by
      unfold sg
      split <;> omega
    rw [e3] at e
    have : Int.gcd (frT t b) (frB t b) * Int.gcd t b = 1 * Int.gcd t b := by omega
    exact Nat.eq_of_mul_eq_mul_right g0 this
  · have : frT t b * b * sg t b = t * frB t b * sg t b := by
      calc frT t b * b * sg t b = (frT t b * sg t b) * b := by ac_rfl
        _ = t * b := by rw [e1]
        _ = t * (frB t b * sg t b) := by rw [e2]
        _ = t * frB t b * sg t b := by ac_rfl
    exact Int.eq_of_mul_eq_mul_right ns this
theorem dvd_cop {q p r : Int} (h : q ∣ p * r) (c : Int.gcd q p = 1) : q ∣ r := by
  have h1 : q.natAbs ∣ p.natAbs * r.natAbs := by
    rw [← Int.natAbs_mul]
    exact Int.natAbs_dvd_natAbs.mpr h
  have c1 : Nat.Coprime q.natAbs p.natAbs := c
  exact Int.natAbs_dvd_natAbs.mp (c1.dvd_of_dvd_mul_left h1)
theorem fr_unique {t b p q p' q' : Int} (hb : b ≠ 0) (h : IsFr t b p q) (h' : IsFr t b p' q') : p = p' ∧ q = q' := by
  have c : p * q' = p' * q := by
    have : p * q' * b = p' * q * b := by
      calc p * q' * b = (p * b) * q' := by ac_rfl
        _ = t * q * q' := by rw [h.eq]
        _ = (t * q') * q := by ac_rfl
        _ = (p' * b) * q := by rw [h'.eq]
        _ = p' * q * b := by ac_rfl
    exact Int.eq_of_mul_eq_mul_right hb this
  have d1 : q ∣ q' := by
    have : q ∣ p * q' := ⟨p', by rw [c, Int.mul_comm]⟩
    exact dvd_cop this (by rw [Int.gcd_comm]; exact h.cop)
  have d2 : q' ∣ q := by
    have : q' ∣ p' * q := ⟨p, by rw [← c, Int.mul_comm]⟩
    exact dvd_cop this (by rw [Int.gcd_comm]; exact h'.cop)
  have e : q = q' := Int.dvd_antisymm (Int.le_of_lt h.pos) (Int.le_of_lt h'.pos) d1 d2
  refine ⟨?_, e⟩
  subst e
  have := h.pos
  exact Int.eq_of_mul_eq_mul_right (by omega) c
theorem fr_eq {t b p q : Int} (hb : b ≠ 0) (h : IsFr t b p q) : frT t b = p ∧ frB t b = q := fr_unique hb (fr_is hb) h
theorem IsFr.self {p q : Int} (h1 : 0 < q) (h2 : Int.gcd p q = 1) : IsFr p q p q := ⟨h1, h2, rfl⟩
theorem fr_le {t b : Int} (hb : b ≠ 0) : (frT t b).natAbs ≤ t.natAbs ∧ (frB t b).natAbs ≤ b.natAbs := by
  obtain ⟨e1, e2⟩ := fr_mul t b
  have ns := sg_ne (t := t) hb
  have h1 : 1 ≤ (sg t b).natAbs := by omega
  have f1 := congrArg Int.natAbs e1
  have f2 := congrArg Int.natAbs e2
  rw [Int.natAbs_mul] at f1 f2
  constructor
  · calc (frT t b).natAbs = (frT t b).natAbs * 1 := by omega
      _ ≤ (frT t b).natAbs * (sg t b).natAbs := Nat.mul_le_mul_left _ h1
      _ = t.natAbs := f1
  · calc (frB t b).natAbs = (frB t b).natAbs * 1 := by omega
      _ ≤ (frB t b).natAbs * (sg t b).natAbs := Nat.mul_le_mul_left _ h1
      _ = b.natAbs := f2
theorem sg_abs (t b : Int) : (sg t b).natAbs = Int.gcd t b := by
  unfold sg
  split <;> omega
theorem gcd_le {t b : Int} (hb : b ≠ 0) : Int.gcd t b ≤ b.natAbs := Nat.le_of_dvd (by omega) (Int.natAbs_dvd_natAbs.mpr (Int.gcd_dvd_right t b) |> fun z => by simpa using z)
theorem log_ok {n : Nat} (h : n < 2 ^ 4000) : n.log2 < 9000 := Nat.lt_trans (PySem.Flt.log2_lt_of (by decide) h) (by decide)
theorem fdiv_dvd {t s : Int} (h : s ∣ t) : t.fdiv s = t / s := Int.fdiv_eq_ediv_of_dvd h

def sp__law_take : GF := gTake
def sp__law_begin : GF := gBegin
abbrev s__law_begin : Stmt := topS 19
theorem sc__law_begin : FnScope ["_law_script", "_law_cells"] ["_law_script"] (defScope s__law_begin) := ⟨rfl, rfl, rfl, by decide +kernel, rfl, by decide +kernel, by decide +kernel⟩

theorem ok__law_begin {P : Program} {w : World} {K : PySem.W.Frag} {mg : Str → Option Value} {base : Heap} (T : DefAt K mg "_law_begin" s__law_begin ["_law_script"]) (B : Blt mg) : FnAt P w K mg base CX0 1 "_law_begin" 1 gBegin := by
  have nd := sc__law_begin.nd
  refine T.mk0 fun f fd F => F.ok sc__law_begin (fun vs H Q E h => ?_) (fun cdv A outer s H vs Q E hr h => ?_)
  · obtain ⟨G, S, ds, w, kx, k, h1, h2, h3, _⟩ := h
    rw [h3.length, h1]
    rfl
  · obtain ⟨G, S, ds, w, kx, k, h1, h2, h3, h4, h5, ns, rfl, hn, hk⟩ := h
    obtain ⟨v, rfl, r⟩ := one_rep h3
    cases r with
    | scr hS =>
      rename_i a
      have hS1 := h2.same.seq hS
      refine ⟨_, pss_cons (ps_set (i := 1) nd rfl (by first | exact Or.inl rfl | exact Or.inr rfl) (pe_callTy call_list_of (by rfl) B.list_ (by decide +kernel) (pa_cons (pe_slice sl_list (pv 0) po_none (po_some pe_int)) pa_nil)))
        (pss_cons (ps_if (pt_cmpR (op_eqD hr.units) (pv 1) (pe_lst pa_nil) (nomark _)) (pss_one (ps_set (i := 1) nd rfl (by first | exact Or.inl rfl | exact Or.inr rfl) (pe_lst (pa_cons pe_int pa_nil)))) pss_nil)
        (pss_one (ps_ret (pe_disp (pps_cons pe_str (pv 1) (pps_cons pe_str pe_int pps_nil)) (by rfl) (by rfl) (by intro z; cases z) (by decide))))), ?_⟩
      -- list(script[:63])
      refine ⟨.ref a, rfl, 63, rfl, a, ns.map V.int, rfl, hS1, fun c1 n1 => ?_⟩
      refine ⟨c1, _, rfl, .inl (.inl (.inl upd_same)), fun c n2 => ?_⟩
      have cv : cutV (ns.map V.int) none (some 63) = (ns.take 63).map V.int := by
        unfold cutV
        rw [HT.sIx_none, show (some (63 : Int)) = some ((63 : Nat) : Int) from rfl, HT.sIx_nat, List.drop_zero, List.map_take, List.length_map, Nat.sub_zero]
        rcases Nat.le_total 63 ns.length with hle | hle
        · rw [Nat.min_eq_left hle]
        · rw [Nat.min_eq_right hle, List.take_of_length_le (by rw [List.length_map]; exact Nat.le_refl _), List.take_of_length_le (by rw [List.length_map]; exact hle)]
      rw [cv] at n2 ⊢
      have hlen : (ns.take 63).length ≤ 63 := by
        rw [List.length_take]
        exact Nat.min_le_left _ _
      clear cv
      generalize ns.take 63 = l at n2 hlen ⊢
      have nc1 : H c1 = none := n1
      have nc : (upd H c1 (.lst (l.map V.int))) c = none := n2
      have nc0 : H c = none := by
        rw [upd_ne] at nc
        · exact nc
        · intro z
          rw [z, upd_same] at nc
          cases nc
      -- the same heap but the copies
      have fin : ∀ (H3 : Hp) (c : Addr) (cells : List Int), Same H H3 → H c = none → H3 c = some (.lst (cells.map V.int)) → cells ≠ [] → cells.length ≤ 63 → HR K G S w H3 →
          (tRet (tDisp [(tC (.str "cells"), tVar 1), (tC (.str "turn"), tC (.int 0))])) { nx := fun _ H' => Q .non H', rt := Q } [some (.ref a), some (.ref c)] H3 := by
        intro H3 c cells sm hc0 hc3 hne hl63 hr3 p hp
        refine ⟨.ref c, rfl, upd_same, [(.inr "cells", .ref c), (.inr "turn", .int 0)], rfl, (by show 2 ≤ 15; decide), ?_⟩
        have em : mergeK [] [((Sum.inr ("cells" : Str) : Key), V.ref c), ((Sum.inr ("turn" : Str) : Key), V.int 0)] = stKv c 0 := by
          show putK (putK [] (Sum.inr ("cells" : Str) : Key) (V.ref c)) (Sum.inr ("turn" : Str) : Key) (V.int 0) = stKv c 0
          rw [putK_new (V.ref c) (valV_nil), List.nil_append, putK_new (V.int 0) (by rw [valV_neg key_ne, valV_nil])]
          rfl
        have ncp : c ≠ p := ne_of_none hc3 hp
        have e1 : upd (upd H3 p (.dK [])) p (.dK (mergeK [] [((Sum.inr ("cells" : Str) : Key), V.ref c), ((Sum.inr ("turn" : Str) : Key), V.int 0)])) = upd H3 p (.dK (stKv c 0)) := by
          rw [upd_upd, em]
        show Q (.ref p) (upd (upd H3 p (.dK [])) p (.dK (mergeK [] [((Sum.inr ("cells" : Str) : Key), V.ref c), ((Sum.inr ("turn" : Str) : Key), V.int 0)])))
        rw [e1]
        have hr4 := (hr3.push (o := .dK (stKv c 0)) hp).1
        -- out of the frame again
        have hr5 : HR K G S w (upd H3 p (.dK (stKv c 0))) := ⟨hr4.same, hr4.len, hr4.nod, fun i b cc e1 e2 => by
            have q := hr3.cell i b cc e1 e2
            exact q.mono (Ext.refl _ _) (upd_ne (fun z => hr3.freshAl hp (z ▸ List.mem_of_getElem? e1))) q.sNone, ⟨hr4.st.1, fun b cc e => by
            obtain ⟨y1, y2, y3, y4, y5, y6, y7⟩ := hr4.st.2 b cc e
            exact ⟨y1, y2, y3, y4, y5, fun q hq => y6 q (List.mem_cons_of_mem _ hq), y7⟩⟩, fun q hq => by
            obtain ⟨y1, y2, y3⟩ := hr3.fr q hq
            exact ⟨y1, y2, by rw [upd_ne (hr3.freshFr hp q hq)]; exact y3⟩⟩
        obtain ⟨hr6, x6⟩ := hr5.made hn (c := c) (a := p) (cells := cells) (by rw [upd_ne ncp]; exact hc3) ⟨h2.freshS hc0, h2.freshAl hc0, h2.freshFr hc0⟩ upd_same ⟨hr3.freshS hp, hr3.freshAl hp, hr3.freshFr hp⟩ ncp.symm hne hl63
        exact h5 _ _ _ _ _ _ x6 hr6 (.st rfl) hk
      have hrN : ∀ {H3 : Hp} {p : Addr} {o : HO}, HR K G S w H3 → H3 p = none → HR K G S w (upd H3 p o) := fun {H3 p o} hr3 hp => by
        have hr4 := (hr3.push (o := o) hp).1
        exact ⟨hr4.same, hr4.len, hr4.nod, fun i b cc e1 e2 => by
            have q := hr3.cell i b cc e1 e2
            exact q.mono (Ext.refl _ _) (upd_ne (fun z => hr3.freshAl hp (z ▸ List.mem_of_getElem? e1))) q.sNone, ⟨hr4.st.1, fun b cc e => by
            obtain ⟨y1, y2, y3, y4, y5, y6, y7⟩ := hr4.st.2 b cc e
            exact ⟨y1, y2, y3, y4, y5, fun q hq => y6 q (List.mem_cons_of_mem _ hq), y7⟩⟩, fun q hq => by
            obtain ⟨y1, y2, y3⟩ := hr3.fr q hq
            exact ⟨y1, y2, by rw [upd_ne (hr3.freshFr hp q hq)]; exact y3⟩⟩
      have hr1 := hrN (o := .lst (l.map V.int)) h2 nc1
      have hr2 := hrN (o := .lst (l.map V.int)) hr1 nc
      have sm1 : Same H (upd (upd H c1 (.lst (l.map V.int))) c (.lst (l.map V.int))) := fun b o e => by
        rw [upd_ne (ne_of_none e nc0), upd_ne (ne_of_none e nc1)]
        exact e
      have dp : ∀ (l : List Int) (H3 : Hp) (b : Addr), H3 b = some (.lst (l.map V.int)) → Dp K H3 (.ref b) (.list (l.map PyData.int)) := fun l H3 b e => by
        refine .lst (.inl (.inl e)) ?_
        clear e
        induction l with
        | nil => exact .nil
        | cons x r ih => exact .cons (.int x) ih
      -- cells == []
      refine ⟨.ref c, rfl, Nat.zero_le _, fun e n3 => ?_⟩
      have nce : c ≠ e := fun z => by
        have q := n3
        rw [← z, upd_same] at q
        cases q
      have hc3 : (upd (upd (upd H c1 (.lst (l.map V.int))) c (.lst (l.map V.int))) e (.lst [])) c = some (.lst (l.map V.int)) := by
        rw [upd_ne nce, upd_same]
      have hr3 := hrN (o := .lst []) hr2 n3
      have sm2 : Same H (upd (upd (upd H c1 (.lst (l.map V.int))) c (.lst (l.map V.int))) e (.lst [])) := fun b o eb => by
        rw [upd_ne (ne_of_none (sm1 b o eb) n3)]
        exact sm1 b o eb
      refine ⟨_, _, dp l _ c hc3, dp [] _ e upd_same, ?_, rfl, _, rfl, ?_⟩
      · exact shaped_ints _
      · cases l with
        | nil =>
          refine iteT ⟨by decide, fun d n4 => ?_⟩
          refine fin _ d [7] (fun b o eb => ?_) ?_ upd_same (by intro z; cases z) (by decide) (hrN hr3 n4)
          · rw [upd_ne (ne_of_none (sm2 b o eb) n4)]
            exact sm2 b o eb
          · cases q : H d with
            | none => rfl
            | some o =>
              have := sm2 d o q
              rw [n4] at this
              cases this
        | cons x r =>
          exact iteF (fin _ c (x :: r) sm2 nc0 hc3 (by intro z; cases z) hlen hr3)

abbrev s__law_take : Stmt := topS 20
theorem sc__law_take : FnScope ["_law_state", "_law_many", "_law_turn", "_law_place", "_law_cell", "_law_digit", "_law_mixed"] ["_law_state", "_law_many"] (defScope s__law_take) := ⟨rfl, rfl, rfl, by decide +kernel, rfl, by decide +kernel, by decide +kernel⟩

theorem ok__law_take {P : Program} {w : World} {K : PySem.W.Frag} {mg : Str → Option Value} {base : Heap} (T : DefAt K mg "_law_take" s__law_take ["_law_state", "_law_many"]) (B : Blt mg) : FnAt P w K mg base CX0 1 "_law_take" 2 gTake := by
  have nd := sc__law_take.nd
  refine T.mk0 fun f fd F => F.ok sc__law_take (fun vs H Q E h => ?_) (fun cdv A outer s H vs Q E hr h => ?_)
  · obtain ⟨G, S, ds, w, kx, k, h1, h2, h3, _⟩ := h
    rw [h3.length, h1]
    rfl
  · obtain ⟨G, S, ds, w, kx, k, h1, h2, h3, h4, h5, m, n, rfl, ⟨hm0, hm9⟩, hn, hk⟩ := h
    obtain ⟨v, u, rfl, r1, r2⟩ := two_rep h3
    cases r2
    cases r1 with
    | st hst =>
      rename_i a c
      obtain ⟨z1, z2, z3, z4, z5, z6, cells, turn, ha, hc, hne, hl63, ht0, htn⟩ := h2.st.2 a c hst
      rw [hn] at htn
      have htn' : turn + ((n + 1 : Nat) : Int) ≤ 1000000000 := htn
      have hu := hu_of hr
      have ha' : H a = some (.dK (stKv c turn)) := ha
      refine ⟨_, pss_cons (ps_set (i := 2) nd rfl (by first | exact Or.inl rfl | exact Or.inr rfl) (pe_op op_add (pe_dget hu (pv 0) pe_str (fun _ _ => rfl)) pe_int))
        (pss_cons (ps_dput hu (pv 0) pe_str (pv 2) (by rfl))
        (pss_cons (ps_set (i := 3) nd rfl (by first | exact Or.inl rfl | exact Or.inr rfl) (pe_op op_mod (pv 2) (pe_callB call_len_seq (by rfl) B.len_ PySem.boot_len (pa_cons (pe_dget hu (pv 0) pe_str (fun _ _ => rfl)) pa_nil))))
        (pss_cons (ps_set (i := 4) nd rfl (by first | exact Or.inl rfl | exact Or.inr rfl) (pe_ix ix_list (pe_dget hu (pv 0) pe_str (fun _ _ => rfl)) (pv 3) (fun _ _ => rfl)))
        (pss_cons (ps_if (pt_cmpR op_ge (pv 4) (pe_op op_pow pe_int pe_int) (nomark _))
          (pss_cons (ps_asg (pe_callB call_divmodW (by rfl) B.divmod_ (by decide +kernel) (pa_cons (pv 4) (pa_cons (pv 1) pa_nil))) (pg_tup rfl (pgs_cons (pg_sub (pe_dget hu (pv 0) pe_str (fun _ _ => rfl)) (pv 3) set_list) (pgs_cons (pg_name (i := 5) nd rfl (by first | exact Or.inl rfl | exact Or.inr rfl)) pgs_nil))))
            (pss_one (ps_ret (pv 5)))) pss_nil)
        (pss_cons (ps_set (i := 6) nd rfl (by first | exact Or.inl rfl | exact Or.inr rfl) (pe_op op_mod (pe_op op_mulX (pe_op op_add (pe_op op_add (pe_op op_mod (pv 4) pe_int) (pe_op op_mulX (pe_op op_mulX (pv 2) (pv 2)) pe_int)) pe_int) pe_int) pe_int))
        (pss_cons (ps_set (i := 6) nd rfl (by first | exact Or.inl rfl | exact Or.inr rfl) (pe_op op_mod (pe_op op_mulX (pv 6) (pv 6)) pe_int))
        (pss_one (ps_ret (pe_op op_mod (pe_op op_fdiv (pe_op op_mod (pe_op op_mulX (pe_op op_add (pv 6) (pe_op op_mulX (pv 2) pe_int)) pe_int) pe_int) pe_int) (pv 1)))))))))), ?_⟩
      have gT : DGet H a (.str "turn") (some (.int turn)) := by
        have q := DGet.k (k := .inr "turn") ha'
        rw [st_turn] at q
        exact q
      -- turn = state['turn'] + 1; state['turn'] = turn
      refine ⟨.ref a, rfl, a, .int turn, rfl, gT, turn, 1, rfl, rfl, ?_⟩
      refine ⟨.int (turn + 1), rfl, .ref a, rfl, a, _, rfl, DPut.k (k := .inr "turn") ha' (by show 2 < sizeLine; decide), ?_⟩
      rw [st_put]
      have hr1 : HR K G S ⟨w.M, some n⟩ (upd H a (.dK (stKv c (turn + 1)))) := h2.drawn hst (fun b b1 _ => upd_ne b1) upd_same (by rw [upd_ne (Ne.symm z3)]; exact hc) hne hl63 (by omega) (by omega)
      have ea1 : (upd H a (.dK (stKv c (turn + 1)))) a = some (.dK (stKv c (turn + 1))) := upd_same
      have ec1 : (upd H a (.dK (stKv c (turn + 1)))) c = some (.lst (cells.map V.int)) := by
        rw [upd_ne (Ne.symm z3)]
        exact hc
      generalize upd H a (.dK (stKv c (turn + 1))) = H1 at hr1 ea1 ec1
      have gC : ∀ {H2 : Hp}, H2 a = some (.dK (stKv c (turn + 1))) → DGet H2 a (.str "cells") (some (.ref c)) := fun {H2} e => by
        have q := DGet.k (k := .inr "cells") e
        rw [st_cells] at q
        exact q
      have hlc : 0 < cells.length := List.length_pos_iff.mpr hne
      -- place = turn % len(state['cells'])
      refine ⟨.int (turn + 1), rfl, .ref a, rfl, a, _, rfl, gC ea1, c, _, rfl, .inl (.inl (.inl ec1)), turn + 1, _, rfl, rfl, by rw [List.length_map]; omega, ?_⟩
      rw [List.length_map]
      obtain ⟨j, hj, hjl⟩ : ∃ j : Nat, (turn + 1) % (cells.length : Int) = (j : Int) ∧ j < cells.length := by
        have p1 := Int.emod_nonneg (turn + 1) (b := (cells.length : Int)) (by omega)
        have p2 := Int.emod_lt_of_pos (turn + 1) (b := (cells.length : Int)) (by omega)
        exact ⟨((turn + 1) % (cells.length : Int)).toNat, by omega, by omega⟩
      dsimp only
      rw [hj]
      have hcj : (cells.map V.int)[j]? = some (.int cells[j]) := by
        rw [List.getElem?_map, List.getElem?_eq_getElem hjl]
        rfl
      generalize hcell : cells[j] = cell at hcj
      -- cell = state['cells'][place]
      refine ⟨.ref a, rfl, a, _, rfl, gC ea1, .int (j : Int), rfl, c, _, (j : Int), _, rfl, rfl, .inl (.inl ec1), atI_nat hcj, ?_⟩
      refine ⟨.int cell, rfl, 10, 18, rfl, rfl, ⟨by decide, by decide, by decide⟩, cell, _, rfl, rfl, _, rfl, ite2 (fun _ => ?_) (fun _ => ?_)⟩
      · -- a digit
        refine ⟨.int cell, rfl, .int m, rfl, cell, m, rfl, ⟨hm0, PyProof.noPylong_of_log2 hm9⟩, fun p hp => ?_⟩
        obtain ⟨hr2, x2⟩ := hr1.newS hp (.tup [.int (cell / m), .int (cell % m)])
        have nap : a ≠ p := ne_of_none ea1 hp
        have ncp : c ≠ p := ne_of_none ec1 hp
        have ea2 : (upd H1 p (.tup [.int (cell / m), .int (cell % m)])) a = some (.dK (stKv c (turn + 1))) := by
          rw [upd_ne nap]
          exact ea1
        have ec2 : (upd H1 p (.tup [.int (cell / m), .int (cell % m)])) c = some (.lst (cells.map V.int)) := by
          rw [upd_ne ncp]
          exact ec1
        have ep2 : (upd H1 p (.tup [.int (cell / m), .int (cell % m)])) p = some (.tup [.int (cell / m), .int (cell % m)]) := upd_same
        refine ⟨p, [.int (cell / m), .int (cell % m)], rfl, .inl (.inl upd_same), rfl, ?_⟩
        generalize upd H1 p (.tup [.int (cell / m), .int (cell % m)]) = H2 at hr2 ea2 ec2 ep2
        refine ⟨_, _, rfl, .ref a, rfl, a, _, rfl, gC ea2, .int (j : Int), rfl, c, _, (j : Int), j, rfl, rfl, ec2, ?_, ?_⟩
        · show L2.ixN _ (j : Int) = some j
          unfold L2.ixN
          rw [if_pos (by omega), if_pos (by rw [List.length_map]; omega)]
          rfl
        refine ⟨_, _, rfl, rfl, .int (cell % m), rfl, ?_⟩
        have es : (cells.map V.int).set j (.int (cell / m)) = (cells.set j (cell / m)).map V.int := by rw [List.map_set]
        have hst2 : (⟨G.al, G.st, G.fr⟩ : Gh).st = some (a, c) := hst
        have hr3 : HR K G (upd S p (.tup [.int (cell / m), .int (cell % m)])) ⟨w.M, some n⟩ (upd H2 c (.lst ((cells.set j (cell / m)).map V.int))) :=
          hr2.drawn hst (fun b _ b2 => upd_ne b2) (by rw [upd_ne z3]; exact ea2) upd_same (by intro z; have := congrArg List.length z; rw [List.length_set] at this; simp at this; exact hne this) (by rw [List.length_set]; exact hl63) (by omega) (by omega)
        rw [es]
        exact h5 _ _ _ _ _ _ x2 hr3 (.int _) (hk _ (Int.emod_nonneg _ (by omega)) (Int.emod_lt_of_pos _ hm0))
      · have a0 := Int.emod_nonneg cell (b := 2147483629) (by decide)
        have a1 := Int.emod_lt_of_pos cell (b := 2147483629) (by decide)
        have t1 : (turn + 1).natAbs < 2 ^ 30 := by omega
        have t2 : ((turn + 1) * (turn + 1)).natAbs < 2 ^ 60 := wide_lt (a := 30) (b := 30) t1 t1
        have t3 : ((turn + 1) * (turn + 1) * 7919).natAbs < 2 ^ 73 := wide_lt (a := 60) (b := 13) t2 (by decide)
        refine ⟨.int cell, rfl, cell, 2147483629, rfl, rfl, (by show (0 : Int) < 2147483629; decide), .int (turn + 1), rfl, .int (turn + 1), rfl, turn + 1, turn + 1, rfl, rfl, mulx_ok t1 t1 (by decide), _, 7919, rfl, rfl, mulx_ok (a := 60) (b := 13) t2 (by decide) (by decide), _, _, rfl, rfl, _, 11, rfl, rfl, _, 48271, rfl, rfl, mulx_ok (a := 75) (b := 16) ?_ (by decide) (by decide), _, 2147483647, rfl, rfl, (by show (0 : Int) < 2147483647; decide), ?_⟩
        · generalize cell % 2147483629 = A at a0 a1 ⊢
          generalize (turn + 1) * (turn + 1) * 7919 = B at t3 ⊢
          omega
        dsimp only
        have b0 := Int.emod_nonneg ((cell % 2147483629 + (turn + 1) * (turn + 1) * 7919 + 11) * 48271) (b := 2147483647) (by decide)
        have b1 := Int.emod_lt_of_pos ((cell % 2147483629 + (turn + 1) * (turn + 1) * 7919 + 11) * 48271) (b := 2147483647) (by decide)
        generalize (cell % 2147483629 + (turn + 1) * (turn + 1) * 7919 + 11) * 48271 % 2147483647 = M1 at b0 b1 ⊢
        refine ⟨.int M1, rfl, .int M1, rfl, M1, M1, rfl, rfl, mulx_ok (a := 32) (b := 32) (by omega) (by omega) (by decide), _, 2147483587, rfl, rfl, (by show (0 : Int) < 2147483587; decide), ?_⟩
        dsimp only
        have c0 := Int.emod_nonneg (M1 * M1) (b := 2147483587) (by decide)
        have c1 := Int.emod_lt_of_pos (M1 * M1) (b := 2147483587) (by decide)
        generalize M1 * M1 % 2147483587 = M2 at c0 c1 ⊢
        refine ⟨.int M2, rfl, .int (turn + 1), rfl, turn + 1, 104729, rfl, rfl, mulx_ok (b := 17) t1 (by decide) (by decide), M2, _, rfl, rfl, _, 39373, rfl, rfl, mulx_ok (a := 64) (b := 16) (by omega) (by decide) (by decide), _, 2147483629, rfl, rfl, (by show (0 : Int) < 2147483629; decide), _, 64, rfl, rfl, ⟨by decide, by decide⟩, .int m, rfl, _, m, rfl, rfl, hm0, ?_⟩
        exact h5 _ _ _ _ _ _ (Ext.refl _ _) hr1 (.int _) (hk _ (Int.emod_nonneg _ (by omega)) (Int.emod_lt_of_pos _ hm0))

def sp__law_same : GF := gSame 6
abbrev s__law_same : Stmt := topS 21
theorem sc__law_same : FnScope ["_law_found", "_law_due", "_law_one", "_law_other"] ["_law_found", "_law_due"] (defScope s__law_same) := ⟨rfl, rfl, rfl, by decide +kernel, rfl, by decide +kernel, by decide +kernel⟩
def g__law_same (sp_rec : GF) : GS := (gSeq (gIfS (gB (gBin isD (gVar 1) (gC .non))) (gRet (gBin isD (gVar 0) (gC .non))) gNext)
  (gSeq (gIfS (gOr (gTru (gCB fIsi (gaCons (gVar 1) (gaCons (gC (.ob (.ty "list"))) gaNil)))) (gTru (gCB fIsi (gaCons (gVar 1) (gaCons (gC (.ob (.ty "tuple"))) gaNil))))) (gSeq (gIfS (gB (gBin neD (gCB fIsi (gaCons (gVar 0) (gaCons (gC (.ob (.ty "list"))) gaNil))) (gCB fIsi (gaCons (gVar 1) (gaCons (gC (.ob (.ty "list"))) gaNil))))) (gRet (gC (.bl false))) gNext)
  (gSeq (gIfS (gOr (gB (gBin neD (gCB fIsi (gaCons (gVar 0) (gaCons (gC (.ob (.ty "tuple"))) gaNil))) (gCB fIsi (gaCons (gVar 1) (gaCons (gC (.ob (.ty "tuple"))) gaNil))))) (gB (gBin neD (gCB fLen (gaCons (gVar 0) gaNil)) (gCB fLen (gaCons (gVar 1) gaNil))))) (gRet (gC (.bl false))) gNext)
  (gRet (gCB fAll (gaCons (gLc (giZip (gaCons (gVar 0) (gaCons (gVar 1) gaNil))) (ggTup 2 (ggCons (ggName 2) (ggCons (ggName 3) ggNil))) gYes (gCall0 2 sp_rec (gaCons (gVar 2) (gaCons (gVar 3) gaNil))) [2, 3]) gaNil))))) gNext)
  (gSeq (gIfS (gTru (gCB fIsi (gaCons (gVar 1) (gaCons (gC (.ob (.ty "str"))) gaNil)))) (gRet (gAndV (gCB fIsi (gaCons (gVar 0) (gaCons (gC (.ob (.ty "str"))) gaNil))) (gBin eqD (gVar 0) (gVar 1)))) gNext)
  (gRet (gAndV (gCB fIsi (gaCons (gVar 0) (gaCons (gC (.ob (.ty "int"))) gaNil))) (gAndV (gNotV (gCB fIsi (gaCons (gVar 0) (gaCons (gC (.ob (.ty "bool"))) gaNil)))) (gBin eqD (gVar 0) (gVar 1))))))))
theorem w__law_same {P : Program} {w : World} {K : PySem.W.Frag} {mg : Str → Option Value} {base : Heap} (T : DefAt K mg "_law_same" s__law_same ["_law_found", "_law_due"]) (B : Blt mg) {j : Nat} {sp_rec : GF} (F_rec : FnAt P w K mg base CX0 j "_law_same" 2 sp_rec) : FnAt P w K mg base CX0 (j + 1) "_law_same" 2 (sem0 4 (g__law_same sp_rec)) := by
  have nd := sc__law_same.nd
  exact T.fn0 sc__law_same (fun f cdv A outer s H E hr => (dss_cons (ds_if (dt_is (de_var 1) de_non) (dss_one (ds_ret (de_is (de_var 0) de_non))) dss_nil)
  (dss_cons (ds_if (dt_w (dw_or (dt_truth (de_isi B (by rfl) (da_cons (de_var 1) (da_cons (de_type (by rfl) B.list_ (by decide +kernel)) da_nil)))) (dw_or1 (dt_truth (de_isi B (by rfl) (da_cons (de_var 1) (da_cons (de_type (by rfl) B.tuple_ (by decide +kernel)) da_nil))))))) (dss_cons (ds_if (dt_ne hr (de_isi B (by rfl) (da_cons (de_var 0) (da_cons (de_type (by rfl) B.list_ (by decide +kernel)) da_nil))) (de_isi B (by rfl) (da_cons (de_var 1) (da_cons (de_type (by rfl) B.list_ (by decide +kernel)) da_nil)))) (dss_one (ds_ret de_bl)) dss_nil)
  (dss_cons (ds_if (dt_w (dw_or (dt_ne hr (de_isi B (by rfl) (da_cons (de_var 0) (da_cons (de_type (by rfl) B.tuple_ (by decide +kernel)) da_nil))) (de_isi B (by rfl) (da_cons (de_var 1) (da_cons (de_type (by rfl) B.tuple_ (by decide +kernel)) da_nil)))) (dw_or1 (dt_ne hr (de_len B (by rfl) (da_cons (de_var 0) da_nil)) (de_len B (by rfl) (da_cons (de_var 1) da_nil)))))) (dss_one (ds_ret de_bl)) dss_nil)
  (dss_one (ds_ret (de_all B rfl (by rfl) (da_cons (de_lc (own := [("_law_one", 2), ("_law_other", 3)]) (us := [2, 3]) rfl nd (di_zip B (by rfl) (da_cons (de_var 0) (da_cons (de_var 1) da_nil))) (blkOk_by (N := ["_law_found", "_law_due", "_law_one", "_law_other"]) (sc := defScope s__law_same) (by decide +kernel)) (by decide) (fun _ _ _ _ _ => (dg_tup rfl (dgs_cons (dg_name (i := 2) nd rfl (by first | exact Or.inl rfl | exact Or.inr rfl)) (dgs_cons (dg_name (i := 3) nd rfl (by first | exact Or.inl rfl | exact Or.inr rfl)) dgs_nil)))) (fun _ _ _ _ _ => dts_nil) (fun _ _ _ _ _ => (de_call0 F_rec hr (by rfl) (da_cons (de_var 2) (da_cons (de_var 3) da_nil)) (hjk := Nat.le_refl _)))) da_nil)))))) dss_nil)
  (dss_cons (ds_if (dt_truth (de_isi B (by rfl) (da_cons (de_var 1) (da_cons (de_type (by rfl) B.str_ (by decide +kernel)) da_nil)))) (dss_one (ds_ret (de_and (de_isi B (by rfl) (da_cons (de_var 0) (da_cons (de_type (by rfl) B.str_ (by decide +kernel)) da_nil))) (de_one (de_eq hr (de_var 0) (de_var 1)))))) dss_nil)
  (dss_one (ds_ret (de_and (de_isi B (by rfl) (da_cons (de_var 0) (da_cons (de_type (by rfl) B.int_ (by decide +kernel)) da_nil))) (de_and (de_not (de_isi B (by rfl) (da_cons (de_var 0) (da_cons (de_type (by rfl) B.bool_ (by decide +kernel)) da_nil)))) (de_one (de_eq hr (de_var 0) (de_var 1)))))))))))

theorem v__law_same (j : Nat) : ∀ ds w kx k, gSame (j + 1) ds w kx k → sem0 4 (g__law_same (gSame j)) ds w kx k := by
  rintro ds w kx k ⟨a, b, rfl, ⟨ha, hb, hd, wa, wb⟩, hk⟩
  have e : rho 4 [a, b] = [some a, some b, none, none] := rfl
  simp only [g__law_same, e, sem0, List.map_cons, List.map_nil, List.length_cons, List.length_nil, gSeq, gNext, gRet, gRetN, gIfS, gSet, gPar, gAsg, gDrop, gVar, gC, gBin, gUn, gB, gTru, gAnd, gOr, gNot, gAndV, gOrV, gNotV, gIf, gChain, gaNil, gaCons, DL.gTup, gLst, gCB, gCall0, gAug, addD_i, addD_s, addD_l, addD_t, subD_i, mulD_i, mulD_l, fdivD_i, modD_i, powD_i, ltD_i, ltD_s, leD_i, gtD_i, geD_i, isD_n, isnotD_n, isNonD_non, isNonD_bl, isNonD_int, isNonD_str, isNonD_lst, isNonD_tup, negD_i, iaddD_i, truD_non, truD_bl, truD_int, truD_str, truD_lst, truD_tup, someK_some, ixD_l, ixD_t, fAbs_i, fInt_i, fInt_b, fMin2_i, fLen_l, fLen_t, fLen_s, fList_l, fList_t, fTuple_l, fTuple_t, optBK_some, fIsi_non, fIsi_bl, fIsi_int, fIsi_str, fIsi_lst, fIsi_tup, List.getElem?_cons_zero, List.getElem?_cons_succ, List.set_cons_zero, List.set_cons_succ, DL.ggName, ggNil0, ggCons1, ggTup2, ggTup3, gFor, giSeq, gLc, gYes, wipeR, true_and, and_true, at_0, at_1, at_2, kit_int_int, kit_bool_int, kit_str_int, kit_non_int, kit_list_int, kit_tuple_int, kit_int_bool, kit_bool_bool, kit_str_bool, kit_non_bool, kit_list_bool, kit_tuple_bool, kit_int_str, kit_bool_str, kit_str_str, kit_non_str, kit_list_str, kit_tuple_str, kit_int_list, kit_bool_list, kit_str_list, kit_non_list, kit_list_list, kit_tuple_list, kit_int_tuple, kit_bool_tuple, kit_str_tuple, kit_non_tuple, kit_list_tuple, kit_tuple_tuple, eqD_i, neD_i, eqD_s, neD_s, eqD_f, neD_f, Nat.zero_add, Nat.reduceAdd, nc0, nc1, nc2, nc3, nc4, nc5, nc6, nc7, nc8, nc9, eq_self, decide_true, decide_false, Int.reduceEq, Int.reduceLT, Int.reduceLE, Int.reduceNeg, Bool.not_true, Bool.not_false, Bool.false_eq_true, if_true, if_false, ↓reduceIte, false_and, and_false, List.all_cons, List.all_nil, List.any_cons, List.any_nil, id_eq, Bool.and_true, Bool.true_and, Bool.or_false, Bool.false_or, Bool.and_false, Bool.false_and, gCut, eqD_b, neD_b, giZip, reduceCtorEq, Bool.true_eq_false, Bool.false_eq_true, gRevL, gSl, goNone, goSome, slD_l, ne_eq, not_false_eq_true, not_true_eq_false, gBM, isTy_l, isTy_s, new_at, new_set, isTy_new, cellK_new, append_new, popAt_new, gFrz_eq, frzK_new, fLen_new, fTuple_new, ixD_new, slA_l, slA_t, slA_new, addTD_t, addCD_l, mulCD_l, isbD_b, isnotbD_b, mSplitC_s, gLstC, gTr, ggSub, lstK_l, lstK_r, addLD_eq]
  have hT : ∀ {w' : Wd}, w' = w → a = b → k (.bl true) w' := fun hw h => hw ▸ hk true (by simp [h])
  have hF : ∀ {w' : Wd}, w' = w → a ≠ b → k (.bl false) w' := fun hw h => hw ▸ hk false (by simp [h])
  cases b with
  | non =>
    simp only [sem0, List.map_cons, List.map_nil, List.length_cons, List.length_nil, gSeq, gNext, gRet, gRetN, gIfS, gSet, gPar, gAsg, gDrop, gVar, gC, gBin, gUn, gB, gTru, gAnd, gOr, gNot, gAndV, gOrV, gNotV, gIf, gChain, gaNil, gaCons, DL.gTup, gLst, gCB, gCall0, gAug, addD_i, addD_s, addD_l, addD_t, subD_i, mulD_i, mulD_l, fdivD_i, modD_i, powD_i, ltD_i, ltD_s, leD_i, gtD_i, geD_i, isD_n, isnotD_n, isNonD_non, isNonD_bl, isNonD_int, isNonD_str, isNonD_lst, isNonD_tup, negD_i, iaddD_i, truD_non, truD_bl, truD_int, truD_str, truD_lst, truD_tup, someK_some, ixD_l, ixD_t, fAbs_i, fInt_i, fInt_b, fMin2_i, fLen_l, fLen_t, fLen_s, fList_l, fList_t, fTuple_l, fTuple_t, optBK_some, fIsi_non, fIsi_bl, fIsi_int, fIsi_str, fIsi_lst, fIsi_tup, List.getElem?_cons_zero, List.getElem?_cons_succ, List.set_cons_zero, List.set_cons_succ, DL.ggName, ggNil0, ggCons1, ggTup2, ggTup3, gFor, giSeq, gLc, gYes, wipeR, true_and, and_true, at_0, at_1, at_2, kit_int_int, kit_bool_int, kit_str_int, kit_non_int, kit_list_int, kit_tuple_int, kit_int_bool, kit_bool_bool, kit_str_bool, kit_non_bool, kit_list_bool, kit_tuple_bool, kit_int_str, kit_bool_str, kit_str_str, kit_non_str, kit_list_str, kit_tuple_str, kit_int_list, kit_bool_list, kit_str_list, kit_non_list, kit_list_list, kit_tuple_list, kit_int_tuple, kit_bool_tuple, kit_str_tuple, kit_non_tuple, kit_list_tuple, kit_tuple_tuple, eqD_i, neD_i, eqD_s, neD_s, eqD_f, neD_f, Nat.zero_add, Nat.reduceAdd, nc0, nc1, nc2, nc3, nc4, nc5, nc6, nc7, nc8, nc9, eq_self, decide_true, decide_false, Int.reduceEq, Int.reduceLT, Int.reduceLE, Int.reduceNeg, Bool.not_true, Bool.not_false, Bool.false_eq_true, if_true, if_false, ↓reduceIte, false_and, and_false, List.all_cons, List.all_nil, List.any_cons, List.any_nil, id_eq, Bool.and_true, Bool.true_and, Bool.or_false, Bool.false_or, Bool.and_false, Bool.false_and, gCut, eqD_b, neD_b, giZip, reduceCtorEq, Bool.true_eq_false, Bool.false_eq_true, gRevL, gSl, goNone, goSome, slD_l, ne_eq, not_false_eq_true, not_true_eq_false, gBM, isTy_l, isTy_s, new_at, new_set, isTy_new, cellK_new, append_new, popAt_new, gFrz_eq, frzK_new, fLen_new, fTuple_new, ixD_new, slA_l, slA_t, slA_new, addTD_t, addCD_l, mulCD_l, isbD_b, isnotbD_b, mSplitC_s, gLstC, gTr, ggSub, lstK_l, lstK_r, addLD_eq]
    cases a <;> first | exact hT rfl rfl | exact hF rfl (by simp) | simp [okF] at ha
  | bl q => simp [DL.plain] at hb
  | rf q => simp [DL.plain] at hb
  | st => simp [DL.plain] at hb
  | ob q => simp [DL.plain] at hb
  | scr q => simp [DL.plain] at hb
  | int i =>
    simp only [sem0, List.map_cons, List.map_nil, List.length_cons, List.length_nil, gSeq, gNext, gRet, gRetN, gIfS, gSet, gPar, gAsg, gDrop, gVar, gC, gBin, gUn, gB, gTru, gAnd, gOr, gNot, gAndV, gOrV, gNotV, gIf, gChain, gaNil, gaCons, DL.gTup, gLst, gCB, gCall0, gAug, addD_i, addD_s, addD_l, addD_t, subD_i, mulD_i, mulD_l, fdivD_i, modD_i, powD_i, ltD_i, ltD_s, leD_i, gtD_i, geD_i, isD_n, isnotD_n, isNonD_non, isNonD_bl, isNonD_int, isNonD_str, isNonD_lst, isNonD_tup, negD_i, iaddD_i, truD_non, truD_bl, truD_int, truD_str, truD_lst, truD_tup, someK_some, ixD_l, ixD_t, fAbs_i, fInt_i, fInt_b, fMin2_i, fLen_l, fLen_t, fLen_s, fList_l, fList_t, fTuple_l, fTuple_t, optBK_some, fIsi_non, fIsi_bl, fIsi_int, fIsi_str, fIsi_lst, fIsi_tup, List.getElem?_cons_zero, List.getElem?_cons_succ, List.set_cons_zero, List.set_cons_succ, DL.ggName, ggNil0, ggCons1, ggTup2, ggTup3, gFor, giSeq, gLc, gYes, wipeR, true_and, and_true, at_0, at_1, at_2, kit_int_int, kit_bool_int, kit_str_int, kit_non_int, kit_list_int, kit_tuple_int, kit_int_bool, kit_bool_bool, kit_str_bool, kit_non_bool, kit_list_bool, kit_tuple_bool, kit_int_str, kit_bool_str, kit_str_str, kit_non_str, kit_list_str, kit_tuple_str, kit_int_list, kit_bool_list, kit_str_list, kit_non_list, kit_list_list, kit_tuple_list, kit_int_tuple, kit_bool_tuple, kit_str_tuple, kit_non_tuple, kit_list_tuple, kit_tuple_tuple, eqD_i, neD_i, eqD_s, neD_s, eqD_f, neD_f, Nat.zero_add, Nat.reduceAdd, nc0, nc1, nc2, nc3, nc4, nc5, nc6, nc7, nc8, nc9, eq_self, decide_true, decide_false, Int.reduceEq, Int.reduceLT, Int.reduceLE, Int.reduceNeg, Bool.not_true, Bool.not_false, Bool.false_eq_true, if_true, if_false, ↓reduceIte, false_and, and_false, List.all_cons, List.all_nil, List.any_cons, List.any_nil, id_eq, Bool.and_true, Bool.true_and, Bool.or_false, Bool.false_or, Bool.and_false, Bool.false_and, gCut, eqD_b, neD_b, giZip, reduceCtorEq, Bool.true_eq_false, Bool.false_eq_true, gRevL, gSl, goNone, goSome, slD_l, ne_eq, not_false_eq_true, not_true_eq_false, gBM, isTy_l, isTy_s, new_at, new_set, isTy_new, cellK_new, append_new, popAt_new, gFrz_eq, frzK_new, fLen_new, fTuple_new, ixD_new, slA_l, slA_t, slA_new, addTD_t, addCD_l, mulCD_l, isbD_b, isnotbD_b, mSplitC_s, gLstC, gTr, ggSub, lstK_l, lstK_r, addLD_eq]
    cases a <;> (first | (exfalso; simp [okF] at ha; done) | simp only [sem0, List.map_cons, List.map_nil, List.length_cons, List.length_nil, gSeq, gNext, gRet, gRetN, gIfS, gSet, gPar, gAsg, gDrop, gVar, gC, gBin, gUn, gB, gTru, gAnd, gOr, gNot, gAndV, gOrV, gNotV, gIf, gChain, gaNil, gaCons, DL.gTup, gLst, gCB, gCall0, gAug, addD_i, addD_s, addD_l, addD_t, subD_i, mulD_i, mulD_l, fdivD_i, modD_i, powD_i, ltD_i, ltD_s, leD_i, gtD_i, geD_i, isD_n, isnotD_n, isNonD_non, isNonD_bl, isNonD_int, isNonD_str, isNonD_lst, isNonD_tup, negD_i, iaddD_i, truD_non, truD_bl, truD_int, truD_str, truD_lst, truD_tup, someK_some, ixD_l, ixD_t, fAbs_i, fInt_i, fInt_b, fMin2_i, fLen_l, fLen_t, fLen_s, fList_l, fList_t, fTuple_l, fTuple_t, optBK_some, fIsi_non, fIsi_bl, fIsi_int, fIsi_str, fIsi_lst, fIsi_tup, List.getElem?_cons_zero, List.getElem?_cons_succ, List.set_cons_zero, List.set_cons_succ, DL.ggName, ggNil0, ggCons1, ggTup2, ggTup3, gFor, giSeq, gLc, gYes, wipeR, true_and, and_true, at_0, at_1, at_2, kit_int_int, kit_bool_int, kit_str_int, kit_non_int, kit_list_int, kit_tuple_int, kit_int_bool, kit_bool_bool, kit_str_bool, kit_non_bool, kit_list_bool, kit_tuple_bool, kit_int_str, kit_bool_str, kit_str_str, kit_non_str, kit_list_str, kit_tuple_str, kit_int_list, kit_bool_list, kit_str_list, kit_non_list, kit_list_list, kit_tuple_list, kit_int_tuple, kit_bool_tuple, kit_str_tuple, kit_non_tuple, kit_list_tuple, kit_tuple_tuple, eqD_i, neD_i, eqD_s, neD_s, eqD_f, neD_f, Nat.zero_add, Nat.reduceAdd, nc0, nc1, nc2, nc3, nc4, nc5, nc6, nc7, nc8, nc9, eq_self, decide_true, decide_false, Int.reduceEq, Int.reduceLT, Int.reduceLE, Int.reduceNeg, Bool.not_true, Bool.not_false, Bool.false_eq_true, if_true, if_false, ↓reduceIte, false_and, and_false, List.all_cons, List.all_nil, List.any_cons, List.any_nil, id_eq, Bool.and_true, Bool.true_and, Bool.or_false, Bool.false_or, Bool.and_false, Bool.false_and, gCut, eqD_b, neD_b, giZip, reduceCtorEq, Bool.true_eq_false, Bool.false_eq_true, gRevL, gSl, goNone, goSome, slD_l, ne_eq, not_false_eq_true, not_true_eq_false, gBM, isTy_l, isTy_s, new_at, new_set, isTy_new, cellK_new, append_new, popAt_new, gFrz_eq, frzK_new, fLen_new, fTuple_new, ixD_new, slA_l, slA_t, slA_new, addTD_t, addCD_l, mulCD_l, isbD_b, isnotbD_b, mSplitC_s, gLstC, gTr, ggSub, lstK_l, lstK_r, addLD_eq]) <;> first
      | exact hF rfl (by simp)
      | (rename_i i'
         by_cases h : i' = i
         · rw [decide_eq_true h]
           exact hT rfl (by rw [h])
         · rw [decide_eq_false h]
           exact hF rfl (by simpa using h))
      | simp [okF] at ha
  | str i =>
    simp only [sem0, List.map_cons, List.map_nil, List.length_cons, List.length_nil, gSeq, gNext, gRet, gRetN, gIfS, gSet, gPar, gAsg, gDrop, gVar, gC, gBin, gUn, gB, gTru, gAnd, gOr, gNot, gAndV, gOrV, gNotV, gIf, gChain, gaNil, gaCons, DL.gTup, gLst, gCB, gCall0, gAug, addD_i, addD_s, addD_l, addD_t, subD_i, mulD_i, mulD_l, fdivD_i, modD_i, powD_i, ltD_i, ltD_s, leD_i, gtD_i, geD_i, isD_n, isnotD_n, isNonD_non, isNonD_bl, isNonD_int, isNonD_str, isNonD_lst, isNonD_tup, negD_i, iaddD_i, truD_non, truD_bl, truD_int, truD_str, truD_lst, truD_tup, someK_some, ixD_l, ixD_t, fAbs_i, fInt_i, fInt_b, fMin2_i, fLen_l, fLen_t, fLen_s, fList_l, fList_t, fTuple_l, fTuple_t, optBK_some, fIsi_non, fIsi_bl, fIsi_int, fIsi_str, fIsi_lst, fIsi_tup, List.getElem?_cons_zero, List.getElem?_cons_succ, List.set_cons_zero, List.set_cons_succ, DL.ggName, ggNil0, ggCons1, ggTup2, ggTup3, gFor, giSeq, gLc, gYes, wipeR, true_and, and_true, at_0, at_1, at_2, kit_int_int, kit_bool_int, kit_str_int, kit_non_int, kit_list_int, kit_tuple_int, kit_int_bool, kit_bool_bool, kit_str_bool, kit_non_bool, kit_list_bool, kit_tuple_bool, kit_int_str, kit_bool_str, kit_str_str, kit_non_str, kit_list_str, kit_tuple_str, kit_int_list, kit_bool_list, kit_str_list, kit_non_list, kit_list_list, kit_tuple_list, kit_int_tuple, kit_bool_tuple, kit_str_tuple, kit_non_tuple, kit_list_tuple, kit_tuple_tuple, eqD_i, neD_i, eqD_s, neD_s, eqD_f, neD_f, Nat.zero_add, Nat.reduceAdd, nc0, nc1, nc2, nc3, nc4, nc5, nc6, nc7, nc8, nc9, eq_self, decide_true, decide_false, Int.reduceEq, Int.reduceLT, Int.reduceLE, Int.reduceNeg, Bool.not_true, Bool.not_false, Bool.false_eq_true, if_true, if_false, ↓reduceIte, false_and, and_false, List.all_cons, List.all_nil, List.any_cons, List.any_nil, id_eq, Bool.and_true, Bool.true_and, Bool.or_false, Bool.false_or, Bool.and_false, Bool.false_and, gCut, eqD_b, neD_b, giZip, reduceCtorEq, Bool.true_eq_false, Bool.false_eq_true, gRevL, gSl, goNone, goSome, slD_l, ne_eq, not_false_eq_true, not_true_eq_false, gBM, isTy_l, isTy_s, new_at, new_set, isTy_new, cellK_new, append_new, popAt_new, gFrz_eq, frzK_new, fLen_new, fTuple_new, ixD_new, slA_l, slA_t, slA_new, addTD_t, addCD_l, mulCD_l, isbD_b, isnotbD_b, mSplitC_s, gLstC, gTr, ggSub, lstK_l, lstK_r, addLD_eq]
    cases a <;> (first | (exfalso; simp [okF] at ha; done) | simp only [sem0, List.map_cons, List.map_nil, List.length_cons, List.length_nil, gSeq, gNext, gRet, gRetN, gIfS, gSet, gPar, gAsg, gDrop, gVar, gC, gBin, gUn, gB, gTru, gAnd, gOr, gNot, gAndV, gOrV, gNotV, gIf, gChain, gaNil, gaCons, DL.gTup, gLst, gCB, gCall0, gAug, addD_i, addD_s, addD_l, addD_t, subD_i, mulD_i, mulD_l, fdivD_i, modD_i, powD_i, ltD_i, ltD_s, leD_i, gtD_i, geD_i, isD_n, isnotD_n, isNonD_non, isNonD_bl, isNonD_int, isNonD_str, isNonD_lst, isNonD_tup, negD_i, iaddD_i, truD_non, truD_bl, truD_int, truD_str, truD_lst, truD_tup, someK_some, ixD_l, ixD_t, fAbs_i, fInt_i, fInt_b, fMin2_i, fLen_l, fLen_t, fLen_s, fList_l, fList_t, fTuple_l, fTuple_t, optBK_some, fIsi_non, fIsi_bl, fIsi_int, fIsi_str, fIsi_lst, fIsi_tup, List.getElem?_cons_zero, List.getElem?_cons_succ, List.set_cons_zero, List.set_cons_succ, DL.ggName, ggNil0, ggCons1, ggTup2, ggTup3, gFor, giSeq, gLc, gYes, wipeR, true_and, and_true, at_0, at_1, at_2, kit_int_int, kit_bool_int, kit_str_int, kit_non_int, kit_list_int, kit_tuple_int, kit_int_bool, kit_bool_bool, kit_str_bool, kit_non_bool, kit_list_bool, kit_tuple_bool, kit_int_str, kit_bool_str, kit_str_str, kit_non_str, kit_list_str, kit_tuple_str, kit_int_list, kit_bool_list, kit_str_list, kit_non_list, kit_list_list, kit_tuple_list, kit_int_tuple, kit_bool_tuple, kit_str_tuple, kit_non_tuple, kit_list_tuple, kit_tuple_tuple, eqD_i, neD_i, eqD_s, neD_s, eqD_f, neD_f, Nat.zero_add, Nat.reduceAdd, nc0, nc1, nc2, nc3, nc4, nc5, nc6, nc7, nc8, nc9, eq_self, decide_true, decide_false, Int.reduceEq, Int.reduceLT, Int.reduceLE, Int.reduceNeg, Bool.not_true, Bool.not_false, Bool.false_eq_true, if_true, if_false, ↓reduceIte, false_and, and_false, List.all_cons, List.all_nil, List.any_cons, List.any_nil, id_eq, Bool.and_true, Bool.true_and, Bool.or_false, Bool.false_or, Bool.and_false, Bool.false_and, gCut, eqD_b, neD_b, giZip, reduceCtorEq, Bool.true_eq_false, Bool.false_eq_true, gRevL, gSl, goNone, goSome, slD_l, ne_eq, not_false_eq_true, not_true_eq_false, gBM, isTy_l, isTy_s, new_at, new_set, isTy_new, cellK_new, append_new, popAt_new, gFrz_eq, frzK_new, fLen_new, fTuple_new, ixD_new, slA_l, slA_t, slA_new, addTD_t, addCD_l, mulCD_l, isbD_b, isnotbD_b, mSplitC_s, gLstC, gTr, ggSub, lstK_l, lstK_r, addLD_eq]) <;> first
      | exact hF rfl (by simp)
      | (rename_i i'
         by_cases h : i' = i
         · rw [decide_eq_true h]
           exact hT rfl (by rw [h])
         · rw [decide_eq_false h]
           exact hF rfl (by simpa using h))
      | simp [okF] at ha
  | lst ys =>
    simp only [sem0, List.map_cons, List.map_nil, List.length_cons, List.length_nil, gSeq, gNext, gRet, gRetN, gIfS, gSet, gPar, gAsg, gDrop, gVar, gC, gBin, gUn, gB, gTru, gAnd, gOr, gNot, gAndV, gOrV, gNotV, gIf, gChain, gaNil, gaCons, DL.gTup, gLst, gCB, gCall0, gAug, addD_i, addD_s, addD_l, addD_t, subD_i, mulD_i, mulD_l, fdivD_i, modD_i, powD_i, ltD_i, ltD_s, leD_i, gtD_i, geD_i, isD_n, isnotD_n, isNonD_non, isNonD_bl, isNonD_int, isNonD_str, isNonD_lst, isNonD_tup, negD_i, iaddD_i, truD_non, truD_bl, truD_int, truD_str, truD_lst, truD_tup, someK_some, ixD_l, ixD_t, fAbs_i, fInt_i, fInt_b, fMin2_i, fLen_l, fLen_t, fLen_s, fList_l, fList_t, fTuple_l, fTuple_t, optBK_some, fIsi_non, fIsi_bl, fIsi_int, fIsi_str, fIsi_lst, fIsi_tup, List.getElem?_cons_zero, List.getElem?_cons_succ, List.set_cons_zero, List.set_cons_succ, DL.ggName, ggNil0, ggCons1, ggTup2, ggTup3, gFor, giSeq, gLc, gYes, wipeR, true_and, and_true, at_0, at_1, at_2, kit_int_int, kit_bool_int, kit_str_int, kit_non_int, kit_list_int, kit_tuple_int, kit_int_bool, kit_bool_bool, kit_str_bool, kit_non_bool, kit_list_bool, kit_tuple_bool, kit_int_str, kit_bool_str, kit_str_str, kit_non_str, kit_list_str, kit_tuple_str, kit_int_list, kit_bool_list, kit_str_list, kit_non_list, kit_list_list, kit_tuple_list, kit_int_tuple, kit_bool_tuple, kit_str_tuple, kit_non_tuple, kit_list_tuple, kit_tuple_tuple, eqD_i, neD_i, eqD_s, neD_s, eqD_f, neD_f, Nat.zero_add, Nat.reduceAdd, nc0, nc1, nc2, nc3, nc4, nc5, nc6, nc7, nc8, nc9, eq_self, decide_true, decide_false, Int.reduceEq, Int.reduceLT, Int.reduceLE, Int.reduceNeg, Bool.not_true, Bool.not_false, Bool.false_eq_true, if_true, if_false, ↓reduceIte, false_and, and_false, List.all_cons, List.all_nil, List.any_cons, List.any_nil, id_eq, Bool.and_true, Bool.true_and, Bool.or_false, Bool.false_or, Bool.and_false, Bool.false_and, gCut, eqD_b, neD_b, giZip, reduceCtorEq, Bool.true_eq_false, Bool.false_eq_true, gRevL, gSl, goNone, goSome, slD_l, ne_eq, not_false_eq_true, not_true_eq_false, gBM, isTy_l, isTy_s, new_at, new_set, isTy_new, cellK_new, append_new, popAt_new, gFrz_eq, frzK_new, fLen_new, fTuple_new, ixD_new, slA_l, slA_t, slA_new, addTD_t, addCD_l, mulCD_l, isbD_b, isnotbD_b, mSplitC_s, gLstC, gTr, ggSub, lstK_l, lstK_r, addLD_eq]
    cases a <;> (first | (exfalso; simp [okF] at ha; done) | simp only [sem0, List.map_cons, List.map_nil, List.length_cons, List.length_nil, gSeq, gNext, gRet, gRetN, gIfS, gSet, gPar, gAsg, gDrop, gVar, gC, gBin, gUn, gB, gTru, gAnd, gOr, gNot, gAndV, gOrV, gNotV, gIf, gChain, gaNil, gaCons, DL.gTup, gLst, gCB, gCall0, gAug, addD_i, addD_s, addD_l, addD_t, subD_i, mulD_i, mulD_l, fdivD_i, modD_i, powD_i, ltD_i, ltD_s, leD_i, gtD_i, geD_i, isD_n, isnotD_n, isNonD_non, isNonD_bl, isNonD_int, isNonD_str, isNonD_lst, isNonD_tup, negD_i, iaddD_i, truD_non, truD_bl, truD_int, truD_str, truD_lst, truD_tup, someK_some, ixD_l, ixD_t, fAbs_i, fInt_i, fInt_b, fMin2_i, fLen_l, fLen_t, fLen_s, fList_l, fList_t, fTuple_l, fTuple_t, optBK_some, fIsi_non, fIsi_bl, fIsi_int, fIsi_str, fIsi_lst, fIsi_tup, List.getElem?_cons_zero, List.getElem?_cons_succ, List.set_cons_zero, List.set_cons_succ, DL.ggName, ggNil0, ggCons1, ggTup2, ggTup3, gFor, giSeq, gLc, gYes, wipeR, true_and, and_true, at_0, at_1, at_2, kit_int_int, kit_bool_int, kit_str_int, kit_non_int, kit_list_int, kit_tuple_int, kit_int_bool, kit_bool_bool, kit_str_bool, kit_non_bool, kit_list_bool, kit_tuple_bool, kit_int_str, kit_bool_str, kit_str_str, kit_non_str, kit_list_str, kit_tuple_str, kit_int_list, kit_bool_list, kit_str_list, kit_non_list, kit_list_list, kit_tuple_list, kit_int_tuple, kit_bool_tuple, kit_str_tuple, kit_non_tuple, kit_list_tuple, kit_tuple_tuple, eqD_i, neD_i, eqD_s, neD_s, eqD_f, neD_f, Nat.zero_add, Nat.reduceAdd, nc0, nc1, nc2, nc3, nc4, nc5, nc6, nc7, nc8, nc9, eq_self, decide_true, decide_false, Int.reduceEq, Int.reduceLT, Int.reduceLE, Int.reduceNeg, Bool.not_true, Bool.not_false, Bool.false_eq_true, if_true, if_false, ↓reduceIte, false_and, and_false, List.all_cons, List.all_nil, List.any_cons, List.any_nil, id_eq, Bool.and_true, Bool.true_and, Bool.or_false, Bool.false_or, Bool.and_false, Bool.false_and, gCut, eqD_b, neD_b, giZip, reduceCtorEq, Bool.true_eq_false, Bool.false_eq_true, gRevL, gSl, goNone, goSome, slD_l, ne_eq, not_false_eq_true, not_true_eq_false, gBM, isTy_l, isTy_s, new_at, new_set, isTy_new, cellK_new, append_new, popAt_new, gFrz_eq, frzK_new, fLen_new, fTuple_new, ixD_new, slA_l, slA_t, slA_new, addTD_t, addCD_l, mulCD_l, isbD_b, isnotbD_b, mSplitC_s, gLstC, gTr, ggSub, lstK_l, lstK_r, addLD_eq]) <;> first
      | exact hF rfl (by simp)
      | skip
    rename_i xs
    by_cases hl : xs.length = ys.length
    · rw [decide_eq_true (show ((xs.length : Nat) : Int) = ys.length by rw [hl])]
      simp only [sem0, List.map_cons, List.map_nil, List.length_cons, List.length_nil, gSeq, gNext, gRet, gRetN, gIfS, gSet, gPar, gAsg, gDrop, gVar, gC, gBin, gUn, gB, gTru, gAnd, gOr, gNot, gAndV, gOrV, gNotV, gIf, gChain, gaNil, gaCons, DL.gTup, gLst, gCB, gCall0, gAug, addD_i, addD_s, addD_l, addD_t, subD_i, mulD_i, mulD_l, fdivD_i, modD_i, powD_i, ltD_i, ltD_s, leD_i, gtD_i, geD_i, isD_n, isnotD_n, isNonD_non, isNonD_bl, isNonD_int, isNonD_str, isNonD_lst, isNonD_tup, negD_i, iaddD_i, truD_non, truD_bl, truD_int, truD_str, truD_lst, truD_tup, someK_some, ixD_l, ixD_t, fAbs_i, fInt_i, fInt_b, fMin2_i, fLen_l, fLen_t, fLen_s, fList_l, fList_t, fTuple_l, fTuple_t, optBK_some, fIsi_non, fIsi_bl, fIsi_int, fIsi_str, fIsi_lst, fIsi_tup, List.getElem?_cons_zero, List.getElem?_cons_succ, List.set_cons_zero, List.set_cons_succ, DL.ggName, ggNil0, ggCons1, ggTup2, ggTup3, gFor, giSeq, gLc, gYes, wipeR, true_and, and_true, at_0, at_1, at_2, kit_int_int, kit_bool_int, kit_str_int, kit_non_int, kit_list_int, kit_tuple_int, kit_int_bool, kit_bool_bool, kit_str_bool, kit_non_bool, kit_list_bool, kit_tuple_bool, kit_int_str, kit_bool_str, kit_str_str, kit_non_str, kit_list_str, kit_tuple_str, kit_int_list, kit_bool_list, kit_str_list, kit_non_list, kit_list_list, kit_tuple_list, kit_int_tuple, kit_bool_tuple, kit_str_tuple, kit_non_tuple, kit_list_tuple, kit_tuple_tuple, eqD_i, neD_i, eqD_s, neD_s, eqD_f, neD_f, Nat.zero_add, Nat.reduceAdd, nc0, nc1, nc2, nc3, nc4, nc5, nc6, nc7, nc8, nc9, eq_self, decide_true, decide_false, Int.reduceEq, Int.reduceLT, Int.reduceLE, Int.reduceNeg, Bool.not_true, Bool.not_false, Bool.false_eq_true, if_true, if_false, ↓reduceIte, false_and, and_false, List.all_cons, List.all_nil, List.any_cons, List.any_nil, id_eq, Bool.and_true, Bool.true_and, Bool.or_false, Bool.false_or, Bool.and_false, Bool.false_and, gCut, eqD_b, neD_b, giZip, reduceCtorEq, Bool.true_eq_false, Bool.false_eq_true, gRevL, gSl, goNone, goSome, slD_l, ne_eq, not_false_eq_true, not_true_eq_false, gBM, isTy_l, isTy_s, new_at, new_set, isTy_new, cellK_new, append_new, popAt_new, gFrz_eq, frzK_new, fLen_new, fTuple_new, ixD_new, slA_l, slA_t, slA_new, addTD_t, addCD_l, mulCD_l, isbD_b, isnotbD_b, mSplitC_s, gLstC, gTr, ggSub, lstK_l, lstK_r, addLD_eq]
      unfold okF at ha
      unfold DL.plain at hb
      unfold dep at hd
      unfold wid at wa wb
      rw [Bool.and_eq_true] at wa wb
      refine lc_rel (fun p y => ∃ c a b, p = D.tup [a, b] ∧ y = D.bl c ∧ (c = true ↔ a = b)) trivial ?_ (fun p hp k' hk' => ?_) (fun cs hcs => ?_)
      · unfold zipD
        rw [List.length_zipWith]
        have := of_decide_eq_true wa.1
        omega
      · obtain ⟨i, hi⟩ := List.getElem?_of_mem hp
        obtain ⟨x, y, h1, h2, rfl⟩ := DL.zip_get hi
        have mx := List.mem_of_getElem? h1
        have my := List.mem_of_getElem? h2
        simp only [sem0, List.map_cons, List.map_nil, List.length_cons, List.length_nil, gSeq, gNext, gRet, gRetN, gIfS, gSet, gPar, gAsg, gDrop, gVar, gC, gBin, gUn, gB, gTru, gAnd, gOr, gNot, gAndV, gOrV, gNotV, gIf, gChain, gaNil, gaCons, DL.gTup, gLst, gCB, gCall0, gAug, addD_i, addD_s, addD_l, addD_t, subD_i, mulD_i, mulD_l, fdivD_i, modD_i, powD_i, ltD_i, ltD_s, leD_i, gtD_i, geD_i, isD_n, isnotD_n, isNonD_non, isNonD_bl, isNonD_int, isNonD_str, isNonD_lst, isNonD_tup, negD_i, iaddD_i, truD_non, truD_bl, truD_int, truD_str, truD_lst, truD_tup, someK_some, ixD_l, ixD_t, fAbs_i, fInt_i, fInt_b, fMin2_i, fLen_l, fLen_t, fLen_s, fList_l, fList_t, fTuple_l, fTuple_t, optBK_some, fIsi_non, fIsi_bl, fIsi_int, fIsi_str, fIsi_lst, fIsi_tup, List.getElem?_cons_zero, List.getElem?_cons_succ, List.set_cons_zero, List.set_cons_succ, DL.ggName, ggNil0, ggCons1, ggTup2, ggTup3, gFor, giSeq, gLc, gYes, wipeR, true_and, and_true, at_0, at_1, at_2, kit_int_int, kit_bool_int, kit_str_int, kit_non_int, kit_list_int, kit_tuple_int, kit_int_bool, kit_bool_bool, kit_str_bool, kit_non_bool, kit_list_bool, kit_tuple_bool, kit_int_str, kit_bool_str, kit_str_str, kit_non_str, kit_list_str, kit_tuple_str, kit_int_list, kit_bool_list, kit_str_list, kit_non_list, kit_list_list, kit_tuple_list, kit_int_tuple, kit_bool_tuple, kit_str_tuple, kit_non_tuple, kit_list_tuple, kit_tuple_tuple, eqD_i, neD_i, eqD_s, neD_s, eqD_f, neD_f, Nat.zero_add, Nat.reduceAdd, nc0, nc1, nc2, nc3, nc4, nc5, nc6, nc7, nc8, nc9, eq_self, decide_true, decide_false, Int.reduceEq, Int.reduceLT, Int.reduceLE, Int.reduceNeg, Bool.not_true, Bool.not_false, Bool.false_eq_true, if_true, if_false, ↓reduceIte, false_and, and_false, List.all_cons, List.all_nil, List.any_cons, List.any_nil, id_eq, Bool.and_true, Bool.true_and, Bool.or_false, Bool.false_or, Bool.and_false, Bool.false_and, gCut, eqD_b, neD_b, giZip, reduceCtorEq, Bool.true_eq_false, Bool.false_eq_true, gRevL, gSl, goNone, goSome, slD_l, ne_eq, not_false_eq_true, not_true_eq_false, gBM, isTy_l, isTy_s, new_at, new_set, isTy_new, cellK_new, append_new, popAt_new, gFrz_eq, frzK_new, fLen_new, fTuple_new, ixD_new, slA_l, slA_t, slA_new, addTD_t, addCD_l, mulCD_l, isbD_b, isnotbD_b, mSplitC_s, gLstC, gTr, ggSub, lstK_l, lstK_r, addLD_eq]
        cases j with
        | zero => omega
        | succ j =>
          refine ⟨x, y, rfl, ⟨okFs_mem ha mx, plains_mem hb my, ?_, wids_mem wa.2 mx, wids_mem wb.2 my⟩, fun c hc => hk' _ ⟨c, x, y, rfl, rfl, hc⟩⟩
          have := deps_mem my
          omega
      · obtain ⟨bs, rfl, hbs⟩ := zip_pairs hl hcs
        rw [fAll_m]
        exact hk _ (by rw [hbs]; simp)
    · rw [decide_eq_false (show ¬ ((xs.length : Nat) : Int) = ys.length by omega)]
      simp only [sem0, List.map_cons, List.map_nil, List.length_cons, List.length_nil, gSeq, gNext, gRet, gRetN, gIfS, gSet, gPar, gAsg, gDrop, gVar, gC, gBin, gUn, gB, gTru, gAnd, gOr, gNot, gAndV, gOrV, gNotV, gIf, gChain, gaNil, gaCons, DL.gTup, gLst, gCB, gCall0, gAug, addD_i, addD_s, addD_l, addD_t, subD_i, mulD_i, mulD_l, fdivD_i, modD_i, powD_i, ltD_i, ltD_s, leD_i, gtD_i, geD_i, isD_n, isnotD_n, isNonD_non, isNonD_bl, isNonD_int, isNonD_str, isNonD_lst, isNonD_tup, negD_i, iaddD_i, truD_non, truD_bl, truD_int, truD_str, truD_lst, truD_tup, someK_some, ixD_l, ixD_t, fAbs_i, fInt_i, fInt_b, fMin2_i, fLen_l, fLen_t, fLen_s, fList_l, fList_t, fTuple_l, fTuple_t, optBK_some, fIsi_non, fIsi_bl, fIsi_int, fIsi_str, fIsi_lst, fIsi_tup, List.getElem?_cons_zero, List.getElem?_cons_succ, List.set_cons_zero, List.set_cons_succ, DL.ggName, ggNil0, ggCons1, ggTup2, ggTup3, gFor, giSeq, gLc, gYes, wipeR, true_and, and_true, at_0, at_1, at_2, kit_int_int, kit_bool_int, kit_str_int, kit_non_int, kit_list_int, kit_tuple_int, kit_int_bool, kit_bool_bool, kit_str_bool, kit_non_bool, kit_list_bool, kit_tuple_bool, kit_int_str, kit_bool_str, kit_str_str, kit_non_str, kit_list_str, kit_tuple_str, kit_int_list, kit_bool_list, kit_str_list, kit_non_list, kit_list_list, kit_tuple_list, kit_int_tuple, kit_bool_tuple, kit_str_tuple, kit_non_tuple, kit_list_tuple, kit_tuple_tuple, eqD_i, neD_i, eqD_s, neD_s, eqD_f, neD_f, Nat.zero_add, Nat.reduceAdd, nc0, nc1, nc2, nc3, nc4, nc5, nc6, nc7, nc8, nc9, eq_self, decide_true, decide_false, Int.reduceEq, Int.reduceLT, Int.reduceLE, Int.reduceNeg, Bool.not_true, Bool.not_false, Bool.false_eq_true, if_true, if_false, ↓reduceIte, false_and, and_false, List.all_cons, List.all_nil, List.any_cons, List.any_nil, id_eq, Bool.and_true, Bool.true_and, Bool.or_false, Bool.false_or, Bool.and_false, Bool.false_and, gCut, eqD_b, neD_b, giZip, reduceCtorEq, Bool.true_eq_false, Bool.false_eq_true, gRevL, gSl, goNone, goSome, slD_l, ne_eq, not_false_eq_true, not_true_eq_false, gBM, isTy_l, isTy_s, new_at, new_set, isTy_new, cellK_new, append_new, popAt_new, gFrz_eq, frzK_new, fLen_new, fTuple_new, ixD_new, slA_l, slA_t, slA_new, addTD_t, addCD_l, mulCD_l, isbD_b, isnotbD_b, mSplitC_s, gLstC, gTr, ggSub, lstK_l, lstK_r, addLD_eq]
      exact hF rfl (by intro h; cases h; exact hl rfl)
  | tup ys =>
    simp only [sem0, List.map_cons, List.map_nil, List.length_cons, List.length_nil, gSeq, gNext, gRet, gRetN, gIfS, gSet, gPar, gAsg, gDrop, gVar, gC, gBin, gUn, gB, gTru, gAnd, gOr, gNot, gAndV, gOrV, gNotV, gIf, gChain, gaNil, gaCons, DL.gTup, gLst, gCB, gCall0, gAug, addD_i, addD_s, addD_l, addD_t, subD_i, mulD_i, mulD_l, fdivD_i, modD_i, powD_i, ltD_i, ltD_s, leD_i, gtD_i, geD_i, isD_n, isnotD_n, isNonD_non, isNonD_bl, isNonD_int, isNonD_str, isNonD_lst, isNonD_tup, negD_i, iaddD_i, truD_non, truD_bl, truD_int, truD_str, truD_lst, truD_tup, someK_some, ixD_l, ixD_t, fAbs_i, fInt_i, fInt_b, fMin2_i, fLen_l, fLen_t, fLen_s, fList_l, fList_t, fTuple_l, fTuple_t, optBK_some, fIsi_non, fIsi_bl, fIsi_int, fIsi_str, fIsi_lst, fIsi_tup, List.getElem?_cons_zero, List.getElem?_cons_succ, List.set_cons_zero, List.set_cons_succ, DL.ggName, ggNil0, ggCons1, ggTup2, ggTup3, gFor, giSeq, gLc, gYes, wipeR, true_and, and_true, at_0, at_1, at_2, kit_int_int, kit_bool_int, kit_str_int, kit_non_int, kit_list_int, kit_tuple_int, kit_int_bool, kit_bool_bool, kit_str_bool, kit_non_bool, kit_list_bool, kit_tuple_bool, kit_int_str, kit_bool_str, kit_str_str, kit_non_str, kit_list_str, kit_tuple_str, kit_int_list, kit_bool_list, kit_str_list, kit_non_list, kit_list_list, kit_tuple_list, kit_int_tuple, kit_bool_tuple, kit_str_tuple, kit_non_tuple, kit_list_tuple, kit_tuple_tuple, eqD_i, neD_i, eqD_s, neD_s, eqD_f, neD_f, Nat.zero_add, Nat.reduceAdd, nc0, nc1, nc2, nc3, nc4, nc5, nc6, nc7, nc8, nc9, eq_self, decide_true, decide_false, Int.reduceEq, Int.reduceLT, Int.reduceLE, Int.reduceNeg, Bool.not_true, Bool.not_false, Bool.false_eq_true, if_true, if_false, ↓reduceIte, false_and, and_false, List.all_cons, List.all_nil, List.any_cons, List.any_nil, id_eq, Bool.and_true, Bool.true_and, Bool.or_false, Bool.false_or, Bool.and_false, Bool.false_and, gCut, eqD_b, neD_b, giZip, reduceCtorEq, Bool.true_eq_false, Bool.false_eq_true, gRevL, gSl, goNone, goSome, slD_l, ne_eq, not_false_eq_true, not_true_eq_false, gBM, isTy_l, isTy_s, new_at, new_set, isTy_new, cellK_new, append_new, popAt_new, gFrz_eq, frzK_new, fLen_new, fTuple_new, ixD_new, slA_l, slA_t, slA_new, addTD_t, addCD_l, mulCD_l, isbD_b, isnotbD_b, mSplitC_s, gLstC, gTr, ggSub, lstK_l, lstK_r, addLD_eq]
    cases a <;> (first | (exfalso; simp [okF] at ha; done) | simp only [sem0, List.map_cons, List.map_nil, List.length_cons, List.length_nil, gSeq, gNext, gRet, gRetN, gIfS, gSet, gPar, gAsg, gDrop, gVar, gC, gBin, gUn, gB, gTru, gAnd, gOr, gNot, gAndV, gOrV, gNotV, gIf, gChain, gaNil, gaCons, DL.gTup, gLst, gCB, gCall0, gAug, addD_i, addD_s, addD_l, addD_t, subD_i, mulD_i, mulD_l, fdivD_i, modD_i, powD_i, ltD_i, ltD_s, leD_i, gtD_i, geD_i, isD_n, isnotD_n, isNonD_non, isNonD_bl, isNonD_int, isNonD_str, isNonD_lst, isNonD_tup, negD_i, iaddD_i, truD_non, truD_bl, truD_int, truD_str, truD_lst, truD_tup, someK_some, ixD_l, ixD_t, fAbs_i, fInt_i, fInt_b, fMin2_i, fLen_l, fLen_t, fLen_s, fList_l, fList_t, fTuple_l, fTuple_t, optBK_some, fIsi_non, fIsi_bl, fIsi_int, fIsi_str, fIsi_lst, fIsi_tup, List.getElem?_cons_zero, List.getElem?_cons_succ, List.set_cons_zero, List.set_cons_succ, DL.ggName, ggNil0, ggCons1, ggTup2, ggTup3, gFor, giSeq, gLc, gYes, wipeR, true_and, and_true, at_0, at_1, at_2, kit_int_int, kit_bool_int, kit_str_int, kit_non_int, kit_list_int, kit_tuple_int, kit_int_bool, kit_bool_bool, kit_str_bool, kit_non_bool, kit_list_bool, kit_tuple_bool, kit_int_str, kit_bool_str, kit_str_str, kit_non_str, kit_list_str, kit_tuple_str, kit_int_list, kit_bool_list, kit_str_list, kit_non_list, kit_list_list, kit_tuple_list, kit_int_tuple, kit_bool_tuple, kit_str_tuple, kit_non_tuple, kit_list_tuple, kit_tuple_tuple, eqD_i, neD_i, eqD_s, neD_s, eqD_f, neD_f, Nat.zero_add, Nat.reduceAdd, nc0, nc1, nc2, nc3, nc4, nc5, nc6, nc7, nc8, nc9, eq_self, decide_true, decide_false, Int.reduceEq, Int.reduceLT, Int.reduceLE, Int.reduceNeg, Bool.not_true, Bool.not_false, Bool.false_eq_true, if_true, if_false, ↓reduceIte, false_and, and_false, List.all_cons, List.all_nil, List.any_cons, List.any_nil, id_eq, Bool.and_true, Bool.true_and, Bool.or_false, Bool.false_or, Bool.and_false, Bool.false_and, gCut, eqD_b, neD_b, giZip, reduceCtorEq, Bool.true_eq_false, Bool.false_eq_true, gRevL, gSl, goNone, goSome, slD_l, ne_eq, not_false_eq_true, not_true_eq_false, gBM, isTy_l, isTy_s, new_at, new_set, isTy_new, cellK_new, append_new, popAt_new, gFrz_eq, frzK_new, fLen_new, fTuple_new, ixD_new, slA_l, slA_t, slA_new, addTD_t, addCD_l, mulCD_l, isbD_b, isnotbD_b, mSplitC_s, gLstC, gTr, ggSub, lstK_l, lstK_r, addLD_eq]) <;> first
      | exact hF rfl (by simp)
      | skip
    rename_i xs
    by_cases hl : xs.length = ys.length
    · rw [decide_eq_true (show ((xs.length : Nat) : Int) = ys.length by rw [hl])]
      simp only [sem0, List.map_cons, List.map_nil, List.length_cons, List.length_nil, gSeq, gNext, gRet, gRetN, gIfS, gSet, gPar, gAsg, gDrop, gVar, gC, gBin, gUn, gB, gTru, gAnd, gOr, gNot, gAndV, gOrV, gNotV, gIf, gChain, gaNil, gaCons, DL.gTup, gLst, gCB, gCall0, gAug, addD_i, addD_s, addD_l, addD_t, subD_i, mulD_i, mulD_l, fdivD_i, modD_i, powD_i, ltD_i, ltD_s, leD_i, gtD_i, geD_i, isD_n, isnotD_n, isNonD_non, isNonD_bl, isNonD_int, isNonD_str, isNonD_lst, isNonD_tup, negD_i, iaddD_i, truD_non, truD_bl, truD_int, truD_str, truD_lst, truD_tup, someK_some, ixD_l, ixD_t, fAbs_i, fInt_i, fInt_b, fMin2_i, fLen_l, fLen_t, fLen_s, fList_l, fList_t, fTuple_l, fTuple_t, optBK_some, fIsi_non, fIsi_bl, fIsi_int, fIsi_str, fIsi_lst, fIsi_tup, List.getElem?_cons_zero, List.getElem?_cons_succ, List.set_cons_zero, List.set_cons_succ, DL.ggName, ggNil0, ggCons1, ggTup2, ggTup3, gFor, giSeq, gLc, gYes, wipeR, true_and, and_true, at_0, at_1, at_2, kit_int_int, kit_bool_int, kit_str_int, kit_non_int, kit_list_int, kit_tuple_int, kit_int_bool, kit_bool_bool, kit_str_bool, kit_non_bool, kit_list_bool, kit_tuple_bool, kit_int_str, kit_bool_str, kit_str_str, kit_non_str, kit_list_str, kit_tuple_str, kit_int_list, kit_bool_list, kit_str_list, kit_non_list, kit_list_list, kit_tuple_list, kit_int_tuple, kit_bool_tuple, kit_str_tuple, kit_non_tuple, kit_list_tuple, kit_tuple_tuple, eqD_i, neD_i, eqD_s, neD_s, eqD_f, neD_f, Nat.zero_add, Nat.reduceAdd, nc0, nc1, nc2, nc3, nc4, nc5, nc6, nc7, nc8, nc9, eq_self, decide_true, decide_false, Int.reduceEq, Int.reduceLT, Int.reduceLE, Int.reduceNeg, Bool.not_true, Bool.not_false, Bool.false_eq_true, if_true, if_false, ↓reduceIte, false_and, and_false, List.all_cons, List.all_nil, List.any_cons, List.any_nil, id_eq, Bool.and_true, Bool.true_and, Bool.or_false, Bool.false_or, Bool.and_false, Bool.false_and, gCut, eqD_b, neD_b, giZip, reduceCtorEq, Bool.true_eq_false, Bool.false_eq_true, gRevL, gSl, goNone, goSome, slD_l, ne_eq, not_false_eq_true, not_true_eq_false, gBM, isTy_l, isTy_s, new_at, new_set, isTy_new, cellK_new, append_new, popAt_new, gFrz_eq, frzK_new, fLen_new, fTuple_new, ixD_new, slA_l, slA_t, slA_new, addTD_t, addCD_l, mulCD_l, isbD_b, isnotbD_b, mSplitC_s, gLstC, gTr, ggSub, lstK_l, lstK_r, addLD_eq]
      unfold okF at ha
      unfold DL.plain at hb
      unfold dep at hd
      unfold wid at wa wb
      rw [Bool.and_eq_true] at wa wb
      refine lc_rel (fun p y => ∃ c a b, p = D.tup [a, b] ∧ y = D.bl c ∧ (c = true ↔ a = b)) trivial ?_ (fun p hp k' hk' => ?_) (fun cs hcs => ?_)
      · unfold zipD
        rw [List.length_zipWith]
        have := of_decide_eq_true wa.1
        omega
      · obtain ⟨i, hi⟩ := List.getElem?_of_mem hp
        obtain ⟨x, y, h1, h2, rfl⟩ := DL.zip_get hi
        have mx := List.mem_of_getElem? h1
        have my := List.mem_of_getElem? h2
        simp only [sem0, List.map_cons, List.map_nil, List.length_cons, List.length_nil, gSeq, gNext, gRet, gRetN, gIfS, gSet, gPar, gAsg, gDrop, gVar, gC, gBin, gUn, gB, gTru, gAnd, gOr, gNot, gAndV, gOrV, gNotV, gIf, gChain, gaNil, gaCons, DL.gTup, gLst, gCB, gCall0, gAug, addD_i, addD_s, addD_l, addD_t, subD_i, mulD_i, mulD_l, fdivD_i, modD_i, powD_i, ltD_i, ltD_s, leD_i, gtD_i, geD_i, isD_n, isnotD_n, isNonD_non, isNonD_bl, isNonD_int, isNonD_str, isNonD_lst, isNonD_tup, negD_i, iaddD_i, truD_non, truD_bl, truD_int, truD_str, truD_lst, truD_tup, someK_some, ixD_l, ixD_t, fAbs_i, fInt_i, fInt_b, fMin2_i, fLen_l, fLen_t, fLen_s, fList_l, fList_t, fTuple_l, fTuple_t, optBK_some, fIsi_non, fIsi_bl, fIsi_int, fIsi_str, fIsi_lst, fIsi_tup, List.getElem?_cons_zero, List.getElem?_cons_succ, List.set_cons_zero, List.set_cons_succ, DL.ggName, ggNil0, ggCons1, ggTup2, ggTup3, gFor, giSeq, gLc, gYes, wipeR, true_and, and_true, at_0, at_1, at_2, kit_int_int, kit_bool_int, kit_str_int, kit_non_int, kit_list_int, kit_tuple_int, kit_int_bool, kit_bool_bool, kit_str_bool, kit_non_bool, kit_list_bool, kit_tuple_bool, kit_int_str, kit_bool_str, kit_str_str, kit_non_str, kit_list_str, kit_tuple_str, kit_int_list, kit_bool_list, kit_str_list, kit_non_list, kit_list_list, kit_tuple_list, kit_int_tuple, kit_bool_tuple, kit_str_tuple, kit_non_tuple, kit_list_tuple, kit_tuple_tuple, eqD_i, neD_i, eqD_s, neD_s, eqD_f, neD_f, Nat.zero_add, Nat.reduceAdd, nc0, nc1, nc2, nc3, nc4, nc5, nc6, nc7, nc8, nc9, eq_self, decide_true, decide_false, Int.reduceEq, Int.reduceLT, Int.reduceLE, Int.reduceNeg, Bool.not_true, Bool.not_false, Bool.false_eq_true, if_true, if_false, ↓reduceIte, false_and, and_false, List.all_cons, List.all_nil, List.any_cons, List.any_nil, id_eq, Bool.and_true, Bool.true_and, Bool.or_false, Bool.false_or, Bool.and_false, Bool.false_and, gCut, eqD_b, neD_b, giZip, reduceCtorEq, Bool.true_eq_false, Bool.false_eq_true, gRevL, gSl, goNone, goSome, slD_l, ne_eq, not_false_eq_true, not_true_eq_false, gBM, isTy_l, isTy_s, new_at, new_set, isTy_new, cellK_new, append_new, popAt_new, gFrz_eq, frzK_new, fLen_new, fTuple_new, ixD_new, slA_l, slA_t, slA_new, addTD_t, addCD_l, mulCD_l, isbD_b, isnotbD_b, mSplitC_s, gLstC, gTr, ggSub, lstK_l, lstK_r, addLD_eq]
        cases j with
        | zero => omega
        | succ j =>
          refine ⟨x, y, rfl, ⟨okFs_mem ha mx, plains_mem hb my, ?_, wids_mem wa.2 mx, wids_mem wb.2 my⟩, fun c hc => hk' _ ⟨c, x, y, rfl, rfl, hc⟩⟩
          have := deps_mem my
          omega
      · obtain ⟨bs, rfl, hbs⟩ := zip_pairs hl hcs
        rw [fAll_m]
        exact hk _ (by rw [hbs]; simp)
    · rw [decide_eq_false (show ¬ ((xs.length : Nat) : Int) = ys.length by omega)]
      simp only [sem0, List.map_cons, List.map_nil, List.length_cons, List.length_nil, gSeq, gNext, gRet, gRetN, gIfS, gSet, gPar, gAsg, gDrop, gVar, gC, gBin, gUn, gB, gTru, gAnd, gOr, gNot, gAndV, gOrV, gNotV, gIf, gChain, gaNil, gaCons, DL.gTup, gLst, gCB, gCall0, gAug, addD_i, addD_s, addD_l, addD_t, subD_i, mulD_i, mulD_l, fdivD_i, modD_i, powD_i, ltD_i, ltD_s, leD_i, gtD_i, geD_i, isD_n, isnotD_n, isNonD_non, isNonD_bl, isNonD_int, isNonD_str, isNonD_lst, isNonD_tup, negD_i, iaddD_i, truD_non, truD_bl, truD_int, truD_str, truD_lst, truD_tup, someK_some, ixD_l, ixD_t, fAbs_i, fInt_i, fInt_b, fMin2_i, fLen_l, fLen_t, fLen_s, fList_l, fList_t, fTuple_l, fTuple_t, optBK_some, fIsi_non, fIsi_bl, fIsi_int, fIsi_str, fIsi_lst, fIsi_tup, List.getElem?_cons_zero, List.getElem?_cons_succ, List.set_cons_zero, List.set_cons_succ, DL.ggName, ggNil0, ggCons1, ggTup2, ggTup3, gFor, giSeq, gLc, gYes, wipeR, true_and, and_true, at_0, at_1, at_2, kit_int_int, kit_bool_int, kit_str_int, kit_non_int, kit_list_int, kit_tuple_int, kit_int_bool, kit_bool_bool, kit_str_bool, kit_non_bool, kit_list_bool, kit_tuple_bool, kit_int_str, kit_bool_str, kit_str_str, kit_non_str, kit_list_str, kit_tuple_str, kit_int_list, kit_bool_list, kit_str_list, kit_non_list, kit_list_list, kit_tuple_list, kit_int_tuple, kit_bool_tuple, kit_str_tuple, kit_non_tuple, kit_list_tuple, kit_tuple_tuple, eqD_i, neD_i, eqD_s, neD_s, eqD_f, neD_f, Nat.zero_add, Nat.reduceAdd, nc0, nc1, nc2, nc3, nc4, nc5, nc6, nc7, nc8, nc9, eq_self, decide_true, decide_false, Int.reduceEq, Int.reduceLT, Int.reduceLE, Int.reduceNeg, Bool.not_true, Bool.not_false, Bool.false_eq_true, if_true, if_false, ↓reduceIte, false_and, and_false, List.all_cons, List.all_nil, List.any_cons, List.any_nil, id_eq, Bool.and_true, Bool.true_and, Bool.or_false, Bool.false_or, Bool.and_false, Bool.false_and, gCut, eqD_b, neD_b, giZip, reduceCtorEq, Bool.true_eq_false, Bool.false_eq_true, gRevL, gSl, goNone, goSome, slD_l, ne_eq, not_false_eq_true, not_true_eq_false, gBM, isTy_l, isTy_s, new_at, new_set, isTy_new, cellK_new, append_new, popAt_new, gFrz_eq, frzK_new, fLen_new, fTuple_new, ixD_new, slA_l, slA_t, slA_new, addTD_t, addCD_l, mulCD_l, isbD_b, isnotbD_b, mSplitC_s, gLstC, gTr, ggSub, lstK_l, lstK_r, addLD_eq]
      exact hF rfl (by intro h; cases h; exact hl rfl)
theorem okr__law_same {P : Program} {w : World} {K : PySem.W.Frag} {mg : Str → Option Value} {base : Heap} (T : DefAt K mg "_law_same" s__law_same ["_law_found", "_law_due"]) (B : Blt mg) : ∀ j, FnAt P w K mg base CX0 j "_law_same" 2 (gSame j)
  | 0 => T.mk0 fun f fd F => ⟨fun vs H Q E h => by
      obtain ⟨_, _, _, _, _, _, _, _, _, _, _, h⟩ := h
      exact h.elim, fun A outer s H args us vs Q E _ _ _ _ h => by
      obtain ⟨_, _, _, _, _, _, _, _, _, _, _, h⟩ := h
      exact h.elim⟩
  | j + 1 => (w__law_same T B (okr__law_same T B j)).imp (v__law_same j)
theorem ok__law_same {P : Program} {w : World} {K : PySem.W.Frag} {mg : Str → Option Value} {base : Heap} (T : DefAt K mg "_law_same" s__law_same ["_law_found", "_law_due"]) (B : Blt mg) : FnAt P w K mg base CX0 6 "_law_same" 2 sp__law_same := okr__law_same T B 6
theorem same_use {a b : D} {w : Wd} {kx : KX} {k : KD} (ha : okF a = true) (hb : DL.plain b = true) (hd : dep b ≤ 5) (wa : wid a = true) (wb : wid b = true) (h : ∀ c : Bool, (c = true ↔ a = b) → k (.bl c) w) : sp__law_same [a, b] w kx k := ⟨a, b, rfl, ⟨ha, hb, hd, wa, wb⟩, h⟩
theorem same_yes {a : D} {w : Wd} {kx : KX} {k : KD} (hb : DL.plain a = true) (hd : dep a ≤ 5) (wa : wid a = true) (h : k (.bl true) w) : sp__law_same [a, a] w kx k := same_use (plain_ok hb) hb hd wa wa fun c hc => by
  have : c = true := hc.mpr rfl
  rw [this]
  exact h

/-! ### fractions as pairs -/
abbrev Qp := Int × Int
def fD (x : Qp) : D := .tup [.int x.1, .int x.2]
structure Fr (x : Qp) : Prop where
  pos : 0 < x.2
  cop : Int.gcd x.1 x.2 = 1
def norm (t b : Int) : Qp := (frT t b, frB t b)
/-- both parts below 2 ^ a in size -/
def Lt2 (a : Nat) (x : Qp) : Prop := x.1.natAbs < 2 ^ a ∧ x.2.natAbs < 2 ^ a
theorem fr_norm {t b : Int} (h : b ≠ 0) : Fr (norm t b) := ⟨(fr_is h).pos, (fr_is h).cop⟩
theorem norm_eq {t b : Int} (h : b ≠ 0) : (norm t b).1 * b = t * (norm t b).2 := (fr_is h).eq
theorem norm_of {t b : Int} {x : Qp} (h : b ≠ 0) (hx : Fr x) (e : x.1 * b = t * x.2) : norm t b = x := by
  obtain ⟨h1, h2⟩ := fr_eq h ⟨hx.pos, hx.cop, e⟩
  exact Prod.ext h1 h2
theorem norm_self {x : Qp} (hx : Fr x) : norm x.1 x.2 = x := norm_of (by have := hx.pos; omega) hx rfl
theorem norm_cross {t b t' b' : Int} (h : b ≠ 0) (h' : b' ≠ 0) (e : t * b' = t' * b) : norm t b = norm t' b' := by
  refine norm_of h (fr_norm h') ?_
  have e2 := norm_eq (t := t') h'
  refine Int.eq_of_mul_eq_mul_right h' ?_
  calc (norm t' b').1 * b * b' = (norm t' b').1 * b' * b := by ac_rfl
    _ = t' * (norm t' b').2 * b := by rw [e2]
    _ = t' * b * (norm t' b').2 := by ac_rfl
    _ = t * b' * (norm t' b').2 := by rw [e]
    _ = t * (norm t' b').2 * b' := by ac_rfl
theorem fr_inj {x y : Qp} (hx : Fr x) (hy : Fr y) (e : x.1 * y.2 = y.1 * x.2) : x = y := by
  rw [← norm_self hx, ← norm_self hy]
  exact norm_cross (by have := hx.pos; omega) (by have := hy.pos; omega) e
theorem norm_lt {t b : Int} {a : Nat} (h : b ≠ 0) (ht : t.natAbs < 2 ^ a) (hb : b.natAbs < 2 ^ a) : Lt2 a (norm t b) := ⟨Nat.lt_of_le_of_lt (fr_le h).1 ht, Nat.lt_of_le_of_lt (fr_le h).2 hb⟩
theorem Lt2.mono {a c : Nat} {x : Qp} (h : Lt2 a x) (l : a ≤ c) : Lt2 c x := ⟨Nat.lt_of_lt_of_le h.1 (Nat.pow_le_pow_right (by decide) l), Nat.lt_of_lt_of_le h.2 (Nat.pow_le_pow_right (by decide) l)⟩
theorem nat_mono {n a c : Nat} (h : n < 2 ^ a) (l : a ≤ c) : n < 2 ^ c := Nat.lt_of_lt_of_le h (Nat.pow_le_pow_right (by decide) l)
theorem add_lt {x y : Int} {a : Nat} (hx : x.natAbs < 2 ^ a) (hy : y.natAbs < 2 ^ a) : (x + y).natAbs < 2 ^ (a + 1) := by
  rw [Nat.pow_succ]
  omega
theorem sub_lt {x y : Int} {a : Nat} (hx : x.natAbs < 2 ^ a) (hy : y.natAbs < 2 ^ a) : (x - y).natAbs < 2 ^ (a + 1) := by
  rw [Nat.pow_succ]
  omega
section
variable {x y : Qp} {w : Wd} {k : KD} {t : GGs} {r : Rho} {kr : Rho → Wd → Prop} {n : String}
theorem ixD_f0 : ixD (fD x) (.int 0) w k = k (.int x.1) w := rfl
theorem ixD_f1 : ixD (fD x) (.int 1) w k = k (.int x.2) w := rfl
theorem ggTup_f : DL.ggTup 2 t (fD x) r w kr = t [.int x.1, .int x.2] r w kr := by
  show (2 = 2 ∧ t [.int x.1, .int x.2] r w kr) = _
  simp
theorem fIsi_f : fIsi [fD x, .ob (.ty n)] w k = optBK (kitB "tuple" n) (fun b => k (.bl b) w) := rfl
theorem fLen_f : fLen [fD x] w k = k (.int 2) w := rfl
theorem eqD_ff : eqD (fD x) (fD y) w k = k (.bl (decide (x = y))) w := by
  unfold fD
  rw [eqD_f]
  congr 2
  rw [Bool.eq_iff_iff]
  simp [Prod.ext_iff]
theorem neD_ff : neD (fD x) (fD y) w k = k (.bl (!decide (x = y))) w := by
  unfold fD
  rw [neD_f]
  congr 3
  rw [Bool.eq_iff_iff]
  simp [Prod.ext_iff]
end
theorem plain_f (x : Qp) : DL.plain (fD x) = true := rfl
theorem okF_f (x : Qp) : okF (fD x) = true := rfl
theorem lay_f (x : Qp) : lay (fD x) = true := rfl
theorem dep_f (x : Qp) : dep (fD x) = 1 := rfl
theorem wid_f (x : Qp) : wid (fD x) = true := by
  simp [fD, wid, wids]
theorem fD_inj {x y : Qp} (h : fD x = fD y) : x = y := by
  unfold fD at h
  injection h with h
  injection h with h1 h2
  injection h1 with h1
  injection h2 with h2 _
  injection h2 with h2
  exact Prod.ext h1 h2
/-- the common below, the top over it -/
def Pb : List Qp → Int
  | [] => 1
  | x :: xs => x.2 * Pb xs
def Nt : List Qp → Int
  | [] => 0
  | x :: xs => x.1 * Pb xs + x.2 * Nt xs
theorem Pb_pos : ∀ {xs : List Qp}, (∀ x ∈ xs, Fr x) → 0 < Pb xs
  | [], _ => by decide
  | x :: xs, h => Int.mul_pos (h x List.mem_cons_self).pos (Pb_pos fun y hy => h y (List.mem_cons_of_mem _ hy))
theorem Pb_ne {xs : List Qp} (h : ∀ x ∈ xs, Fr x) : Pb xs ≠ 0 := by
  have := Pb_pos h
  omega
theorem Pb_app : ∀ (xs ys : List Qp), Pb (xs ++ ys) = Pb xs * Pb ys
  | [], ys => by simp [Pb]
  | x :: xs, ys => by
    show x.2 * Pb (xs ++ ys) = x.2 * Pb xs * Pb ys
    rw [Pb_app xs ys, Int.mul_assoc]
theorem Nt_app : ∀ (xs ys : List Qp), Nt (xs ++ ys) = Nt xs * Pb ys + Pb xs * Nt ys
  | [], ys => by simp [Nt, Pb]
  | x :: xs, ys => by
    show x.1 * Pb (xs ++ ys) + x.2 * Nt (xs ++ ys) = (x.1 * Pb xs + x.2 * Nt xs) * Pb ys + x.2 * Pb xs * Nt ys
    rw [Pb_app, Nt_app, Int.add_mul, Int.mul_add]
    have e1 : x.1 * (Pb xs * Pb ys) = x.1 * Pb xs * Pb ys := by ac_rfl
    have e2 : x.2 * (Nt xs * Pb ys) = x.2 * Nt xs * Pb ys := by ac_rfl
    have e3 : x.2 * (Pb xs * Nt ys) = x.2 * Pb xs * Nt ys := by ac_rfl
    rw [e1, e2, e3, Int.add_assoc]
theorem Pb_rev : ∀ xs : List Qp, Pb xs.reverse = Pb xs
  | [] => rfl
  | x :: xs => by
    rw [List.reverse_cons, Pb_app, Pb_rev xs]
    show Pb xs * (x.2 * 1) = x.2 * Pb xs
    rw [Int.mul_one, Int.mul_comm]
theorem Nt_rev : ∀ xs : List Qp, Nt xs.reverse = Nt xs
  | [] => rfl
  | x :: xs => by
    rw [List.reverse_cons, Nt_app, Nt_rev xs, Pb_rev xs]
    show Nt xs * (x.2 * 1) + Pb xs * (x.1 * 1 + x.2 * 0) = x.1 * Pb xs + x.2 * Nt xs
    rw [Int.mul_one, Int.mul_one, Int.mul_zero, Int.add_zero, Int.add_comm, Int.mul_comm (Pb xs), Int.mul_comm (Nt xs)]
/-- all fractions of a list together -/
def sumQ (xs : List Qp) : Qp := norm (Nt xs) (Pb xs)
theorem fr_sum {xs : List Qp} (h : ∀ x ∈ xs, Fr x) : Fr (sumQ xs) := fr_norm (Pb_ne h)
theorem sumQ_rev (xs : List Qp) : sumQ xs.reverse = sumQ xs := by
  unfold sumQ
  rw [Nt_rev, Pb_rev]
theorem sumQ_nil : sumQ [] = (0, 1) := norm_of (by decide) ⟨by decide, by decide⟩ rfl
theorem sumQ_one {x : Qp} (h : Fr x) : sumQ [x] = x := by
  refine norm_of ?_ h ?_
  · show x.2 * 1 ≠ 0
    have := h.pos
    omega
  · show x.1 * (x.2 * 1) = (x.1 * 1 + x.2 * 0) * x.2
    rw [Int.mul_one, Int.mul_one, Int.mul_zero, Int.add_zero]
/-- one more behind: as the program adds -/
theorem sumQ_snoc {xs : List Qp} {x : Qp} (h : ∀ y ∈ xs, Fr y) (hx : Fr x) : norm ((sumQ xs).1 * x.2 + x.1 * (sumQ xs).2) ((sumQ xs).2 * x.2) = sumQ (xs ++ [x]) := by
  have hp := (fr_sum h).pos
  have hxp := hx.pos
  have e := norm_eq (t := Nt xs) (Pb_ne h)
  have n1 : (sumQ xs).2 * x.2 ≠ 0 := Int.mul_ne_zero (by omega) (by omega)
  have n2 : Pb (xs ++ [x]) ≠ 0 := by
    rw [Pb_app]
    show Pb xs * (x.2 * 1) ≠ 0
    rw [Int.mul_one]
    exact Int.mul_ne_zero (Pb_ne h) (by omega)
  refine norm_cross n1 n2 ?_
  rw [Pb_app, Nt_app]
  show ((sumQ xs).1 * x.2 + x.1 * (sumQ xs).2) * (Pb xs * (x.2 * 1)) = (Nt xs * (x.2 * 1) + Pb xs * (x.1 * 1 + x.2 * 0)) * ((sumQ xs).2 * x.2)
  have e' : (sumQ xs).1 * Pb xs = Nt xs * (sumQ xs).2 := e
  rw [Int.mul_one, Int.mul_one, Int.mul_zero, Int.add_zero, Int.add_mul, Int.add_mul]
  have a1 : (sumQ xs).1 * x.2 * (Pb xs * x.2) = Nt xs * x.2 * ((sumQ xs).2 * x.2) := by
    calc (sumQ xs).1 * x.2 * (Pb xs * x.2) = (sumQ xs).1 * Pb xs * (x.2 * x.2) := by ac_rfl
      _ = Nt xs * (sumQ xs).2 * (x.2 * x.2) := by rw [e']
      _ = Nt xs * x.2 * ((sumQ xs).2 * x.2) := by ac_rfl
  have a2 : x.1 * (sumQ xs).2 * (Pb xs * x.2) = Pb xs * x.1 * ((sumQ xs).2 * x.2) := by ac_rfl
  rw [a1, a2]
def subQ (y x : Qp) : Qp := norm (y.1 * x.2 - x.1 * y.2) (x.2 * y.2)
def mulQ (x y : Qp) : Qp := norm (x.1 * y.1) (x.2 * y.2)
def divQ (x y : Qp) : Qp := norm (x.1 * y.2) (x.2 * y.1)
/-! ### sum_of, taken_from -/
def FrB (a : Nat) (xs : List Qp) : Prop := ∀ x ∈ xs, Fr x ∧ Lt2 a x

def Big (x : Int) : Prop := x.natAbs < 2 ^ 4000
def sp_divisor_of : GF := fun ds w _ k => ∃ a b : Int, ds = [.int a, .int b] ∧ k (.int (Int.gcd a b)) w
abbrev s_divisor_of : Stmt := topS 13
theorem sc_divisor_of : FnScope ["one", "other"] ["one", "other"] (defScope s_divisor_of) := ⟨rfl, rfl, rfl, by decide +kernel, rfl, by decide +kernel, by decide +kernel⟩
def g_divisor_of : GS := (gSeq (gPar 0 1 (gaCons (gCB fAbs (gaCons (gVar 0) gaNil)) (gaCons (gCB fAbs (gaCons (gVar 1) gaNil)) gaNil)))
  (gSeq (gWhile (gB (gBin gtD (gVar 1) (gC (.int 0)))) (gPar 0 1 (gaCons (gVar 1) (gaCons (gBin modD (gVar 0) (gVar 1)) gaNil))))
  (gRet (gVar 0))))
theorem w_divisor_of {P : Program} {w : World} {K : PySem.W.Frag} {mg : Str → Option Value} {base : Heap} (T : DefAt K mg "divisor_of" s_divisor_of ["one", "other"]) (B : Blt mg) : FnAt P w K mg base CX0 1 "divisor_of" 2 (sem0 2 g_divisor_of) := by
  have nd := sc_divisor_of.nd
  exact T.fn0 sc_divisor_of (fun f cdv A outer s H E hr => (dss_cons (ds_par (i := 0) (j := 1) rfl nd rfl rfl (by decide) rfl rfl (da_cons (de_abs B (by rfl) (da_cons (de_var 0) da_nil)) (da_cons (de_abs B (by rfl) (da_cons (de_var 1) da_nil)) da_nil)) (by rfl))
  (dss_cons (ds_while PassesOwn.never (dt_gt (de_var 1) de_int) (dss_one (ds_par (i := 0) (j := 1) rfl nd rfl rfl (by decide) rfl rfl (da_cons (de_var 1) (da_cons (de_mod (de_var 0) (de_var 1)) da_nil)) (by rfl))))
  (dss_one (ds_ret (de_var 0))))))

theorem v_divisor_of : ∀ ds w kx k, sp_divisor_of ds w kx k → sem0 2 g_divisor_of ds w kx k := by
  rintro ds w kx k ⟨a, b, rfl, hk⟩
  have e : rho 2 [D.int a, D.int b] = [some (.int a), some (.int b)] := rfl
  simp only [g_divisor_of, e, sem0, List.map_cons, List.map_nil, List.length_cons, List.length_nil, gSeq, gNext, gRet, gRetN, gIfS, gSet, gPar, gAsg, gDrop, gVar, gC, gBin, gUn, gB, gTru, gAnd, gOr, gNot, gAndV, gOrV, gNotV, gIf, gChain, gaNil, gaCons, DL.gTup, gLst, gCB, gCall0, gAug, addD_i, addD_s, addD_l, addD_t, subD_i, mulD_i, mulD_l, fdivD_i, modD_i, powD_i, ltD_i, ltD_s, leD_i, gtD_i, geD_i, isD_n, isnotD_n, isNonD_non, isNonD_bl, isNonD_int, isNonD_str, isNonD_lst, isNonD_tup, negD_i, iaddD_i, truD_non, truD_bl, truD_int, truD_str, truD_lst, truD_tup, someK_some, ixD_l, ixD_t, fAbs_i, fInt_i, fInt_b, fMin2_i, fLen_l, fLen_t, fLen_s, fList_l, fList_t, fTuple_l, fTuple_t, optBK_some, fIsi_non, fIsi_bl, fIsi_int, fIsi_str, fIsi_lst, fIsi_tup, List.getElem?_cons_zero, List.getElem?_cons_succ, List.set_cons_zero, List.set_cons_succ, DL.ggName, ggNil0, ggCons1, ggTup2, ggTup3, gFor, giSeq, gLc, gYes, wipeR, true_and, and_true, at_0, at_1, at_2, kit_int_int, kit_bool_int, kit_str_int, kit_non_int, kit_list_int, kit_tuple_int, kit_int_bool, kit_bool_bool, kit_str_bool, kit_non_bool, kit_list_bool, kit_tuple_bool, kit_int_str, kit_bool_str, kit_str_str, kit_non_str, kit_list_str, kit_tuple_str, kit_int_list, kit_bool_list, kit_str_list, kit_non_list, kit_list_list, kit_tuple_list, kit_int_tuple, kit_bool_tuple, kit_str_tuple, kit_non_tuple, kit_list_tuple, kit_tuple_tuple, eqD_i, neD_i, eqD_s, neD_s, eqD_f, neD_f, Nat.zero_add, Nat.reduceAdd, nc0, nc1, nc2, nc3, nc4, nc5, nc6, nc7, nc8, nc9, eq_self, decide_true, decide_false, Int.reduceEq, Int.reduceLT, Int.reduceLE, Int.reduceNeg, Bool.not_true, Bool.not_false, Bool.false_eq_true, if_true, if_false, ↓reduceIte, false_and, and_false, List.all_cons, List.all_nil, List.any_cons, List.any_nil, id_eq, Bool.and_true, Bool.true_and, Bool.or_false, Bool.false_or, Bool.and_false, Bool.false_and, gCut, eqD_b, neD_b, giZip, reduceCtorEq, Bool.true_eq_false, Bool.false_eq_true, gRevL, gSl, goNone, goSome, slD_l, ne_eq, not_false_eq_true, not_true_eq_false, gBM, isTy_l, isTy_s, new_at, new_set, isTy_new, cellK_new, append_new, popAt_new, gFrz_eq, frzK_new, fLen_new, fTuple_new, ixD_new, slA_l, slA_t, slA_new, addTD_t, addCD_l, mulCD_l, isbD_b, isnotbD_b, mSplitC_s, gLstC, gTr, ggSub, lstK_l, lstK_r, addLD_eq]
  refine ⟨fun m ρ w' => ∃ x y : Nat, ρ = [some (.int x), some (.int y)] ∧ Nat.gcd x y = Int.gcd a b ∧ m = y ∧ w' = w, ⟨_, a.natAbs, b.natAbs, rfl, rfl, rfl, rfl⟩, ?_⟩
  rintro m ρ w' ⟨x, y, rfl, hg, rfl, rfl⟩
  simp only [sem0, List.map_cons, List.map_nil, List.length_cons, List.length_nil, gSeq, gNext, gRet, gRetN, gIfS, gSet, gPar, gAsg, gDrop, gVar, gC, gBin, gUn, gB, gTru, gAnd, gOr, gNot, gAndV, gOrV, gNotV, gIf, gChain, gaNil, gaCons, DL.gTup, gLst, gCB, gCall0, gAug, addD_i, addD_s, addD_l, addD_t, subD_i, mulD_i, mulD_l, fdivD_i, modD_i, powD_i, ltD_i, ltD_s, leD_i, gtD_i, geD_i, isD_n, isnotD_n, isNonD_non, isNonD_bl, isNonD_int, isNonD_str, isNonD_lst, isNonD_tup, negD_i, iaddD_i, truD_non, truD_bl, truD_int, truD_str, truD_lst, truD_tup, someK_some, ixD_l, ixD_t, fAbs_i, fInt_i, fInt_b, fMin2_i, fLen_l, fLen_t, fLen_s, fList_l, fList_t, fTuple_l, fTuple_t, optBK_some, fIsi_non, fIsi_bl, fIsi_int, fIsi_str, fIsi_lst, fIsi_tup, List.getElem?_cons_zero, List.getElem?_cons_succ, List.set_cons_zero, List.set_cons_succ, DL.ggName, ggNil0, ggCons1, ggTup2, ggTup3, gFor, giSeq, gLc, gYes, wipeR, true_and, and_true, at_0, at_1, at_2, kit_int_int, kit_bool_int, kit_str_int, kit_non_int, kit_list_int, kit_tuple_int, kit_int_bool, kit_bool_bool, kit_str_bool, kit_non_bool, kit_list_bool, kit_tuple_bool, kit_int_str, kit_bool_str, kit_str_str, kit_non_str, kit_list_str, kit_tuple_str, kit_int_list, kit_bool_list, kit_str_list, kit_non_list, kit_list_list, kit_tuple_list, kit_int_tuple, kit_bool_tuple, kit_str_tuple, kit_non_tuple, kit_list_tuple, kit_tuple_tuple, eqD_i, neD_i, eqD_s, neD_s, eqD_f, neD_f, Nat.zero_add, Nat.reduceAdd, nc0, nc1, nc2, nc3, nc4, nc5, nc6, nc7, nc8, nc9, eq_self, decide_true, decide_false, Int.reduceEq, Int.reduceLT, Int.reduceLE, Int.reduceNeg, Bool.not_true, Bool.not_false, Bool.false_eq_true, if_true, if_false, ↓reduceIte, false_and, and_false, List.all_cons, List.all_nil, List.any_cons, List.any_nil, id_eq, Bool.and_true, Bool.true_and, Bool.or_false, Bool.false_or, Bool.and_false, Bool.false_and, gCut, eqD_b, neD_b, giZip, reduceCtorEq, Bool.true_eq_false, Bool.false_eq_true, gRevL, gSl, goNone, goSome, slD_l, ne_eq, not_false_eq_true, not_true_eq_false, gBM, isTy_l, isTy_s, new_at, new_set, isTy_new, cellK_new, append_new, popAt_new, gFrz_eq, frzK_new, fLen_new, fTuple_new, ixD_new, slA_l, slA_t, slA_new, addTD_t, addCD_l, mulCD_l, isbD_b, isnotbD_b, mSplitC_s, gLstC, gTr, ggSub, lstK_l, lstK_r, addLD_eq]
  refine ite2 (fun h => ?_) (fun h => ?_)
  · have h0 : 0 < m := by simpa using h
    refine ⟨by omega, x % m, Nat.mod_lt _ h0, m, x % m, by rw [fmod_nat], ?_, rfl⟩
    rw [← hg, Nat.gcd_comm x m, Nat.gcd_rec m x, Nat.gcd_comm]
  · have h0 : m = 0 := by
      have : ¬ 0 < m := by simpa using h
      omega
    subst h0
    rw [Nat.gcd_zero_right] at hg
    rw [hg]
    exact hk
theorem ok_divisor_of {P : Program} {w : World} {K : PySem.W.Frag} {mg : Str → Option Value} {base : Heap} (T : DefAt K mg "divisor_of" s_divisor_of ["one", "other"]) (B : Blt mg) : FnAt P w K mg base CX0 1 "divisor_of" 2 sp_divisor_of := (w_divisor_of T B ).imp v_divisor_of

def sp_fraction_of : GF := fun ds w _ k => ∃ t b : Int, ds = [.int t, .int b] ∧ (b ≠ 0 ∧ Big b) ∧ k (fD (norm t b)) w
abbrev s_fraction_of : Stmt := topS 14
theorem sc_fraction_of : FnScope ["top", "below", "divisor"] ["top", "below"] (defScope s_fraction_of) := ⟨rfl, rfl, rfl, by decide +kernel, rfl, by decide +kernel, by decide +kernel⟩
def g_fraction_of : GS := (gSeq (gSet 2 (gCall0 2 sp_divisor_of (gaCons (gVar 0) (gaCons (gVar 1) gaNil))))
  (gCut (gIfS (gB (gBin ltD (gVar 1) (gC (.int 0)))) (gSet 2 (gUn negD (gVar 2))) gNext)
  (gRet (gTup (gaCons (gBin fdivD (gVar 0) (gVar 2)) (gaCons (gBin fdivD (gVar 1) (gVar 2)) gaNil))))))
theorem w_fraction_of {P : Program} {w : World} {K : PySem.W.Frag} {mg : Str → Option Value} {base : Heap} (T : DefAt K mg "fraction_of" s_fraction_of ["top", "below"]) (B : Blt mg) (F_divisor_of : FnAt P w K mg base CX0 1 "divisor_of" 2 sp_divisor_of) : FnAt P w K mg base CX0 2 "fraction_of" 2 (sem0 3 g_fraction_of) := by
  have nd := sc_fraction_of.nd
  exact T.fn0 sc_fraction_of (fun f cdv A outer s H E hr => (dss_cons (ds_set (i := 2) nd rfl (by first | exact Or.inl rfl | exact Or.inr rfl) (de_call0 F_divisor_of hr (by rfl) (da_cons (de_var 0) (da_cons (de_var 1) da_nil))))
  (dss_cut (ds_if (dt_lt (de_var 1) de_int) (dss_one (ds_set (i := 2) nd rfl (by first | exact Or.inl rfl | exact Or.inr rfl) (de_neg (de_var 2)))) dss_nil)
  (dss_one (ds_ret (de_tup (da_cons (de_fdiv (de_var 0) (de_var 2)) (da_cons (de_fdiv (de_var 1) (de_var 2)) da_nil))))))))

theorem v_fraction_of : ∀ ds w kx k, sp_fraction_of ds w kx k → sem0 3 g_fraction_of ds w kx k := by
  rintro ds w kx k ⟨t, b, rfl, ⟨hb, hB⟩, hk⟩
  have e : rho 3 [D.int t, D.int b] = [some (.int t), some (.int b), none] := rfl
  have g0 := gcd_pos (t := t) hb
  have gl : (Int.gcd t b).log2 < 9000 := log_ok (Nat.lt_of_le_of_lt (gcd_le hb) hB)
  obtain ⟨d1, d2⟩ := sg_dvd t b
  obtain ⟨ns, nl⟩ : sg t b ≠ 0 ∧ (sg t b).natAbs.log2 < 9000 := ⟨sg_ne hb, by rw [sg_abs]; exact gl⟩
  simp only [g_fraction_of, e, sp_divisor_of, sem0, List.map_cons, List.map_nil, List.length_cons, List.length_nil, gSeq, gNext, gRet, gRetN, gIfS, gSet, gPar, gAsg, gDrop, gVar, gC, gBin, gUn, gB, gTru, gAnd, gOr, gNot, gAndV, gOrV, gNotV, gIf, gChain, gaNil, gaCons, DL.gTup, gLst, gCB, gCall0, gAug, addD_i, addD_s, addD_l, addD_t, subD_i, mulD_i, mulD_l, fdivD_i, modD_i, powD_i, ltD_i, ltD_s, leD_i, gtD_i, geD_i, isD_n, isnotD_n, isNonD_non, isNonD_bl, isNonD_int, isNonD_str, isNonD_lst, isNonD_tup, negD_i, iaddD_i, truD_non, truD_bl, truD_int, truD_str, truD_lst, truD_tup, someK_some, ixD_l, ixD_t, fAbs_i, fInt_i, fInt_b, fMin2_i, fLen_l, fLen_t, fLen_s, fList_l, fList_t, fTuple_l, fTuple_t, optBK_some, fIsi_non, fIsi_bl, fIsi_int, fIsi_str, fIsi_lst, fIsi_tup, List.getElem?_cons_zero, List.getElem?_cons_succ, List.set_cons_zero, List.set_cons_succ, DL.ggName, ggNil0, ggCons1, ggTup2, ggTup3, gFor, giSeq, gLc, gYes, wipeR, true_and, and_true, at_0, at_1, at_2, kit_int_int, kit_bool_int, kit_str_int, kit_non_int, kit_list_int, kit_tuple_int, kit_int_bool, kit_bool_bool, kit_str_bool, kit_non_bool, kit_list_bool, kit_tuple_bool, kit_int_str, kit_bool_str, kit_str_str, kit_non_str, kit_list_str, kit_tuple_str, kit_int_list, kit_bool_list, kit_str_list, kit_non_list, kit_list_list, kit_tuple_list, kit_int_tuple, kit_bool_tuple, kit_str_tuple, kit_non_tuple, kit_list_tuple, kit_tuple_tuple, eqD_i, neD_i, eqD_s, neD_s, eqD_f, neD_f, Nat.zero_add, Nat.reduceAdd, nc0, nc1, nc2, nc3, nc4, nc5, nc6, nc7, nc8, nc9, eq_self, decide_true, decide_false, Int.reduceEq, Int.reduceLT, Int.reduceLE, Int.reduceNeg, Bool.not_true, Bool.not_false, Bool.false_eq_true, if_true, if_false, ↓reduceIte, false_and, and_false, List.all_cons, List.all_nil, List.any_cons, List.any_nil, id_eq, Bool.and_true, Bool.true_and, Bool.or_false, Bool.false_or, Bool.and_false, Bool.false_and, gCut, eqD_b, neD_b, giZip, reduceCtorEq, Bool.true_eq_false, Bool.false_eq_true, gRevL, gSl, goNone, goSome, slD_l, ne_eq, not_false_eq_true, not_true_eq_false, gBM, isTy_l, isTy_s, new_at, new_set, isTy_new, cellK_new, append_new, popAt_new, gFrz_eq, frzK_new, fLen_new, fTuple_new, ixD_new, slA_l, slA_t, slA_new, addTD_t, addCD_l, mulCD_l, isbD_b, isnotbD_b, mSplitC_s, gLstC, gTr, ggSub, lstK_l, lstK_r, addLD_eq]
  refine ⟨t, b, rfl, fun ρ w' => ρ = [some (.int t), some (.int b), some (.int (sg t b))] ∧ w' = w, ?_, ?_⟩
  · refine ite2 (fun h => ⟨?_, rfl⟩) (fun h => ⟨?_, rfl⟩)
    · unfold sg
      rw [if_pos (by simpa using h)]
    · unfold sg
      rw [if_neg (by simpa using h)]
  · rintro ρ w' ⟨rfl, rfl⟩
    simp only [sem0, List.map_cons, List.map_nil, List.length_cons, List.length_nil, gSeq, gNext, gRet, gRetN, gIfS, gSet, gPar, gAsg, gDrop, gVar, gC, gBin, gUn, gB, gTru, gAnd, gOr, gNot, gAndV, gOrV, gNotV, gIf, gChain, gaNil, gaCons, DL.gTup, gLst, gCB, gCall0, gAug, addD_i, addD_s, addD_l, addD_t, subD_i, mulD_i, mulD_l, fdivD_i, modD_i, powD_i, ltD_i, ltD_s, leD_i, gtD_i, geD_i, isD_n, isnotD_n, isNonD_non, isNonD_bl, isNonD_int, isNonD_str, isNonD_lst, isNonD_tup, negD_i, iaddD_i, truD_non, truD_bl, truD_int, truD_str, truD_lst, truD_tup, someK_some, ixD_l, ixD_t, fAbs_i, fInt_i, fInt_b, fMin2_i, fLen_l, fLen_t, fLen_s, fList_l, fList_t, fTuple_l, fTuple_t, optBK_some, fIsi_non, fIsi_bl, fIsi_int, fIsi_str, fIsi_lst, fIsi_tup, List.getElem?_cons_zero, List.getElem?_cons_succ, List.set_cons_zero, List.set_cons_succ, DL.ggName, ggNil0, ggCons1, ggTup2, ggTup3, gFor, giSeq, gLc, gYes, wipeR, true_and, and_true, at_0, at_1, at_2, kit_int_int, kit_bool_int, kit_str_int, kit_non_int, kit_list_int, kit_tuple_int, kit_int_bool, kit_bool_bool, kit_str_bool, kit_non_bool, kit_list_bool, kit_tuple_bool, kit_int_str, kit_bool_str, kit_str_str, kit_non_str, kit_list_str, kit_tuple_str, kit_int_list, kit_bool_list, kit_str_list, kit_non_list, kit_list_list, kit_tuple_list, kit_int_tuple, kit_bool_tuple, kit_str_tuple, kit_non_tuple, kit_list_tuple, kit_tuple_tuple, eqD_i, neD_i, eqD_s, neD_s, eqD_f, neD_f, Nat.zero_add, Nat.reduceAdd, nc0, nc1, nc2, nc3, nc4, nc5, nc6, nc7, nc8, nc9, eq_self, decide_true, decide_false, Int.reduceEq, Int.reduceLT, Int.reduceLE, Int.reduceNeg, Bool.not_true, Bool.not_false, Bool.false_eq_true, if_true, if_false, ↓reduceIte, false_and, and_false, List.all_cons, List.all_nil, List.any_cons, List.any_nil, id_eq, Bool.and_true, Bool.true_and, Bool.or_false, Bool.false_or, Bool.and_false, Bool.false_and, gCut, eqD_b, neD_b, giZip, reduceCtorEq, Bool.true_eq_false, Bool.false_eq_true, gRevL, gSl, goNone, goSome, slD_l, ne_eq, not_false_eq_true, not_true_eq_false, gBM, isTy_l, isTy_s, new_at, new_set, isTy_new, cellK_new, append_new, popAt_new, gFrz_eq, frzK_new, fLen_new, fTuple_new, ixD_new, slA_l, slA_t, slA_new, addTD_t, addCD_l, mulCD_l, isbD_b, isnotbD_b, mSplitC_s, gLstC, gTr, ggSub, lstK_l, lstK_r, addLD_eq]
    exact ⟨⟨ns, nl⟩, ⟨ns, nl⟩, by decide, by rw [fdiv_dvd d1, fdiv_dvd d2]; exact hk⟩
theorem ok_fraction_of {P : Program} {w : World} {K : PySem.W.Frag} {mg : Str → Option Value} {base : Heap} (T : DefAt K mg "fraction_of" s_fraction_of ["top", "below"]) (B : Blt mg) (F_divisor_of : FnAt P w K mg base CX0 1 "divisor_of" 2 sp_divisor_of) : FnAt P w K mg base CX0 2 "fraction_of" 2 sp_fraction_of := (w_fraction_of T B F_divisor_of).imp v_fraction_of


def sp__law_lowest : GF := fun ds w _ k => ∃ t b : Int, ds = [.int t, .int b] ∧ (b ≠ 0 ∧ Big b ∧ Big t) ∧ k (fD (norm t b)) w
abbrev s__law_lowest : Stmt := topS 22
theorem sc__law_lowest : FnScope ["_law_top", "_law_below", "_law_one", "_law_other", "_law_sign"] ["_law_top", "_law_below"] (defScope s__law_lowest) := ⟨rfl, rfl, rfl, by decide +kernel, rfl, by decide +kernel, by decide +kernel⟩
def g__law_lowest : GS := (gSeq (gPar 2 3 (gaCons (gCB fAbs (gaCons (gVar 0) gaNil)) (gaCons (gCB fAbs (gaCons (gVar 1) gaNil)) gaNil)))
  (gSeq (gWhile (gB (gBin gtD (gVar 3) (gC (.int 0)))) (gPar 2 3 (gaCons (gVar 3) (gaCons (gBin modD (gVar 2) (gVar 3)) gaNil))))
  (gCut (gSet 4 (gIf (gB (gBin ltD (gVar 1) (gC (.int 0)))) (gUn negD (gC (.int 1))) (gC (.int 1))))
  (gRet (gTup (gaCons (gBin fdivD (gBin mulD (gVar 4) (gVar 0)) (gVar 2)) (gaCons (gBin fdivD (gBin mulD (gVar 4) (gVar 1)) (gVar 2)) gaNil)))))))
theorem w__law_lowest {P : Program} {w : World} {K : PySem.W.Frag} {mg : Str → Option Value} {base : Heap} (T : DefAt K mg "_law_lowest" s__law_lowest ["_law_top", "_law_below"]) (B : Blt mg) : FnAt P w K mg base CX0 1 "_law_lowest" 2 (sem0 5 g__law_lowest) := by
  have nd := sc__law_lowest.nd
  exact T.fn0 sc__law_lowest (fun f cdv A outer s H E hr => (dss_cons (ds_par (i := 2) (j := 3) rfl nd rfl rfl (by decide) rfl rfl (da_cons (de_abs B (by rfl) (da_cons (de_var 0) da_nil)) (da_cons (de_abs B (by rfl) (da_cons (de_var 1) da_nil)) da_nil)) (by rfl))
  (dss_cons (ds_while PassesOwn.never (dt_gt (de_var 3) de_int) (dss_one (ds_par (i := 2) (j := 3) rfl nd rfl rfl (by decide) rfl rfl (da_cons (de_var 3) (da_cons (de_mod (de_var 2) (de_var 3)) da_nil)) (by rfl))))
  (dss_cut (ds_set (i := 4) nd rfl (by first | exact Or.inl rfl | exact Or.inr rfl) (de_ifExp (dt_lt (de_var 1) de_int) (de_neg de_int) de_int))
  (dss_one (ds_ret (de_tup (da_cons (de_fdiv (de_mul (de_var 4) (de_var 0)) (de_var 2)) (da_cons (de_fdiv (de_mul (de_var 4) (de_var 1)) (de_var 2)) da_nil)))))))))

theorem v__law_lowest : ∀ ds w kx k, sp__law_lowest ds w kx k → sem0 5 g__law_lowest ds w kx k := by
  rintro ds w kx k ⟨t, b, rfl, ⟨hb, hB, hT⟩, hk⟩
  have e : rho 5 [D.int t, D.int b] = [some (.int t), some (.int b), none, none, none] := rfl
  have g0 := gcd_pos (t := t) hb
  have gl : (Int.gcd t b).log2 < 9000 := log_ok (Nat.lt_of_le_of_lt (gcd_le hb) hB)
  simp only [g__law_lowest, e, sem0, List.map_cons, List.map_nil, List.length_cons, List.length_nil, gSeq, gNext, gRet, gRetN, gIfS, gSet, gPar, gAsg, gDrop, gVar, gC, gBin, gUn, gB, gTru, gAnd, gOr, gNot, gAndV, gOrV, gNotV, gIf, gChain, gaNil, gaCons, DL.gTup, gLst, gCB, gCall0, gAug, addD_i, addD_s, addD_l, addD_t, subD_i, mulD_i, mulD_l, fdivD_i, modD_i, powD_i, ltD_i, ltD_s, leD_i, gtD_i, geD_i, isD_n, isnotD_n, isNonD_non, isNonD_bl, isNonD_int, isNonD_str, isNonD_lst, isNonD_tup, negD_i, iaddD_i, truD_non, truD_bl, truD_int, truD_str, truD_lst, truD_tup, someK_some, ixD_l, ixD_t, fAbs_i, fInt_i, fInt_b, fMin2_i, fLen_l, fLen_t, fLen_s, fList_l, fList_t, fTuple_l, fTuple_t, optBK_some, fIsi_non, fIsi_bl, fIsi_int, fIsi_str, fIsi_lst, fIsi_tup, List.getElem?_cons_zero, List.getElem?_cons_succ, List.set_cons_zero, List.set_cons_succ, DL.ggName, ggNil0, ggCons1, ggTup2, ggTup3, gFor, giSeq, gLc, gYes, wipeR, true_and, and_true, at_0, at_1, at_2, kit_int_int, kit_bool_int, kit_str_int, kit_non_int, kit_list_int, kit_tuple_int, kit_int_bool, kit_bool_bool, kit_str_bool, kit_non_bool, kit_list_bool, kit_tuple_bool, kit_int_str, kit_bool_str, kit_str_str, kit_non_str, kit_list_str, kit_tuple_str, kit_int_list, kit_bool_list, kit_str_list, kit_non_list, kit_list_list, kit_tuple_list, kit_int_tuple, kit_bool_tuple, kit_str_tuple, kit_non_tuple, kit_list_tuple, kit_tuple_tuple, eqD_i, neD_i, eqD_s, neD_s, eqD_f, neD_f, Nat.zero_add, Nat.reduceAdd, nc0, nc1, nc2, nc3, nc4, nc5, nc6, nc7, nc8, nc9, eq_self, decide_true, decide_false, Int.reduceEq, Int.reduceLT, Int.reduceLE, Int.reduceNeg, Bool.not_true, Bool.not_false, Bool.false_eq_true, if_true, if_false, ↓reduceIte, false_and, and_false, List.all_cons, List.all_nil, List.any_cons, List.any_nil, id_eq, Bool.and_true, Bool.true_and, Bool.or_false, Bool.false_or, Bool.and_false, Bool.false_and, gCut, eqD_b, neD_b, giZip, reduceCtorEq, Bool.true_eq_false, Bool.false_eq_true, gRevL, gSl, goNone, goSome, slD_l, ne_eq, not_false_eq_true, not_true_eq_false, gBM, isTy_l, isTy_s, new_at, new_set, isTy_new, cellK_new, append_new, popAt_new, gFrz_eq, frzK_new, fLen_new, fTuple_new, ixD_new, slA_l, slA_t, slA_new, addTD_t, addCD_l, mulCD_l, isbD_b, isnotbD_b, mSplitC_s, gLstC, gTr, ggSub, lstK_l, lstK_r, addLD_eq]
  refine ⟨fun m ρ w' => ∃ x y : Nat, ρ = [some (.int t), some (.int b), some (.int x), some (.int y), none] ∧ Nat.gcd x y = Int.gcd t b ∧ m = y ∧ w' = w, ⟨_, t.natAbs, b.natAbs, rfl, rfl, rfl, rfl⟩, ?_⟩
  rintro m ρ w' ⟨x, y, rfl, hg, rfl, rfl⟩
  simp only [sem0, List.map_cons, List.map_nil, List.length_cons, List.length_nil, gSeq, gNext, gRet, gRetN, gIfS, gSet, gPar, gAsg, gDrop, gVar, gC, gBin, gUn, gB, gTru, gAnd, gOr, gNot, gAndV, gOrV, gNotV, gIf, gChain, gaNil, gaCons, DL.gTup, gLst, gCB, gCall0, gAug, addD_i, addD_s, addD_l, addD_t, subD_i, mulD_i, mulD_l, fdivD_i, modD_i, powD_i, ltD_i, ltD_s, leD_i, gtD_i, geD_i, isD_n, isnotD_n, isNonD_non, isNonD_bl, isNonD_int, isNonD_str, isNonD_lst, isNonD_tup, negD_i, iaddD_i, truD_non, truD_bl, truD_int, truD_str, truD_lst, truD_tup, someK_some, ixD_l, ixD_t, fAbs_i, fInt_i, fInt_b, fMin2_i, fLen_l, fLen_t, fLen_s, fList_l, fList_t, fTuple_l, fTuple_t, optBK_some, fIsi_non, fIsi_bl, fIsi_int, fIsi_str, fIsi_lst, fIsi_tup, List.getElem?_cons_zero, List.getElem?_cons_succ, List.set_cons_zero, List.set_cons_succ, DL.ggName, ggNil0, ggCons1, ggTup2, ggTup3, gFor, giSeq, gLc, gYes, wipeR, true_and, and_true, at_0, at_1, at_2, kit_int_int, kit_bool_int, kit_str_int, kit_non_int, kit_list_int, kit_tuple_int, kit_int_bool, kit_bool_bool, kit_str_bool, kit_non_bool, kit_list_bool, kit_tuple_bool, kit_int_str, kit_bool_str, kit_str_str, kit_non_str, kit_list_str, kit_tuple_str, kit_int_list, kit_bool_list, kit_str_list, kit_non_list, kit_list_list, kit_tuple_list, kit_int_tuple, kit_bool_tuple, kit_str_tuple, kit_non_tuple, kit_list_tuple, kit_tuple_tuple, eqD_i, neD_i, eqD_s, neD_s, eqD_f, neD_f, Nat.zero_add, Nat.reduceAdd, nc0, nc1, nc2, nc3, nc4, nc5, nc6, nc7, nc8, nc9, eq_self, decide_true, decide_false, Int.reduceEq, Int.reduceLT, Int.reduceLE, Int.reduceNeg, Bool.not_true, Bool.not_false, Bool.false_eq_true, if_true, if_false, ↓reduceIte, false_and, and_false, List.all_cons, List.all_nil, List.any_cons, List.any_nil, id_eq, Bool.and_true, Bool.true_and, Bool.or_false, Bool.false_or, Bool.and_false, Bool.false_and, gCut, eqD_b, neD_b, giZip, reduceCtorEq, Bool.true_eq_false, Bool.false_eq_true, gRevL, gSl, goNone, goSome, slD_l, ne_eq, not_false_eq_true, not_true_eq_false, gBM, isTy_l, isTy_s, new_at, new_set, isTy_new, cellK_new, append_new, popAt_new, gFrz_eq, frzK_new, fLen_new, fTuple_new, ixD_new, slA_l, slA_t, slA_new, addTD_t, addCD_l, mulCD_l, isbD_b, isnotbD_b, mSplitC_s, gLstC, gTr, ggSub, lstK_l, lstK_r, addLD_eq]
  refine ite2 (fun h => ?_) (fun h => ?_)
  · have h0 : 0 < m := by simpa using h
    refine ⟨by omega, x % m, Nat.mod_lt _ h0, m, x % m, by rw [fmod_nat], ?_, rfl⟩
    rw [← hg, Nat.gcd_comm x m, Nat.gcd_rec m x, Nat.gcd_comm]
  · have h0 : m = 0 := by
      have : ¬ 0 < m := by simpa using h
      omega
    subst h0
    rw [Nat.gcd_zero_right] at hg
    rw [hg]
    obtain ⟨d1, d2⟩ := sg_dvd t b
    have gd1 : (Int.gcd t b : Int) ∣ t := Int.gcd_dvd_left t b
    have gd2 : (Int.gcd t b : Int) ∣ b := Int.gcd_dvd_right t b
    have gn : (Int.gcd t b : Int) ≠ 0 := by omega
    have gl2 : (Int.gcd t b : Int).natAbs.log2 < 9000 := by simpa using gl
    have key : ∀ s : Int, (s = -1 ∧ b < 0) ∨ (s = 1 ∧ ¬ b < 0) → (s * t).fdiv (Int.gcd t b : Int) = frT t b ∧ (s * b).fdiv (Int.gcd t b : Int) = frB t b ∧ s.natAbs < 2 ^ 1 := by
      rintro s (⟨rfl, h0⟩ | ⟨rfl, h0⟩)
      · refine ⟨?_, ?_, by decide⟩
        · rw [fdiv_dvd (by rw [Int.neg_one_mul]; exact Int.dvd_neg.mpr gd1)]
          unfold frT sg
          rw [if_pos h0, Int.neg_one_mul, Int.ediv_neg, Int.neg_ediv_of_dvd gd1]
        · rw [fdiv_dvd (by rw [Int.neg_one_mul]; exact Int.dvd_neg.mpr gd2)]
          unfold frB sg
          rw [if_pos h0, Int.neg_one_mul, Int.ediv_neg, Int.neg_ediv_of_dvd gd2]
      · refine ⟨?_, ?_, by decide⟩
        · rw [Int.one_mul, fdiv_dvd gd1]
          unfold frT sg
          rw [if_neg h0]
        · rw [Int.one_mul, fdiv_dvd gd2]
          unfold frB sg
          rw [if_neg h0]
    refine ⟨fun ρ w'' => w'' = w' ∧ ∃ s : Int, ((s = -1 ∧ b < 0) ∨ (s = 1 ∧ ¬ b < 0)) ∧ ρ = [some (.int t), some (.int b), some (.int (Int.gcd t b : Int)), some (.int ((0 : Nat) : Int)), some (.int s)], ite2 (fun h => ⟨rfl, -1, .inl ⟨rfl, by simpa using h⟩, rfl⟩) (fun h => ⟨rfl, 1, .inr ⟨rfl, by simpa using h⟩, rfl⟩), ?_⟩
    rintro ρ w'' ⟨rfl, s, hs, rfl⟩
    obtain ⟨s1, s2, s3⟩ := key s hs
    simp only [sem0, List.map_cons, List.map_nil, List.length_cons, List.length_nil, gSeq, gNext, gRet, gRetN, gIfS, gSet, gPar, gAsg, gDrop, gVar, gC, gBin, gUn, gB, gTru, gAnd, gOr, gNot, gAndV, gOrV, gNotV, gIf, gChain, gaNil, gaCons, DL.gTup, gLst, gCB, gCall0, gAug, addD_i, addD_s, addD_l, addD_t, subD_i, mulD_i, mulD_l, fdivD_i, modD_i, powD_i, ltD_i, ltD_s, leD_i, gtD_i, geD_i, isD_n, isnotD_n, isNonD_non, isNonD_bl, isNonD_int, isNonD_str, isNonD_lst, isNonD_tup, negD_i, iaddD_i, truD_non, truD_bl, truD_int, truD_str, truD_lst, truD_tup, someK_some, ixD_l, ixD_t, fAbs_i, fInt_i, fInt_b, fMin2_i, fLen_l, fLen_t, fLen_s, fList_l, fList_t, fTuple_l, fTuple_t, optBK_some, fIsi_non, fIsi_bl, fIsi_int, fIsi_str, fIsi_lst, fIsi_tup, List.getElem?_cons_zero, List.getElem?_cons_succ, List.set_cons_zero, List.set_cons_succ, DL.ggName, ggNil0, ggCons1, ggTup2, ggTup3, gFor, giSeq, gLc, gYes, wipeR, true_and, and_true, at_0, at_1, at_2, kit_int_int, kit_bool_int, kit_str_int, kit_non_int, kit_list_int, kit_tuple_int, kit_int_bool, kit_bool_bool, kit_str_bool, kit_non_bool, kit_list_bool, kit_tuple_bool, kit_int_str, kit_bool_str, kit_str_str, kit_non_str, kit_list_str, kit_tuple_str, kit_int_list, kit_bool_list, kit_str_list, kit_non_list, kit_list_list, kit_tuple_list, kit_int_tuple, kit_bool_tuple, kit_str_tuple, kit_non_tuple, kit_list_tuple, kit_tuple_tuple, eqD_i, neD_i, eqD_s, neD_s, eqD_f, neD_f, Nat.zero_add, Nat.reduceAdd, nc0, nc1, nc2, nc3, nc4, nc5, nc6, nc7, nc8, nc9, eq_self, decide_true, decide_false, Int.reduceEq, Int.reduceLT, Int.reduceLE, Int.reduceNeg, Bool.not_true, Bool.not_false, Bool.false_eq_true, if_true, if_false, ↓reduceIte, false_and, and_false, List.all_cons, List.all_nil, List.any_cons, List.any_nil, id_eq, Bool.and_true, Bool.true_and, Bool.or_false, Bool.false_or, Bool.and_false, Bool.false_and, gCut, eqD_b, neD_b, giZip, reduceCtorEq, Bool.true_eq_false, Bool.false_eq_true, gRevL, gSl, goNone, goSome, slD_l, ne_eq, not_false_eq_true, not_true_eq_false, gBM, isTy_l, isTy_s, new_at, new_set, isTy_new, cellK_new, append_new, popAt_new, gFrz_eq, frzK_new, fLen_new, fTuple_new, ixD_new, slA_l, slA_t, slA_new, addTD_t, addCD_l, mulCD_l, isbD_b, isnotbD_b, mSplitC_s, gLstC, gTr, ggSub, lstK_l, lstK_r, addLD_eq]
    rw [s1, s2]
    exact ⟨mulx_ok (a := 1) (b := 4000) s3 hT (by decide), ⟨gn, gl2⟩, mulx_ok (a := 1) (b := 4000) s3 hB (by decide), ⟨gn, gl2⟩, by decide, hk⟩
theorem ok__law_lowest {P : Program} {w : World} {K : PySem.W.Frag} {mg : Str → Option Value} {base : Heap} (T : DefAt K mg "_law_lowest" s__law_lowest ["_law_top", "_law_below"]) (B : Blt mg) : FnAt P w K mg base CX0 1 "_law_lowest" 2 sp__law_lowest := (w__law_lowest T B ).imp v__law_lowest


def Num (x : Int) : Prop := x.natAbs ≤ 10 ^ 30
theorem Num.big {x : Int} (h : Num x) : Big x := Nat.lt_of_le_of_lt h (by decide +kernel)
/-- draws: the state's rest is n at least -/
def sp__law_number : GF := fun ds w _ k => ∃ n : Nat, ds = [.st] ∧ w.n = some (n + 4) ∧ ∀ v n', Num v → n ≤ n' → k (.int v) ⟨w.M, some n'⟩
abbrev s__law_number : Stmt := topS 23
theorem sc__law_number : FnScope ["_law_state", "_law_way", "_law_many"] ["_law_state"] (defScope s__law_number) := ⟨rfl, rfl, rfl, by decide +kernel, rfl, by decide +kernel, by decide +kernel⟩
def g__law_number : GS := (gSeq (gSet 1 (gCall0 2 sp__law_take (gaCons (gVar 0) (gaCons (gC (.int 8)) gaNil))))
  (gSeq (gIfS (gB (gBin eqD (gVar 1) (gC (.int 0)))) (gRet (gC (.int 0))) gNext)
  (gSeq (gSet 2 (gBin ixD (gLst (gaCons (gC (.int 12)) (gaCons (gC (.int 12)) (gaCons (gC (.int 60)) (gaCons (gC (.int 1000)) (gaCons (gBin powD (gC (.int 10)) (gC (.int 9))) (gaCons (gBin powD (gC (.int 10)) (gC (.int 30))) gaNil))))))) (gCall0 2 sp__law_take (gaCons (gVar 0) (gaCons (gC (.int 6)) gaNil)))))
  (gRet (gBin mulD (gBin addD (gC (.int 1)) (gCall0 2 sp__law_take (gaCons (gVar 0) (gaCons (gVar 2) gaNil)))) (gBin ixD (gLst (gaCons (gC (.int 1)) (gaCons (gUn negD (gC (.int 1))) gaNil))) (gCall0 2 sp__law_take (gaCons (gVar 0) (gaCons (gC (.int 2)) gaNil)))))))))
theorem w__law_number {P : Program} {w : World} {K : PySem.W.Frag} {mg : Str → Option Value} {base : Heap} (T : DefAt K mg "_law_number" s__law_number ["_law_state"]) (B : Blt mg) (F__law_take : FnAt P w K mg base CX0 1 "_law_take" 2 sp__law_take) : FnAt P w K mg base CX0 2 "_law_number" 1 (sem0 3 g__law_number) := by
  have nd := sc__law_number.nd
  exact T.fn0 sc__law_number (fun f cdv A outer s H E hr => (dss_cons (ds_set (i := 1) nd rfl (by first | exact Or.inl rfl | exact Or.inr rfl) (de_call0 F__law_take hr (by rfl) (da_cons (de_var 0) (da_cons de_int da_nil))))
  (dss_cons (ds_if (dt_eq hr (de_var 1) de_int) (dss_one (ds_ret de_int)) dss_nil)
  (dss_cons (ds_set (i := 2) nd rfl (by first | exact Or.inl rfl | exact Or.inr rfl) (de_ix (de_lst (da_cons de_int (da_cons de_int (da_cons de_int (da_cons de_int (da_cons (de_pow de_int de_int) (da_cons (de_pow de_int de_int) da_nil))))))) (de_call0 F__law_take hr (by rfl) (da_cons (de_var 0) (da_cons de_int da_nil)))))
  (dss_one (ds_ret (de_mul (de_add de_int (de_call0 F__law_take hr (by rfl) (da_cons (de_var 0) (da_cons (de_var 2) da_nil)))) (de_ix (de_lst (da_cons de_int (da_cons (de_neg de_int) da_nil))) (de_call0 F__law_take hr (by rfl) (da_cons (de_var 0) (da_cons de_int da_nil)))))))))))

theorem v__law_number : ∀ ds w kx k, sp__law_number ds w kx k → sem0 3 g__law_number ds w kx k := by
  rintro ds w kx k ⟨n, rfl, hn, hk⟩
  have e : rho 3 [D.st] = [some .st, none, none] := rfl
  simp only [g__law_number, e, sp__law_take, sem0, List.map_cons, List.map_nil, List.length_cons, List.length_nil, gSeq, gNext, gRet, gRetN, gIfS, gSet, gPar, gAsg, gDrop, gVar, gC, gBin, gUn, gB, gTru, gAnd, gOr, gNot, gAndV, gOrV, gNotV, gIf, gChain, gaNil, gaCons, DL.gTup, gLst, gCB, gCall0, gAug, addD_i, addD_s, addD_l, addD_t, subD_i, mulD_i, mulD_l, fdivD_i, modD_i, powD_i, ltD_i, ltD_s, leD_i, gtD_i, geD_i, isD_n, isnotD_n, isNonD_non, isNonD_bl, isNonD_int, isNonD_str, isNonD_lst, isNonD_tup, negD_i, iaddD_i, truD_non, truD_bl, truD_int, truD_str, truD_lst, truD_tup, someK_some, ixD_l, ixD_t, fAbs_i, fInt_i, fInt_b, fMin2_i, fLen_l, fLen_t, fLen_s, fList_l, fList_t, fTuple_l, fTuple_t, optBK_some, fIsi_non, fIsi_bl, fIsi_int, fIsi_str, fIsi_lst, fIsi_tup, List.getElem?_cons_zero, List.getElem?_cons_succ, List.set_cons_zero, List.set_cons_succ, DL.ggName, ggNil0, ggCons1, ggTup2, ggTup3, gFor, giSeq, gLc, gYes, wipeR, true_and, and_true, at_0, at_1, at_2, kit_int_int, kit_bool_int, kit_str_int, kit_non_int, kit_list_int, kit_tuple_int, kit_int_bool, kit_bool_bool, kit_str_bool, kit_non_bool, kit_list_bool, kit_tuple_bool, kit_int_str, kit_bool_str, kit_str_str, kit_non_str, kit_list_str, kit_tuple_str, kit_int_list, kit_bool_list, kit_str_list, kit_non_list, kit_list_list, kit_tuple_list, kit_int_tuple, kit_bool_tuple, kit_str_tuple, kit_non_tuple, kit_list_tuple, kit_tuple_tuple, eqD_i, neD_i, eqD_s, neD_s, eqD_f, neD_f, Nat.zero_add, Nat.reduceAdd, nc0, nc1, nc2, nc3, nc4, nc5, nc6, nc7, nc8, nc9, eq_self, decide_true, decide_false, Int.reduceEq, Int.reduceLT, Int.reduceLE, Int.reduceNeg, Bool.not_true, Bool.not_false, Bool.false_eq_true, if_true, if_false, ↓reduceIte, false_and, and_false, List.all_cons, List.all_nil, List.any_cons, List.any_nil, id_eq, Bool.and_true, Bool.true_and, Bool.or_false, Bool.false_or, Bool.and_false, Bool.false_and, gCut, eqD_b, neD_b, giZip, reduceCtorEq, Bool.true_eq_false, Bool.false_eq_true, gRevL, gSl, goNone, goSome, slD_l, ne_eq, not_false_eq_true, not_true_eq_false, gBM, isTy_l, isTy_s, new_at, new_set, isTy_new, cellK_new, append_new, popAt_new, gFrz_eq, frzK_new, fLen_new, fTuple_new, ixD_new, slA_l, slA_t, slA_new, addTD_t, addCD_l, mulCD_l, isbD_b, isnotbD_b, mSplitC_s, gLstC, gTr, ggSub, lstK_l, lstK_r, addLD_eq]
  refine take_ok (n := n + 3) ⟨by decide, log_of (by decide)⟩ hn fun r h0 h1 => ?_
  simp only [sem0, List.map_cons, List.map_nil, List.length_cons, List.length_nil, gSeq, gNext, gRet, gRetN, gIfS, gSet, gPar, gAsg, gDrop, gVar, gC, gBin, gUn, gB, gTru, gAnd, gOr, gNot, gAndV, gOrV, gNotV, gIf, gChain, gaNil, gaCons, DL.gTup, gLst, gCB, gCall0, gAug, addD_i, addD_s, addD_l, addD_t, subD_i, mulD_i, mulD_l, fdivD_i, modD_i, powD_i, ltD_i, ltD_s, leD_i, gtD_i, geD_i, isD_n, isnotD_n, isNonD_non, isNonD_bl, isNonD_int, isNonD_str, isNonD_lst, isNonD_tup, negD_i, iaddD_i, truD_non, truD_bl, truD_int, truD_str, truD_lst, truD_tup, someK_some, ixD_l, ixD_t, fAbs_i, fInt_i, fInt_b, fMin2_i, fLen_l, fLen_t, fLen_s, fList_l, fList_t, fTuple_l, fTuple_t, optBK_some, fIsi_non, fIsi_bl, fIsi_int, fIsi_str, fIsi_lst, fIsi_tup, List.getElem?_cons_zero, List.getElem?_cons_succ, List.set_cons_zero, List.set_cons_succ, DL.ggName, ggNil0, ggCons1, ggTup2, ggTup3, gFor, giSeq, gLc, gYes, wipeR, true_and, and_true, at_0, at_1, at_2, kit_int_int, kit_bool_int, kit_str_int, kit_non_int, kit_list_int, kit_tuple_int, kit_int_bool, kit_bool_bool, kit_str_bool, kit_non_bool, kit_list_bool, kit_tuple_bool, kit_int_str, kit_bool_str, kit_str_str, kit_non_str, kit_list_str, kit_tuple_str, kit_int_list, kit_bool_list, kit_str_list, kit_non_list, kit_list_list, kit_tuple_list, kit_int_tuple, kit_bool_tuple, kit_str_tuple, kit_non_tuple, kit_list_tuple, kit_tuple_tuple, eqD_i, neD_i, eqD_s, neD_s, eqD_f, neD_f, Nat.zero_add, Nat.reduceAdd, nc0, nc1, nc2, nc3, nc4, nc5, nc6, nc7, nc8, nc9, eq_self, decide_true, decide_false, Int.reduceEq, Int.reduceLT, Int.reduceLE, Int.reduceNeg, Bool.not_true, Bool.not_false, Bool.false_eq_true, if_true, if_false, ↓reduceIte, false_and, and_false, List.all_cons, List.all_nil, List.any_cons, List.any_nil, id_eq, Bool.and_true, Bool.true_and, Bool.or_false, Bool.false_or, Bool.and_false, Bool.false_and, gCut, eqD_b, neD_b, giZip, reduceCtorEq, Bool.true_eq_false, Bool.false_eq_true, gRevL, gSl, goNone, goSome, slD_l, ne_eq, not_false_eq_true, not_true_eq_false, gBM, isTy_l, isTy_s, new_at, new_set, isTy_new, cellK_new, append_new, popAt_new, gFrz_eq, frzK_new, fLen_new, fTuple_new, ixD_new, slA_l, slA_t, slA_new, addTD_t, addCD_l, mulCD_l, isbD_b, isnotbD_b, mSplitC_s, gLstC, gTr, ggSub, lstK_l, lstK_r, addLD_eq]
  refine ite2 (fun h => ?_) (fun h => ?_)
  · exact hk 0 (n + 3) (Nat.zero_le _) (by omega)
  · refine ⟨⟨by decide, by decide, by decide⟩, ⟨by decide, by decide, by decide⟩, by decide, take_ok (n := n + 2) ⟨by decide, log_of (by decide)⟩ rfl fun r2 h2 h3 => ?_⟩
    refine ix_all (fun d => ∃ m : Int, d = .int m ∧ 0 < m ∧ m ≤ 10 ^ 30) h2 h3 (all_cons ⟨_, rfl, by decide, by decide⟩ (all_cons ⟨_, rfl, by decide, by decide⟩ (all_cons ⟨_, rfl, by decide, by decide⟩ (all_cons ⟨_, rfl, by decide, by decide⟩ (all_cons ⟨_, rfl, by decide, by decide⟩ (all_cons ⟨_, rfl, by decide, by decide⟩ all_nil)))))) ?_
    rintro d ⟨m, rfl, hm, hm2⟩
    refine take_ok (n := n + 1) ⟨hm, log_of (Nat.lt_of_le_of_lt (show m.natAbs ≤ 10 ^ 30 by omega) (by decide))⟩ rfl fun r3 h4 h5 => ?_
    simp only [sem0, List.map_cons, List.map_nil, List.length_cons, List.length_nil, gSeq, gNext, gRet, gRetN, gIfS, gSet, gPar, gAsg, gDrop, gVar, gC, gBin, gUn, gB, gTru, gAnd, gOr, gNot, gAndV, gOrV, gNotV, gIf, gChain, gaNil, gaCons, DL.gTup, gLst, gCB, gCall0, gAug, addD_i, addD_s, addD_l, addD_t, subD_i, mulD_i, mulD_l, fdivD_i, modD_i, powD_i, ltD_i, ltD_s, leD_i, gtD_i, geD_i, isD_n, isnotD_n, isNonD_non, isNonD_bl, isNonD_int, isNonD_str, isNonD_lst, isNonD_tup, negD_i, iaddD_i, truD_non, truD_bl, truD_int, truD_str, truD_lst, truD_tup, someK_some, ixD_l, ixD_t, fAbs_i, fInt_i, fInt_b, fMin2_i, fLen_l, fLen_t, fLen_s, fList_l, fList_t, fTuple_l, fTuple_t, optBK_some, fIsi_non, fIsi_bl, fIsi_int, fIsi_str, fIsi_lst, fIsi_tup, List.getElem?_cons_zero, List.getElem?_cons_succ, List.set_cons_zero, List.set_cons_succ, DL.ggName, ggNil0, ggCons1, ggTup2, ggTup3, gFor, giSeq, gLc, gYes, wipeR, true_and, and_true, at_0, at_1, at_2, kit_int_int, kit_bool_int, kit_str_int, kit_non_int, kit_list_int, kit_tuple_int, kit_int_bool, kit_bool_bool, kit_str_bool, kit_non_bool, kit_list_bool, kit_tuple_bool, kit_int_str, kit_bool_str, kit_str_str, kit_non_str, kit_list_str, kit_tuple_str, kit_int_list, kit_bool_list, kit_str_list, kit_non_list, kit_list_list, kit_tuple_list, kit_int_tuple, kit_bool_tuple, kit_str_tuple, kit_non_tuple, kit_list_tuple, kit_tuple_tuple, eqD_i, neD_i, eqD_s, neD_s, eqD_f, neD_f, Nat.zero_add, Nat.reduceAdd, nc0, nc1, nc2, nc3, nc4, nc5, nc6, nc7, nc8, nc9, eq_self, decide_true, decide_false, Int.reduceEq, Int.reduceLT, Int.reduceLE, Int.reduceNeg, Bool.not_true, Bool.not_false, Bool.false_eq_true, if_true, if_false, ↓reduceIte, false_and, and_false, List.all_cons, List.all_nil, List.any_cons, List.any_nil, id_eq, Bool.and_true, Bool.true_and, Bool.or_false, Bool.false_or, Bool.and_false, Bool.false_and, gCut, eqD_b, neD_b, giZip, reduceCtorEq, Bool.true_eq_false, Bool.false_eq_true, gRevL, gSl, goNone, goSome, slD_l, ne_eq, not_false_eq_true, not_true_eq_false, gBM, isTy_l, isTy_s, new_at, new_set, isTy_new, cellK_new, append_new, popAt_new, gFrz_eq, frzK_new, fLen_new, fTuple_new, ixD_new, slA_l, slA_t, slA_new, addTD_t, addCD_l, mulCD_l, isbD_b, isnotbD_b, mSplitC_s, gLstC, gTr, ggSub, lstK_l, lstK_r, addLD_eq]
    refine ⟨by decide, take_ok (n := n) ⟨by decide, log_of (by decide)⟩ rfl fun r4 h6 h7 => ?_⟩
    refine ix_all (fun d => ∃ s : Int, d = .int s ∧ (s = 1 ∨ s = -1)) h6 h7 (all_cons ⟨_, rfl, .inl rfl⟩ (all_cons ⟨_, rfl, .inr rfl⟩ all_nil)) ?_
    rintro d ⟨s, rfl, hs⟩
    have hb : (1 + r3).natAbs ≤ 10 ^ 30 := by omega
    simp only [sem0, List.map_cons, List.map_nil, List.length_cons, List.length_nil, gSeq, gNext, gRet, gRetN, gIfS, gSet, gPar, gAsg, gDrop, gVar, gC, gBin, gUn, gB, gTru, gAnd, gOr, gNot, gAndV, gOrV, gNotV, gIf, gChain, gaNil, gaCons, DL.gTup, gLst, gCB, gCall0, gAug, addD_i, addD_s, addD_l, addD_t, subD_i, mulD_i, mulD_l, fdivD_i, modD_i, powD_i, ltD_i, ltD_s, leD_i, gtD_i, geD_i, isD_n, isnotD_n, isNonD_non, isNonD_bl, isNonD_int, isNonD_str, isNonD_lst, isNonD_tup, negD_i, iaddD_i, truD_non, truD_bl, truD_int, truD_str, truD_lst, truD_tup, someK_some, ixD_l, ixD_t, fAbs_i, fInt_i, fInt_b, fMin2_i, fLen_l, fLen_t, fLen_s, fList_l, fList_t, fTuple_l, fTuple_t, optBK_some, fIsi_non, fIsi_bl, fIsi_int, fIsi_str, fIsi_lst, fIsi_tup, List.getElem?_cons_zero, List.getElem?_cons_succ, List.set_cons_zero, List.set_cons_succ, DL.ggName, ggNil0, ggCons1, ggTup2, ggTup3, gFor, giSeq, gLc, gYes, wipeR, true_and, and_true, at_0, at_1, at_2, kit_int_int, kit_bool_int, kit_str_int, kit_non_int, kit_list_int, kit_tuple_int, kit_int_bool, kit_bool_bool, kit_str_bool, kit_non_bool, kit_list_bool, kit_tuple_bool, kit_int_str, kit_bool_str, kit_str_str, kit_non_str, kit_list_str, kit_tuple_str, kit_int_list, kit_bool_list, kit_str_list, kit_non_list, kit_list_list, kit_tuple_list, kit_int_tuple, kit_bool_tuple, kit_str_tuple, kit_non_tuple, kit_list_tuple, kit_tuple_tuple, eqD_i, neD_i, eqD_s, neD_s, eqD_f, neD_f, Nat.zero_add, Nat.reduceAdd, nc0, nc1, nc2, nc3, nc4, nc5, nc6, nc7, nc8, nc9, eq_self, decide_true, decide_false, Int.reduceEq, Int.reduceLT, Int.reduceLE, Int.reduceNeg, Bool.not_true, Bool.not_false, Bool.false_eq_true, if_true, if_false, ↓reduceIte, false_and, and_false, List.all_cons, List.all_nil, List.any_cons, List.any_nil, id_eq, Bool.and_true, Bool.true_and, Bool.or_false, Bool.false_or, Bool.and_false, Bool.false_and, gCut, eqD_b, neD_b, giZip, reduceCtorEq, Bool.true_eq_false, Bool.false_eq_true, gRevL, gSl, goNone, goSome, slD_l, ne_eq, not_false_eq_true, not_true_eq_false, gBM, isTy_l, isTy_s, new_at, new_set, isTy_new, cellK_new, append_new, popAt_new, gFrz_eq, frzK_new, fLen_new, fTuple_new, ixD_new, slA_l, slA_t, slA_new, addTD_t, addCD_l, mulCD_l, isbD_b, isnotbD_b, mSplitC_s, gLstC, gTr, ggSub, lstK_l, lstK_r, addLD_eq]
    refine ⟨mulx_ok (a := 100) (b := 1) (Nat.lt_of_le_of_lt hb (by decide)) (by omega) (by decide), hk _ _ ?_ (Nat.le_refl _)⟩
    show ((1 + r3) * s).natAbs ≤ 10 ^ 30
    rcases hs with rfl | rfl <;> omega
theorem number_use {w : Wd} {c : Nat} {kx : KX} {k : KD} (n : Nat) (hn : w.n = some c) (hc : n + 4 ≤ c) (h : ∀ v c', Num v → n ≤ c' → k (.int v) ⟨w.M, some c'⟩) : sp__law_number [.st] w kx k :=
  ⟨c - 4, rfl, by rw [hn]; congr 1; omega, fun v n' hv h1 => h v n' hv (by omega)⟩
theorem ok__law_number {P : Program} {w : World} {K : PySem.W.Frag} {mg : Str → Option Value} {base : Heap} (T : DefAt K mg "_law_number" s__law_number ["_law_state"]) (B : Blt mg) (F__law_take : FnAt P w K mg base CX0 1 "_law_take" 2 sp__law_take) : FnAt P w K mg base CX0 2 "_law_number" 1 sp__law_number := (w__law_number T B F__law_take).imp v__law_number


structure Frac (x : Qp) : Prop where
  fr : Fr x
  num : Num x.1
  bel : x.2 ≤ 10 ^ 12
theorem Frac.lt {x : Qp} (h : Frac x) : Lt2 100 x := ⟨Nat.lt_of_le_of_lt h.num (by decide), Nat.lt_of_le_of_lt (show x.2.natAbs ≤ 10 ^ 12 by have := h.bel; have := h.fr.pos; omega) (by decide)⟩
def sp__law_fraction : GF := fun ds w _ k => ∃ c n : Nat, ds = [.st] ∧ (w.n = some c ∧ n + 8 ≤ c) ∧ ∀ x c', Frac x → n ≤ c' → k (fD x) ⟨w.M, some c'⟩
abbrev s__law_fraction : Stmt := topS 24
theorem sc__law_fraction : FnScope ["_law_state", "_law_below"] ["_law_state"] (defScope s__law_fraction) := ⟨rfl, rfl, rfl, by decide +kernel, rfl, by decide +kernel, by decide +kernel⟩
def g__law_fraction : GS := (gSeq (gSet 1 (gBin ixD (gLst (gaCons (gC (.int 1)) (gaCons (gBin addD (gC (.int 1)) (gCall0 2 sp__law_take (gaCons (gVar 0) (gaCons (gC (.int 12)) gaNil)))) (gaCons (gBin addD (gC (.int 1)) (gCall0 2 sp__law_take (gaCons (gVar 0) (gaCons (gC (.int 60)) gaNil)))) (gaCons (gBin addD (gC (.int 1)) (gCall0 2 sp__law_take (gaCons (gVar 0) (gaCons (gBin powD (gC (.int 10)) (gC (.int 12))) gaNil)))) gaNil))))) (gCall0 2 sp__law_take (gaCons (gVar 0) (gaCons (gC (.int 4)) gaNil)))))
  (gRet (gCall0 2 sp__law_lowest (gaCons (gCall0 1 sp__law_number (gaCons (gVar 0) gaNil)) (gaCons (gVar 1) gaNil)))))
theorem w__law_fraction {P : Program} {w : World} {K : PySem.W.Frag} {mg : Str → Option Value} {base : Heap} (T : DefAt K mg "_law_fraction" s__law_fraction ["_law_state"]) (B : Blt mg) (F__law_lowest : FnAt P w K mg base CX0 1 "_law_lowest" 2 sp__law_lowest) (F__law_take : FnAt P w K mg base CX0 1 "_law_take" 2 sp__law_take) (F__law_number : FnAt P w K mg base CX0 2 "_law_number" 1 sp__law_number) : FnAt P w K mg base CX0 3 "_law_fraction" 1 (sem0 2 g__law_fraction) := by
  have nd := sc__law_fraction.nd
  exact T.fn0 sc__law_fraction (fun f cdv A outer s H E hr => (dss_cons (ds_set (i := 1) nd rfl (by first | exact Or.inl rfl | exact Or.inr rfl) (de_ix (de_lst (da_cons de_int (da_cons (de_add de_int (de_call0 F__law_take hr (by rfl) (da_cons (de_var 0) (da_cons de_int da_nil)))) (da_cons (de_add de_int (de_call0 F__law_take hr (by rfl) (da_cons (de_var 0) (da_cons de_int da_nil)))) (da_cons (de_add de_int (de_call0 F__law_take hr (by rfl) (da_cons (de_var 0) (da_cons (de_pow de_int de_int) da_nil)))) da_nil))))) (de_call0 F__law_take hr (by rfl) (da_cons (de_var 0) (da_cons de_int da_nil)))))
  (dss_one (ds_ret (de_call0 F__law_lowest hr (by rfl) (da_cons (de_call0 F__law_number hr (by rfl) (da_cons (de_var 0) da_nil)) (da_cons (de_var 1) da_nil)))))))

theorem v__law_fraction : ∀ ds w kx k, sp__law_fraction ds w kx k → sem0 2 g__law_fraction ds w kx k := by
  rintro ds w kx k ⟨c, n, rfl, ⟨hn, hc⟩, hk⟩
  have e : rho 2 [D.st] = [some .st, none] := rfl
  simp only [g__law_fraction, e, sp__law_take, sem0, List.map_cons, List.map_nil, List.length_cons, List.length_nil, gSeq, gNext, gRet, gRetN, gIfS, gSet, gPar, gAsg, gDrop, gVar, gC, gBin, gUn, gB, gTru, gAnd, gOr, gNot, gAndV, gOrV, gNotV, gIf, gChain, gaNil, gaCons, DL.gTup, gLst, gCB, gCall0, gAug, addD_i, addD_s, addD_l, addD_t, subD_i, mulD_i, mulD_l, fdivD_i, modD_i, powD_i, ltD_i, ltD_s, leD_i, gtD_i, geD_i, isD_n, isnotD_n, isNonD_non, isNonD_bl, isNonD_int, isNonD_str, isNonD_lst, isNonD_tup, negD_i, iaddD_i, truD_non, truD_bl, truD_int, truD_str, truD_lst, truD_tup, someK_some, ixD_l, ixD_t, fAbs_i, fInt_i, fInt_b, fMin2_i, fLen_l, fLen_t, fLen_s, fList_l, fList_t, fTuple_l, fTuple_t, optBK_some, fIsi_non, fIsi_bl, fIsi_int, fIsi_str, fIsi_lst, fIsi_tup, List.getElem?_cons_zero, List.getElem?_cons_succ, List.set_cons_zero, List.set_cons_succ, DL.ggName, ggNil0, ggCons1, ggTup2, ggTup3, gFor, giSeq, gLc, gYes, wipeR, true_and, and_true, at_0, at_1, at_2, kit_int_int, kit_bool_int, kit_str_int, kit_non_int, kit_list_int, kit_tuple_int, kit_int_bool, kit_bool_bool, kit_str_bool, kit_non_bool, kit_list_bool, kit_tuple_bool, kit_int_str, kit_bool_str, kit_str_str, kit_non_str, kit_list_str, kit_tuple_str, kit_int_list, kit_bool_list, kit_str_list, kit_non_list, kit_list_list, kit_tuple_list, kit_int_tuple, kit_bool_tuple, kit_str_tuple, kit_non_tuple, kit_list_tuple, kit_tuple_tuple, eqD_i, neD_i, eqD_s, neD_s, eqD_f, neD_f, Nat.zero_add, Nat.reduceAdd, nc0, nc1, nc2, nc3, nc4, nc5, nc6, nc7, nc8, nc9, eq_self, decide_true, decide_false, Int.reduceEq, Int.reduceLT, Int.reduceLE, Int.reduceNeg, Bool.not_true, Bool.not_false, Bool.false_eq_true, if_true, if_false, ↓reduceIte, false_and, and_false, List.all_cons, List.all_nil, List.any_cons, List.any_nil, id_eq, Bool.and_true, Bool.true_and, Bool.or_false, Bool.false_or, Bool.and_false, Bool.false_and, gCut, eqD_b, neD_b, giZip, reduceCtorEq, Bool.true_eq_false, Bool.false_eq_true, gRevL, gSl, goNone, goSome, slD_l, ne_eq, not_false_eq_true, not_true_eq_false, gBM, isTy_l, isTy_s, new_at, new_set, isTy_new, cellK_new, append_new, popAt_new, gFrz_eq, frzK_new, fLen_new, fTuple_new, ixD_new, slA_l, slA_t, slA_new, addTD_t, addCD_l, mulCD_l, isbD_b, isnotbD_b, mSplitC_s, gLstC, gTr, ggSub, lstK_l, lstK_r, addLD_eq]
  refine take_use (n + 7) hn (by omega) ⟨by decide, log_of (by decide)⟩ fun r1 c1 h0 h1 hc1 => ?_
  simp only [sem0, List.map_cons, List.map_nil, List.length_cons, List.length_nil, gSeq, gNext, gRet, gRetN, gIfS, gSet, gPar, gAsg, gDrop, gVar, gC, gBin, gUn, gB, gTru, gAnd, gOr, gNot, gAndV, gOrV, gNotV, gIf, gChain, gaNil, gaCons, DL.gTup, gLst, gCB, gCall0, gAug, addD_i, addD_s, addD_l, addD_t, subD_i, mulD_i, mulD_l, fdivD_i, modD_i, powD_i, ltD_i, ltD_s, leD_i, gtD_i, geD_i, isD_n, isnotD_n, isNonD_non, isNonD_bl, isNonD_int, isNonD_str, isNonD_lst, isNonD_tup, negD_i, iaddD_i, truD_non, truD_bl, truD_int, truD_str, truD_lst, truD_tup, someK_some, ixD_l, ixD_t, fAbs_i, fInt_i, fInt_b, fMin2_i, fLen_l, fLen_t, fLen_s, fList_l, fList_t, fTuple_l, fTuple_t, optBK_some, fIsi_non, fIsi_bl, fIsi_int, fIsi_str, fIsi_lst, fIsi_tup, List.getElem?_cons_zero, List.getElem?_cons_succ, List.set_cons_zero, List.set_cons_succ, DL.ggName, ggNil0, ggCons1, ggTup2, ggTup3, gFor, giSeq, gLc, gYes, wipeR, true_and, and_true, at_0, at_1, at_2, kit_int_int, kit_bool_int, kit_str_int, kit_non_int, kit_list_int, kit_tuple_int, kit_int_bool, kit_bool_bool, kit_str_bool, kit_non_bool, kit_list_bool, kit_tuple_bool, kit_int_str, kit_bool_str, kit_str_str, kit_non_str, kit_list_str, kit_tuple_str, kit_int_list, kit_bool_list, kit_str_list, kit_non_list, kit_list_list, kit_tuple_list, kit_int_tuple, kit_bool_tuple, kit_str_tuple, kit_non_tuple, kit_list_tuple, kit_tuple_tuple, eqD_i, neD_i, eqD_s, neD_s, eqD_f, neD_f, Nat.zero_add, Nat.reduceAdd, nc0, nc1, nc2, nc3, nc4, nc5, nc6, nc7, nc8, nc9, eq_self, decide_true, decide_false, Int.reduceEq, Int.reduceLT, Int.reduceLE, Int.reduceNeg, Bool.not_true, Bool.not_false, Bool.false_eq_true, if_true, if_false, ↓reduceIte, false_and, and_false, List.all_cons, List.all_nil, List.any_cons, List.any_nil, id_eq, Bool.and_true, Bool.true_and, Bool.or_false, Bool.false_or, Bool.and_false, Bool.false_and, gCut, eqD_b, neD_b, giZip, reduceCtorEq, Bool.true_eq_false, Bool.false_eq_true, gRevL, gSl, goNone, goSome, slD_l, ne_eq, not_false_eq_true, not_true_eq_false, gBM, isTy_l, isTy_s, new_at, new_set, isTy_new, cellK_new, append_new, popAt_new, gFrz_eq, frzK_new, fLen_new, fTuple_new, ixD_new, slA_l, slA_t, slA_new, addTD_t, addCD_l, mulCD_l, isbD_b, isnotbD_b, mSplitC_s, gLstC, gTr, ggSub, lstK_l, lstK_r, addLD_eq]
  refine take_use (n + 6) rfl (by omega) ⟨by decide, log_of (by decide)⟩ fun r2 c2 h2 h3 hc2 => ?_
  simp only [sem0, List.map_cons, List.map_nil, List.length_cons, List.length_nil, gSeq, gNext, gRet, gRetN, gIfS, gSet, gPar, gAsg, gDrop, gVar, gC, gBin, gUn, gB, gTru, gAnd, gOr, gNot, gAndV, gOrV, gNotV, gIf, gChain, gaNil, gaCons, DL.gTup, gLst, gCB, gCall0, gAug, addD_i, addD_s, addD_l, addD_t, subD_i, mulD_i, mulD_l, fdivD_i, modD_i, powD_i, ltD_i, ltD_s, leD_i, gtD_i, geD_i, isD_n, isnotD_n, isNonD_non, isNonD_bl, isNonD_int, isNonD_str, isNonD_lst, isNonD_tup, negD_i, iaddD_i, truD_non, truD_bl, truD_int, truD_str, truD_lst, truD_tup, someK_some, ixD_l, ixD_t, fAbs_i, fInt_i, fInt_b, fMin2_i, fLen_l, fLen_t, fLen_s, fList_l, fList_t, fTuple_l, fTuple_t, optBK_some, fIsi_non, fIsi_bl, fIsi_int, fIsi_str, fIsi_lst, fIsi_tup, List.getElem?_cons_zero, List.getElem?_cons_succ, List.set_cons_zero, List.set_cons_succ, DL.ggName, ggNil0, ggCons1, ggTup2, ggTup3, gFor, giSeq, gLc, gYes, wipeR, true_and, and_true, at_0, at_1, at_2, kit_int_int, kit_bool_int, kit_str_int, kit_non_int, kit_list_int, kit_tuple_int, kit_int_bool, kit_bool_bool, kit_str_bool, kit_non_bool, kit_list_bool, kit_tuple_bool, kit_int_str, kit_bool_str, kit_str_str, kit_non_str, kit_list_str, kit_tuple_str, kit_int_list, kit_bool_list, kit_str_list, kit_non_list, kit_list_list, kit_tuple_list, kit_int_tuple, kit_bool_tuple, kit_str_tuple, kit_non_tuple, kit_list_tuple, kit_tuple_tuple, eqD_i, neD_i, eqD_s, neD_s, eqD_f, neD_f, Nat.zero_add, Nat.reduceAdd, nc0, nc1, nc2, nc3, nc4, nc5, nc6, nc7, nc8, nc9, eq_self, decide_true, decide_false, Int.reduceEq, Int.reduceLT, Int.reduceLE, Int.reduceNeg, Bool.not_true, Bool.not_false, Bool.false_eq_true, if_true, if_false, ↓reduceIte, false_and, and_false, List.all_cons, List.all_nil, List.any_cons, List.any_nil, id_eq, Bool.and_true, Bool.true_and, Bool.or_false, Bool.false_or, Bool.and_false, Bool.false_and, gCut, eqD_b, neD_b, giZip, reduceCtorEq, Bool.true_eq_false, Bool.false_eq_true, gRevL, gSl, goNone, goSome, slD_l, ne_eq, not_false_eq_true, not_true_eq_false, gBM, isTy_l, isTy_s, new_at, new_set, isTy_new, cellK_new, append_new, popAt_new, gFrz_eq, frzK_new, fLen_new, fTuple_new, ixD_new, slA_l, slA_t, slA_new, addTD_t, addCD_l, mulCD_l, isbD_b, isnotbD_b, mSplitC_s, gLstC, gTr, ggSub, lstK_l, lstK_r, addLD_eq]
  refine ⟨⟨by decide, by decide, by decide⟩, take_use (n + 5) rfl (by omega) ⟨by decide, log_of (by decide)⟩ fun r3 c3 h4 h5 hc3 => ?_⟩
  simp only [sem0, List.map_cons, List.map_nil, List.length_cons, List.length_nil, gSeq, gNext, gRet, gRetN, gIfS, gSet, gPar, gAsg, gDrop, gVar, gC, gBin, gUn, gB, gTru, gAnd, gOr, gNot, gAndV, gOrV, gNotV, gIf, gChain, gaNil, gaCons, DL.gTup, gLst, gCB, gCall0, gAug, addD_i, addD_s, addD_l, addD_t, subD_i, mulD_i, mulD_l, fdivD_i, modD_i, powD_i, ltD_i, ltD_s, leD_i, gtD_i, geD_i, isD_n, isnotD_n, isNonD_non, isNonD_bl, isNonD_int, isNonD_str, isNonD_lst, isNonD_tup, negD_i, iaddD_i, truD_non, truD_bl, truD_int, truD_str, truD_lst, truD_tup, someK_some, ixD_l, ixD_t, fAbs_i, fInt_i, fInt_b, fMin2_i, fLen_l, fLen_t, fLen_s, fList_l, fList_t, fTuple_l, fTuple_t, optBK_some, fIsi_non, fIsi_bl, fIsi_int, fIsi_str, fIsi_lst, fIsi_tup, List.getElem?_cons_zero, List.getElem?_cons_succ, List.set_cons_zero, List.set_cons_succ, DL.ggName, ggNil0, ggCons1, ggTup2, ggTup3, gFor, giSeq, gLc, gYes, wipeR, true_and, and_true, at_0, at_1, at_2, kit_int_int, kit_bool_int, kit_str_int, kit_non_int, kit_list_int, kit_tuple_int, kit_int_bool, kit_bool_bool, kit_str_bool, kit_non_bool, kit_list_bool, kit_tuple_bool, kit_int_str, kit_bool_str, kit_str_str, kit_non_str, kit_list_str, kit_tuple_str, kit_int_list, kit_bool_list, kit_str_list, kit_non_list, kit_list_list, kit_tuple_list, kit_int_tuple, kit_bool_tuple, kit_str_tuple, kit_non_tuple, kit_list_tuple, kit_tuple_tuple, eqD_i, neD_i, eqD_s, neD_s, eqD_f, neD_f, Nat.zero_add, Nat.reduceAdd, nc0, nc1, nc2, nc3, nc4, nc5, nc6, nc7, nc8, nc9, eq_self, decide_true, decide_false, Int.reduceEq, Int.reduceLT, Int.reduceLE, Int.reduceNeg, Bool.not_true, Bool.not_false, Bool.false_eq_true, if_true, if_false, ↓reduceIte, false_and, and_false, List.all_cons, List.all_nil, List.any_cons, List.any_nil, id_eq, Bool.and_true, Bool.true_and, Bool.or_false, Bool.false_or, Bool.and_false, Bool.false_and, gCut, eqD_b, neD_b, giZip, reduceCtorEq, Bool.true_eq_false, Bool.false_eq_true, gRevL, gSl, goNone, goSome, slD_l, ne_eq, not_false_eq_true, not_true_eq_false, gBM, isTy_l, isTy_s, new_at, new_set, isTy_new, cellK_new, append_new, popAt_new, gFrz_eq, frzK_new, fLen_new, fTuple_new, ixD_new, slA_l, slA_t, slA_new, addTD_t, addCD_l, mulCD_l, isbD_b, isnotbD_b, mSplitC_s, gLstC, gTr, ggSub, lstK_l, lstK_r, addLD_eq]
  refine ⟨by decide, take_use (n + 4) rfl (by omega) ⟨by decide, log_of (by decide)⟩ fun r4 c4 h6 h7 hc4 => ?_⟩
  refine ix_all (fun d => ∃ b : Int, d = .int b ∧ 0 < b ∧ b ≤ 10 ^ 12) h6 h7 (all_cons ⟨_, rfl, by decide, by decide⟩ (all_cons ⟨_, rfl, by omega, by omega⟩ (all_cons ⟨_, rfl, by omega, by omega⟩ (all_cons ⟨_, rfl, by omega, ?_⟩ all_nil)))) ?_
  · have : r3 < 10 ^ 12 := h5
    omega
  rintro d ⟨b, rfl, hb0, hb⟩
  simp only [sem0, List.map_cons, List.map_nil, List.length_cons, List.length_nil, gSeq, gNext, gRet, gRetN, gIfS, gSet, gPar, gAsg, gDrop, gVar, gC, gBin, gUn, gB, gTru, gAnd, gOr, gNot, gAndV, gOrV, gNotV, gIf, gChain, gaNil, gaCons, DL.gTup, gLst, gCB, gCall0, gAug, addD_i, addD_s, addD_l, addD_t, subD_i, mulD_i, mulD_l, fdivD_i, modD_i, powD_i, ltD_i, ltD_s, leD_i, gtD_i, geD_i, isD_n, isnotD_n, isNonD_non, isNonD_bl, isNonD_int, isNonD_str, isNonD_lst, isNonD_tup, negD_i, iaddD_i, truD_non, truD_bl, truD_int, truD_str, truD_lst, truD_tup, someK_some, ixD_l, ixD_t, fAbs_i, fInt_i, fInt_b, fMin2_i, fLen_l, fLen_t, fLen_s, fList_l, fList_t, fTuple_l, fTuple_t, optBK_some, fIsi_non, fIsi_bl, fIsi_int, fIsi_str, fIsi_lst, fIsi_tup, List.getElem?_cons_zero, List.getElem?_cons_succ, List.set_cons_zero, List.set_cons_succ, DL.ggName, ggNil0, ggCons1, ggTup2, ggTup3, gFor, giSeq, gLc, gYes, wipeR, true_and, and_true, at_0, at_1, at_2, kit_int_int, kit_bool_int, kit_str_int, kit_non_int, kit_list_int, kit_tuple_int, kit_int_bool, kit_bool_bool, kit_str_bool, kit_non_bool, kit_list_bool, kit_tuple_bool, kit_int_str, kit_bool_str, kit_str_str, kit_non_str, kit_list_str, kit_tuple_str, kit_int_list, kit_bool_list, kit_str_list, kit_non_list, kit_list_list, kit_tuple_list, kit_int_tuple, kit_bool_tuple, kit_str_tuple, kit_non_tuple, kit_list_tuple, kit_tuple_tuple, eqD_i, neD_i, eqD_s, neD_s, eqD_f, neD_f, Nat.zero_add, Nat.reduceAdd, nc0, nc1, nc2, nc3, nc4, nc5, nc6, nc7, nc8, nc9, eq_self, decide_true, decide_false, Int.reduceEq, Int.reduceLT, Int.reduceLE, Int.reduceNeg, Bool.not_true, Bool.not_false, Bool.false_eq_true, if_true, if_false, ↓reduceIte, false_and, and_false, List.all_cons, List.all_nil, List.any_cons, List.any_nil, id_eq, Bool.and_true, Bool.true_and, Bool.or_false, Bool.false_or, Bool.and_false, Bool.false_and, gCut, eqD_b, neD_b, giZip, reduceCtorEq, Bool.true_eq_false, Bool.false_eq_true, gRevL, gSl, goNone, goSome, slD_l, ne_eq, not_false_eq_true, not_true_eq_false, gBM, isTy_l, isTy_s, new_at, new_set, isTy_new, cellK_new, append_new, popAt_new, gFrz_eq, frzK_new, fLen_new, fTuple_new, ixD_new, slA_l, slA_t, slA_new, addTD_t, addCD_l, mulCD_l, isbD_b, isnotbD_b, mSplitC_s, gLstC, gTr, ggSub, lstK_l, lstK_r, addLD_eq]
  refine number_use n rfl (by omega) fun v c5 hv hc5 => ?_
  have bb : Big b := Nat.lt_of_le_of_lt (show b.natAbs ≤ 10 ^ 12 by omega) (by decide +kernel)
  have b0 : b ≠ 0 := by omega
  refine ⟨v, b, rfl, ⟨b0, bb, hv.big⟩, ?_⟩
  refine hk (norm v b) _ ⟨fr_norm b0, Nat.le_trans (fr_le b0).1 hv, ?_⟩ hc5
  have h1 := (fr_le (t := v) b0).2
  have h2 := (fr_is (t := v) b0).pos
  show frB v b ≤ 10 ^ 12
  omega
theorem fraction_use {w : Wd} {c : Nat} {kx : KX} {k : KD} (n : Nat) (hn : w.n = some c) (hc : n + 8 ≤ c) (h : ∀ x c', Frac x → n ≤ c' → k (fD x) ⟨w.M, some c'⟩) : sp__law_fraction [.st] w kx k := ⟨c, n, rfl, ⟨hn, hc⟩, h⟩
theorem ok__law_fraction {P : Program} {w : World} {K : PySem.W.Frag} {mg : Str → Option Value} {base : Heap} (T : DefAt K mg "_law_fraction" s__law_fraction ["_law_state"]) (B : Blt mg) (F__law_lowest : FnAt P w K mg base CX0 1 "_law_lowest" 2 sp__law_lowest) (F__law_take : FnAt P w K mg base CX0 1 "_law_take" 2 sp__law_take) (F__law_number : FnAt P w K mg base CX0 2 "_law_number" 1 sp__law_number) : FnAt P w K mg base CX0 3 "_law_fraction" 1 sp__law_fraction := (w__law_fraction T B F__law_lowest F__law_take F__law_number).imp v__law_fraction


end LW

namespace LW
open PySem PySem.Spec PyProof.Rows L2 RZ DL

/-! ### numbers as texts -/
open SX (S S_tl S_len S_cat)
open TL (numL)
def txt (i : Int) : List Nat := if i < 0 then 45 :: numL i.natAbs else numL i.natAbs
theorem txt_str (i : Int) : Str.ofString (toString i) = S (txt i) := by
  refine TL.ext_tl ?_
  show TL.tl (Str.ofString (toString i)) = txt i
  unfold txt
  cases i with
  | ofNat n =>
    rw [if_neg (by have := Int.natCast_nonneg n; show ¬ ((n : Int) < 0); omega)]
    exact TL.tl_num n
  | negSucc m =>
    rw [if_pos (Int.negSucc_lt_zero m)]
    have h := TL.tl_num (m + 1)
    rw [TL.tl_ofString] at h ⊢
    rw [show toString (Int.negSucc m) = "-" ++ toString (((m + 1 : Nat)) : Int) from rfl, String.toList_append, List.map_append, h]
    rfl
theorem numL_small {n : Nat} (h : n < 10 ^ 1000) : (numL n).length ≤ 1000 := TL.numL_len (by decide) h
theorem numL_pos (n : Nat) : 0 < (numL n).length := List.length_pos_iff.mpr (TL.numL_ne n)
structure FigOk (p : Qp) : Prop where
  fr : Fr p
  top : p.1.natAbs < 10 ^ 1000
  bel : p.2.natAbs < 10 ^ 1000
theorem fig_long {n : Nat} (h : n < 10 ^ 1000) : n < 10 ^ 4300 := Nat.lt_of_lt_of_le h (Nat.pow_le_pow_right (by decide) (by decide))
theorem txt_len {i : Int} (h : i.natAbs < 10 ^ 1000) : (txt i).length ≤ 1001 := by
  have := numL_small h
  unfold txt
  split
  · rw [List.length_cons]
    omega
  · omega
def frL (p : Qp) : List Nat := if p.2 = 1 then txt p.1 else txt p.1 ++ 47 :: txt p.2
theorem frL_len {p : Qp} (h : FigOk p) : (frL p).length ≤ 2003 := by
  have h1 := txt_len h.top
  have h2 := txt_len h.bel
  unfold frL
  split
  · omega
  · rw [List.length_append, List.length_cons]
    omega
theorem sl_of {n : Nat} (h : n ≤ 100000) : n ≤ sizeLine := Nat.le_trans h (by decide)
def sp_fraction_text : GF := fun ds w _ k => ∃ p : Qp, ds = [fD p] ∧ FigOk p ∧ k (.str (S (frL p))) w
abbrev s_fraction_text : Stmt := topS 15
theorem sc_fraction_text : FnScope ["one"] ["one"] (defScope s_fraction_text) := ⟨rfl, rfl, rfl, by decide +kernel, rfl, by decide +kernel, by decide +kernel⟩
def g_fraction_text : GS := (gSeq (gIfS (gB (gBin eqD (gBin ixD (gVar 0) (gC (.int 1))) (gC (.int 1)))) (gRet (gCB fStrI (gaCons (gBin ixD (gVar 0) (gC (.int 0))) gaNil))) gNext)
  (gRet (gBin addD (gBin addD (gCB fStrI (gaCons (gBin ixD (gVar 0) (gC (.int 0))) gaNil)) (gC (.str "/"))) (gCB fStrI (gaCons (gBin ixD (gVar 0) (gC (.int 1))) gaNil)))))
theorem w_fraction_text {P : Program} {w : World} {K : PySem.W.Frag} {mg : Str → Option Value} {base : Heap} (T : DefAt K mg "fraction_text" s_fraction_text ["one"]) (B : Blt mg) (b_NoDg : NoDg K) : FnAt P w K mg base CX0 1 "fraction_text" 1 (sem0 1 g_fraction_text) := by
  have nd := sc_fraction_text.nd
  exact T.fn0 sc_fraction_text (fun f cdv A outer s H E hr => (dss_cons (ds_if (dt_eq hr (de_ix (de_var 0) de_int) de_int) (dss_one (ds_ret (de_strI B b_NoDg rfl (by rfl) (da_cons (de_ix (de_var 0) de_int) da_nil)))) dss_nil)
  (dss_one (ds_ret (de_add (de_add (de_strI B b_NoDg rfl (by rfl) (da_cons (de_ix (de_var 0) de_int) da_nil)) de_str) (de_strI B b_NoDg rfl (by rfl) (da_cons (de_ix (de_var 0) de_int) da_nil)))))))

theorem v_fraction_text : ∀ ds w kx k, sp_fraction_text ds w kx k → sem0 1 g_fraction_text ds w kx k := by
  rintro ds w kx k ⟨p, rfl, hp, hk⟩
  have e : rho 1 [fD p] = [some (fD p)] := rfl
  have l1 := txt_len hp.top
  have l2 := txt_len hp.bel
  have s47 : ("/" : Str) = S [47] := by decide +kernel
  simp only [g_fraction_text, e, fStrI, ixD_f0, ixD_f1, ggTup_f, fIsi_f, fLen_f, eqD_ff, neD_ff, sem0, List.map_cons, List.map_nil, List.length_cons, List.length_nil, gSeq, gNext, gRet, gRetN, gIfS, gSet, gPar, gAsg, gDrop, gVar, gC, gBin, gUn, gB, gTru, gAnd, gOr, gNot, gAndV, gOrV, gNotV, gIf, gChain, gaNil, gaCons, DL.gTup, gLst, gCB, gCall0, gAug, addD_i, addD_s, addD_l, addD_t, subD_i, mulD_i, mulD_l, fdivD_i, modD_i, powD_i, ltD_i, ltD_s, leD_i, gtD_i, geD_i, isD_n, isnotD_n, isNonD_non, isNonD_bl, isNonD_int, isNonD_str, isNonD_lst, isNonD_tup, negD_i, iaddD_i, truD_non, truD_bl, truD_int, truD_str, truD_lst, truD_tup, someK_some, ixD_l, ixD_t, fAbs_i, fInt_i, fInt_b, fMin2_i, fLen_l, fLen_t, fLen_s, fList_l, fList_t, fTuple_l, fTuple_t, optBK_some, fIsi_non, fIsi_bl, fIsi_int, fIsi_str, fIsi_lst, fIsi_tup, List.getElem?_cons_zero, List.getElem?_cons_succ, List.set_cons_zero, List.set_cons_succ, DL.ggName, ggNil0, ggCons1, ggTup2, ggTup3, gFor, giSeq, gLc, gYes, wipeR, true_and, and_true, at_0, at_1, at_2, kit_int_int, kit_bool_int, kit_str_int, kit_non_int, kit_list_int, kit_tuple_int, kit_int_bool, kit_bool_bool, kit_str_bool, kit_non_bool, kit_list_bool, kit_tuple_bool, kit_int_str, kit_bool_str, kit_str_str, kit_non_str, kit_list_str, kit_tuple_str, kit_int_list, kit_bool_list, kit_str_list, kit_non_list, kit_list_list, kit_tuple_list, kit_int_tuple, kit_bool_tuple, kit_str_tuple, kit_non_tuple, kit_list_tuple, kit_tuple_tuple, eqD_i, neD_i, eqD_s, neD_s, eqD_f, neD_f, Nat.zero_add, Nat.reduceAdd, nc0, nc1, nc2, nc3, nc4, nc5, nc6, nc7, nc8, nc9, eq_self, decide_true, decide_false, Int.reduceEq, Int.reduceLT, Int.reduceLE, Int.reduceNeg, Bool.not_true, Bool.not_false, Bool.false_eq_true, if_true, if_false, ↓reduceIte, false_and, and_false, List.all_cons, List.all_nil, List.any_cons, List.any_nil, id_eq, Bool.and_true, Bool.true_and, Bool.or_false, Bool.false_or, Bool.and_false, Bool.false_and, gCut, eqD_b, neD_b, giZip, reduceCtorEq, Bool.true_eq_false, Bool.false_eq_true, gRevL, gSl, goNone, goSome, slD_l, ne_eq, not_false_eq_true, not_true_eq_false, gBM, isTy_l, isTy_s, new_at, new_set, isTy_new, cellK_new, append_new, popAt_new, gFrz_eq, frzK_new, fLen_new, fTuple_new, ixD_new, slA_l, slA_t, slA_new, addTD_t, addCD_l, mulCD_l, isbD_b, isnotbD_b, mSplitC_s, gLstC, gTr, ggSub, lstK_l, lstK_r, addLD_eq]
  refine ite2 (fun h => ?_) (fun h => ?_)
  · refine ⟨fig_long hp.top, ?_⟩
    rw [txt_str]
    unfold frL at hk
    rw [if_pos (of_decide_eq_true h)] at hk
    exact hk
  · refine ⟨fig_long hp.top, ?_⟩
    rw [txt_str, txt_str, s47, S_cat, S_cat, S_len, S_len, S_len, S_len]
    unfold frL at hk
    rw [if_neg fun z => h (decide_eq_true z)] at hk
    refine ⟨sl_of (by simp; omega), fig_long hp.bel, sl_of (by simp; omega), ?_⟩
    rw [List.append_assoc]
    exact hk
theorem ok_fraction_text {P : Program} {w : World} {K : PySem.W.Frag} {mg : Str → Option Value} {base : Heap} (T : DefAt K mg "fraction_text" s_fraction_text ["one"]) (B : Blt mg) (b_NoDg : NoDg K) : FnAt P w K mg base CX0 1 "fraction_text" 1 sp_fraction_text := (w_fraction_text T B  b_NoDg).imp v_fraction_text


theorem numL_head (n : Nat) (h : 0 < n) : ∃ c r, numL n = c :: r ∧ c ≠ 48 := by
  induction n using Nat.strongRecOn with
  | _ n ih =>
    by_cases h10 : n < 10
    · exact ⟨48 + n, [], TL.numL_lt h10, by omega⟩
    · obtain ⟨c, r, h1, h2⟩ := ih (n / 10) (by omega) (by omega)
      refine ⟨c, r ++ [48 + n % 10], ?_, h2⟩
      rw [TL.numL_step (by omega), h1]
      rfl
theorem zero_S : ("0" : Str) = S [48] := by decide +kernel
theorem numL_zero : numL 0 = [48] := TL.numL_lt (by decide)
theorem S_ne {a b : List Nat} (h : a ≠ b) : S a ≠ S b := fun z => h (SX.S_inj z)
theorem slash_S : ("/" : Str) = S [47] := by decide +kernel
theorem minus_S : ("-" : Str) = S [45] := by decide +kernel
theorem one_S : ("1" : Str) = S [49] := by decide +kernel
theorem nil_S : ("" : Str) = S [] := by decide +kernel
theorem decS {a b : List Nat} : decide (S a = S b) = decide (a = b) := by
  by_cases h : a = b
  · rw [h, decide_eq_true rfl, decide_eq_true rfl]
  · rw [decide_eq_false h, decide_eq_false (S_ne h)]
theorem lt_pow (n : Nat) : n < 10 ^ (numL n).length := by
  induction n using Nat.strongRecOn with
  | _ n ih =>
    by_cases h10 : n < 10
    · rw [TL.numL_lt h10]
      exact h10
    · have := ih (n / 10) (by omega)
      rw [TL.numL_step (by omega), List.length_append, List.length_singleton, Nat.pow_succ]
      omega
theorem lt_1000 {n : Nat} (h : (numL n).length ≤ 1000) : n < 10 ^ 1000 := Nat.lt_of_lt_of_le (lt_pow n) (Nat.pow_le_pow_right (by decide) h)
/-! ### plain numbers -/
def digB (w : List Nat) : Bool := (w.map fun c => decide (c ∈ ("0123456789" : Str).cps.toList)).all id
theorem dig_mem {c : Nat} : c ∈ ("0123456789" : Str).cps.toList ↔ 48 ≤ c ∧ c ≤ 57 := by
  rw [show ("0123456789" : Str).cps.toList = [48, 49, 50, 51, 52, 53, 54, 55, 56, 57] by decide +kernel]
  simp
  omega
theorem digB_iff {w : List Nat} : digB w = true ↔ ∀ c ∈ w, 48 ≤ c ∧ c ≤ 57 := by
  unfold digB
  rw [List.all_eq_true]
  constructor
  · intro h c hc
    have := h _ (List.mem_map.mpr ⟨c, hc, rfl⟩)
    exact dig_mem.mp (of_decide_eq_true this)
  · intro h b hb
    obtain ⟨c, hc, rfl⟩ := List.mem_map.mp hb
    exact decide_eq_true (dig_mem.mpr (h c hc))
theorem plain_num : ∀ (k : Nat) (w : List Nat), w.length = k → w ≠ [] → (∀ c ∈ w, 48 ≤ c ∧ c ≤ 57) → (w = [48] ∨ w.head? ≠ some 48) → ∃ n, w = numL n := by
  intro k
  induction k with
  | zero => exact fun w h h0 => absurd (List.eq_nil_of_length_eq_zero h) h0
  | succ k ih =>
    intro w hk h0 hd hz
    obtain ⟨l, c, rfl⟩ : ∃ l c, w = l ++ [c] := ⟨w.dropLast, w.getLast h0, (List.dropLast_concat_getLast h0).symm⟩
    have hc := hd c (by simp)
    by_cases hl : l = []
    · subst hl
      exact ⟨c - 48, by rw [TL.numL_lt (by omega)]; show [c] = [_]; congr 1; omega⟩
    · obtain ⟨x, r, rfl⟩ := List.exists_cons_of_ne_nil hl
      have hx : x ≠ 48 := by
        rcases hz with h | h
        · exact absurd (congrArg List.length h) (by simp)
        · intro z
          exact h (by rw [z]; rfl)
      obtain ⟨n, hn⟩ := ih (x :: r) (by simpa using hk) hl (fun d hd' => hd d (List.mem_append_left _ hd')) (.inr fun z => hx (by simpa using z))
      have np : 0 < n := by
        rcases Nat.eq_zero_or_pos n with e | h
        · subst e
          rw [numL_zero] at hn
          exact absurd (List.cons.inj hn).1 hx
        · exact h
      refine ⟨10 * n + (c - 48), ?_⟩
      rw [TL.numL_step (by omega), hn]
      have e1 : (10 * n + (c - 48)) / 10 = n := by omega
      have e2 : (10 * n + (c - 48)) % 10 = c - 48 := by omega
      rw [e1, e2]
      congr 2
      omega
def plainB (w : List Nat) : Bool := decide (0 < w.length ∧ w.length ≤ 1000) && (digB w && (decide (w = [48]) || decide (w.head? ≠ some 48)))
theorem plainB_num {w : List Nat} (h : plainB w = true) : ∃ n, w = numL n ∧ w.length ≤ 1000 := by
  unfold plainB at h
  rw [Bool.and_eq_true, Bool.and_eq_true, Bool.or_eq_true] at h
  obtain ⟨h1, h2, h3⟩ := h
  have h1 := of_decide_eq_true h1
  obtain ⟨n, hn⟩ := plain_num _ w rfl (by intro e; rw [e] at h1; exact absurd h1.1 (by decide)) (digB_iff.mp h2) (h3.imp of_decide_eq_true of_decide_eq_true)
  exact ⟨n, hn, h1.2⟩
theorem num_plainB {n : Nat} (h : (numL n).length ≤ 1000) : plainB (numL n) = true := by
  unfold plainB
  rw [Bool.and_eq_true, Bool.and_eq_true, Bool.or_eq_true]
  refine ⟨decide_eq_true ⟨numL_pos n, h⟩, digB_iff.mpr (TL.numL_digits n), ?_⟩
  rcases Nat.eq_zero_or_pos n with e | h
  · subst e
    exact .inl (decide_eq_true numL_zero)
  · obtain ⟨c, r, h1, h2⟩ := numL_head n h
    refine .inr (decide_eq_true ?_)
    rw [h1]
    exact fun z => h2 (by simpa using z)
theorem numL_free47 (n : Nat) : 47 ∉ numL n := TL.numL_free (by decide)
theorem numL_free45 (n : Nat) : 45 ∉ numL n := TL.numL_free (by decide)
/-! ### words between strokes -/
def Spl (l : List Nat) : List (List Nat) := TL.spl [47] 0 [] l
theorem split_Spl (l : List Nat) : Txt.split (S l) "/" = (Spl l).map S := by
  rw [slash_S, SX.split_S (by decide) (by decide)]
  rfl
theorem pre47 {c : Nat} {r : List Nat} : TL.pre [47] (c :: r) = decide (c = 47) := by
  show ([c] == [47]) = _
  by_cases h : c = 47
  · subst h
    rfl
  · rw [decide_eq_false h]
    simpa using h
theorem spl_acc : ∀ (l acc : List Nat), ∃ h t, Spl l = h :: t ∧ TL.spl [47] 0 acc l = (acc ++ h) :: t := by
  intro l
  induction l with
  | nil => exact fun acc => ⟨[], [], rfl, by rw [TL.spl_nil, List.append_nil]⟩
  | cons c r ih =>
    intro acc
    by_cases h : c = 47
    · refine ⟨[], Spl r, ?_, ?_⟩
      · exact TL.spl_hit (by rw [pre47, decide_eq_true h])
      · rw [TL.spl_hit (by rw [pre47, decide_eq_true h]), List.append_nil]
        rfl
    · have hm : TL.pre [47] (c :: r) = false := by rw [pre47, decide_eq_false h]
      obtain ⟨h1, t1, e1, e2⟩ := ih [c]
      obtain ⟨h2, t2, e3, e4⟩ := ih (acc ++ [c])
      rw [e1] at e3
      injection e3 with e5 e6
      subst e5
      subst e6
      refine ⟨c :: h1, t1, ?_, ?_⟩
      · unfold Spl
        rw [TL.spl_miss hm]
        exact e2
      · rw [TL.spl_miss hm, e4, List.append_assoc]
        rfl
theorem Spl_hit (r : List Nat) : Spl (47 :: r) = [] :: Spl r := TL.spl_hit (by rw [pre47, decide_eq_true rfl])
theorem Spl_miss {c : Nat} {r h : List Nat} {t : List (List Nat)} (hc : c ≠ 47) (e : Spl r = h :: t) : Spl (c :: r) = (c :: h) :: t := by
  obtain ⟨h1, t1, e1, e2⟩ := spl_acc r [c]
  rw [e] at e1
  injection e1 with e3 e4
  subst e3
  subst e4
  unfold Spl
  rw [TL.spl_miss (by rw [pre47, decide_eq_false hc])]
  exact e2
theorem Spl_ne (l : List Nat) : ∃ h t, Spl l = h :: t := by
  obtain ⟨h, t, e, _⟩ := spl_acc l []
  exact ⟨h, t, e⟩
theorem Spl_join : ∀ l : List Nat, TL.joinL [47] (Spl l) = l := by
  intro l
  induction l with
  | nil => rfl
  | cons c r ih =>
    obtain ⟨h, t, e⟩ := Spl_ne r
    by_cases hc : c = 47
    · subst hc
      rw [Spl_hit, e]
      rw [e] at ih
      show [] ++ ([47] ++ TL.joinL [47] (h :: t)) = _
      rw [ih]
      rfl
    · rw [Spl_miss hc e]
      rw [e] at ih
      cases t with
      | nil => exact congrArg (c :: ·) ih
      | cons q t => exact congrArg (c :: ·) ih
theorem Spl_one {l a : List Nat} (h : Spl l = [a]) : l = a := by
  have := Spl_join l
  rw [h] at this
  exact this.symm
theorem Spl_two {l a b : List Nat} (h : Spl l = [a, b]) : l = a ++ 47 :: b := by
  have := Spl_join l
  rw [h] at this
  exact this.symm
theorem Spl_head {l h : List Nat} {t : List (List Nat)} (e : Spl l = h :: t) (h1 : h.take 1 = [45]) : l.take 1 = [45] := by
  cases l with
  | nil => cases e; cases h1
  | cons c r =>
    by_cases hc : c = 47
    · subst hc
      rw [Spl_hit] at e
      injection e with e1 _
      subst e1
      cases h1
    · obtain ⟨h2, t2, e2⟩ := Spl_ne r
      rw [Spl_miss hc e2] at e
      injection e with e1 _
      subst e1
      exact h1
theorem Spl_len : ∀ l : List Nat, (Spl l).length ≤ l.length + 1 ∧ ∀ w ∈ Spl l, w.length ≤ l.length := by
  intro l
  induction l with
  | nil => exact ⟨Nat.le_refl _, fun w hw => by rw [List.mem_singleton.mp hw]; exact Nat.le_refl _⟩
  | cons c r ih =>
    obtain ⟨h, t, e⟩ := Spl_ne r
    by_cases hc : c = 47
    · subst hc
      rw [Spl_hit]
      refine ⟨by simpa using ih.1, fun w hw => ?_⟩
      rcases List.mem_cons.mp hw with rfl | hw
      · exact Nat.zero_le _
      · exact Nat.le_succ_of_le (ih.2 w hw)
    · rw [Spl_miss hc e]
      rw [e] at ih
      refine ⟨by have := ih.1; simp at this ⊢; omega, fun w hw => ?_⟩
      rcases List.mem_cons.mp hw with rfl | hw
      · have := ih.2 h List.mem_cons_self
        simpa using this
      · exact Nat.le_succ_of_le (ih.2 w (List.mem_cons_of_mem _ hw))
theorem Spl_free {p : List Nat} (h : 47 ∉ p) : Spl p = [p] := TL.spl_last1 h
theorem Spl_pair {p q : List Nat} (h : 47 ∉ p) : Spl (p ++ 47 :: q) = p :: Spl q := TL.spl_part1 h
/-! ### what is told of a text -/
def Told (l : List Nat) (p : Qp) : Prop := FigOk p ∧ l = frL p
def sgB (l : List Nat) : Bool := decide (l.take 1 = [45])
def unsg (l : List Nat) : List Nat := if sgB l = true then l.drop 1 else l
theorem sg_back (l : List Nat) : l = if sgB l = true then 45 :: unsg l else unsg l := by
  unfold unsg
  cases l with
  | nil => rfl
  | cons c r =>
    by_cases h : sgB (c :: r) = true
    · rw [if_pos h, if_pos h]
      have := of_decide_eq_true h
      have e : c = 45 := by simpa using this
      rw [e]
      rfl
    · rw [if_neg h, if_neg h]
/-- behind the sign -/
def body (p : Qp) : List Nat := if p.2 = 1 then numL p.1.natAbs else numL p.1.natAbs ++ 47 :: numL p.2.natAbs
theorem frL_body {p : Qp} (hp : Fr p) : frL p = if p.1 < 0 then 45 :: body p else body p := by
  have h2 := hp.pos
  unfold frL body txt
  rw [if_neg (show ¬ p.2 < 0 by omega)]
  by_cases h : p.1 < 0
  · rw [if_pos h, if_pos h]
    split <;> rfl
  · rw [if_neg h, if_neg h]
theorem body_pos (p : Qp) : ∃ c r, body p = c :: r ∧ c ≠ 45 := by
  have h := numL_pos p.1.natAbs
  cases e : numL p.1.natAbs with
  | nil => rw [e] at h; cases h
  | cons c r =>
    have : c ≠ 45 := fun z => numL_free45 p.1.natAbs (by rw [e, z]; exact List.mem_cons_self)
    unfold body
    rw [e]
    split
    · exact ⟨c, r, rfl, this⟩
    · exact ⟨c, _, rfl, this⟩
def words (p : Qp) : List (List Nat) := numL p.1.natAbs :: if p.2 = 1 then [] else [numL p.2.natAbs]
theorem Spl_body (p : Qp) : Spl (body p) = words p := by
  unfold body words
  by_cases h : p.2 = 1
  · rw [if_pos h, if_pos h, Spl_free (numL_free47 _)]
  · rw [if_neg h, if_neg h, Spl_pair (numL_free47 _), Spl_free (numL_free47 _)]
theorem told_parts {l : List Nat} {p : Qp} (h : Told l p) : sgB l = decide (p.1 < 0) ∧ unsg l = body p ∧ Spl (unsg l) = words p := by
  obtain ⟨hp, rfl⟩ := h
  obtain ⟨c, r, h1, h2⟩ := body_pos p
  have e : sgB (frL p) = decide (p.1 < 0) ∧ unsg (frL p) = body p := by
    rw [frL_body hp.fr]
    by_cases h : p.1 < 0
    · rw [if_pos h, decide_eq_true h]
      exact ⟨rfl, rfl⟩
    · rw [if_neg h, decide_eq_false h]
      have : sgB (body p) = false := by
        unfold sgB
        rw [h1]
        exact decide_eq_false fun z => h2 (by simpa using z)
      refine ⟨this, ?_⟩
      unfold unsg
      rw [this]
      rfl
  exact ⟨e.1, e.2, by rw [e.2]; exact Spl_body p⟩
def sgn (b : Bool) (a : Nat) : Int := if b = true then -(a : Int) else a
theorem told_one {l : List Nat} {p : Qp} {a : Nat} (h : Told l p) (hw : Spl (unsg l) = [numL a]) : p = (sgn (sgB l) a, 1) := by
  obtain ⟨h1, h2, h3⟩ := told_parts h
  have pos := h.1.fr.pos
  rw [h3] at hw
  unfold words at hw
  by_cases e : p.2 = 1
  · rw [if_pos e] at hw
    injection hw with hw _
    have ea := TL.numL_inj hw
    refine Prod.ext ?_ e
    show p.1 = sgn (sgB l) a
    unfold sgn
    rw [h1]
    by_cases hn : p.1 < 0
    · rw [decide_eq_true hn, if_pos rfl]
      omega
    · rw [decide_eq_false hn, if_neg (by decide)]
      omega
  · rw [if_neg e] at hw
    injection hw with _ hw
    cases hw
theorem told_two {l : List Nat} {p : Qp} {a b : Nat} (h : Told l p) (hw : Spl (unsg l) = [numL a, numL b]) : p = (sgn (sgB l) a, (b : Int)) ∧ p.2 ≠ 1 := by
  obtain ⟨h1, h2, h3⟩ := told_parts h
  have pos := h.1.fr.pos
  rw [h3] at hw
  unfold words at hw
  by_cases e : p.2 = 1
  · rw [if_pos e] at hw
    injection hw with _ hw
    cases hw
  · rw [if_neg e] at hw
    injection hw with hw hw2
    injection hw2 with hw2 _
    have ea := TL.numL_inj hw
    have eb := TL.numL_inj hw2
    refine ⟨Prod.ext ?_ (by show p.2 = (b : Int); omega), e⟩
    show p.1 = sgn (sgB l) a
    unfold sgn
    rw [h1]
    by_cases hn : p.1 < 0
    · rw [decide_eq_true hn, if_pos rfl]
      omega
    · rw [decide_eq_false hn, if_neg (by decide)]
      omega
/-- the words of what is told are plain ones, one or two, the second one isn't nought -/
theorem told_plain {l : List Nat} {p : Qp} (h : Told l p) : (∃ a, Spl (unsg l) = [numL a] ∧ (numL a).length ≤ 1000) ∨ ∃ a b, Spl (unsg l) = [numL a, numL b] ∧ (numL a).length ≤ 1000 ∧ (numL b).length ≤ 1000 ∧ 0 < b := by
  obtain ⟨h1, h2, h3⟩ := told_parts h
  have pos := h.1.fr.pos
  rw [h3]
  unfold words
  by_cases e : p.2 = 1
  · rw [if_pos e]
    exact .inl ⟨_, rfl, numL_small h.1.top⟩
  · rw [if_neg e]
    exact .inr ⟨_, _, rfl, numL_small h.1.top, numL_small h.1.bel, by omega⟩
theorem told_same {l : List Nat} {p q : Qp} (h1 : Told l p) (h2 : Told l q) : p = q := by
  rcases told_plain h1 with ⟨a, hw, _⟩ | ⟨a, b, hw, _⟩
  · rw [told_one h1 hw, told_one h2 hw]
  · rw [(told_two h1 hw).1, (told_two h2 hw).1]
theorem int_numL {n : Nat} (h : (numL n).length ≤ 1000) : PySem.intText? (S (numL n)) = some (n : Int) := by
  have e := TL.int_num (n := n) (by omega)
  rw [txt_str] at e
  unfold txt at e
  rw [if_neg (show ¬ ((n : Int) < 0) by omega), Int.natAbs_natCast] at e
  exact e
theorem int_neg {n : Nat} (h : (numL n).length ≤ 1000) : PySem.intText? (S (45 :: numL n)) = some (-(n : Int)) := by
  have e := PySem.intText_neg (x := S (45 :: numL n)) (cs := numL n) rfl (TL.numL_digits n) (TL.numL_ne n) (by rw [S_len, List.length_cons]; omega)
  rw [TL.numL_val] at e
  exact e
theorem big_top {n : Nat} (h : n < 10 ^ 1000) : n < 2 ^ 3330 := Nat.lt_of_lt_of_le h (by decide +kernel)
theorem cut_take (l : List Nat) : L2.cutS (S l) none (some 1) = S (l.take 1) := by
  unfold L2.cutS HT.sIx
  rw [S_len]
  cases l with
  | nil => rfl
  | cons c r => simp
theorem cut_zero (l : List Nat) : L2.cutS (S l) (some 0) none = S l := by
  unfold L2.cutS HT.sIx
  rw [S_len]
  simp
theorem cut_tail (l : List Nat) : L2.cutS (S l) (some 1) none = S (l.drop 1) := by
  unfold L2.cutS HT.sIx
  rw [S_len]
  cases l with
  | nil => rfl
  | cons c r => simp

end LW

namespace LW
open PySem PySem.Spec PyProof.Rows L2 RZ DL

open SX (S S_tl S_len S_cat)
open TL (numL)
theorem all_map (xs : List Nat) (f : Nat → Bool) : allBl (xs.map fun c => D.bl (f c)) = some (xs.map f) := by
  induction xs with
  | nil => rfl
  | cons x xs ih =>
    show (match allBl (xs.map fun c => D.bl (f c)) with
      | some bs => some (f x :: bs)
      | none => none) = _
    rw [ih]
    rfl
def sp_is_plain : GF := fun ds w _ k => ∃ l : List Nat, ds = [.str (S l)] ∧ l.length ≤ 100000 ∧ k (.bl (plainB l)) w
abbrev s_is_plain : Stmt := topS 16
theorem sc_is_plain : FnScope ["text", "sign"] ["text"] (defScope s_is_plain) := ⟨rfl, rfl, rfl, by decide +kernel, rfl, by decide +kernel, by decide +kernel⟩
def g_is_plain : GS := (gSeq (gIfS (gOr (gNot (gB (gChain ltD leD (gC (.int 0)) (gCB fLen (gaCons (gVar 0) gaNil)) (gC (.int (1000)))))) (gNot (gTru (gCB fAll (gaCons (gLc (giStr (gVar 0)) (ggName 1) gYes (gBin inSD (gVar 1) (gC (.str "0123456789"))) [1]) gaNil))))) (gRet (gC (.bl false))) gNext)
  (gRet (gOrV (gBin eqD (gVar 0) (gC (.str "0"))) (gBin neD (gBin ixD (gVar 0) (gC (.int 0))) (gC (.str "0"))))))
theorem w_is_plain {P : Program} {w : World} {K : PySem.W.Frag} {mg : Str → Option Value} {base : Heap} (T : DefAt K mg "is_plain" s_is_plain ["text"]) (B : Blt mg) {t_MOST_FIGURES : Tok} (c_MOST_FIGURES : mg "MOST_FIGURES" = some (.int (1000) t_MOST_FIGURES)) {t_FIGURES : Tok} (c_FIGURES : mg "FIGURES" = some (.str "0123456789" t_FIGURES)) : FnAt P w K mg base CX0 1 "is_plain" 1 (sem0 2 g_is_plain) := by
  have nd := sc_is_plain.nd
  exact T.fn0 sc_is_plain (fun f cdv A outer s H E hr => (dss_cons (ds_if (dt_w (dw_or (dt_not (dt_chain op_ltD ok_ltD op_le ok_leD de_int (de_len B (by rfl) (da_cons (de_var 0) da_nil)) (de_gint (by rfl) c_MOST_FIGURES))) (dw_or1 (dt_not (dt_truth (de_all B rfl (by rfl) (da_cons (de_lc (own := [("sign", 1)]) (us := [1]) rfl nd (di_str (de_var 0)) (blkOk_by (N := ["text", "sign"]) (sc := defScope s_is_plain) (by decide +kernel)) (by decide) (fun _ _ _ _ _ => (dg_name (i := 1) nd rfl (by first | exact Or.inl rfl | exact Or.inr rfl))) (fun _ _ _ _ _ => dts_nil) (fun _ _ _ _ _ => (de_inS (de_var 1) (de_gstr (by rfl) c_FIGURES)))) da_nil))))))) (dss_one (ds_ret de_bl)) dss_nil)
  (dss_one (ds_ret (de_or (de_eq hr (de_var 0) de_str) (de_one (de_ne hr (de_ix (de_var 0) de_int) de_str)))))))

theorem v_is_plain : ∀ ds w kx k, sp_is_plain ds w kx k → sem0 2 g_is_plain ds w kx k := by
  rintro ds w kx k ⟨l, rfl, hn, hk⟩
  have e : rho 2 [D.str (S l)] = [some (.str (S l)), none] := rfl
  simp only [g_is_plain, e, giStr, inSD, sem0, List.map_cons, List.map_nil, List.length_cons, List.length_nil, gSeq, gNext, gRet, gRetN, gIfS, gSet, gPar, gAsg, gDrop, gVar, gC, gBin, gUn, gB, gTru, gAnd, gOr, gNot, gAndV, gOrV, gNotV, gIf, gChain, gaNil, gaCons, DL.gTup, gLst, gCB, gCall0, gAug, addD_i, addD_s, addD_l, addD_t, subD_i, mulD_i, mulD_l, fdivD_i, modD_i, powD_i, ltD_i, ltD_s, leD_i, gtD_i, geD_i, isD_n, isnotD_n, isNonD_non, isNonD_bl, isNonD_int, isNonD_str, isNonD_lst, isNonD_tup, negD_i, iaddD_i, truD_non, truD_bl, truD_int, truD_str, truD_lst, truD_tup, someK_some, ixD_l, ixD_t, fAbs_i, fInt_i, fInt_b, fMin2_i, fLen_l, fLen_t, fLen_s, fList_l, fList_t, fTuple_l, fTuple_t, optBK_some, fIsi_non, fIsi_bl, fIsi_int, fIsi_str, fIsi_lst, fIsi_tup, List.getElem?_cons_zero, List.getElem?_cons_succ, List.set_cons_zero, List.set_cons_succ, DL.ggName, ggNil0, ggCons1, ggTup2, ggTup3, gFor, giSeq, gLc, gYes, wipeR, true_and, and_true, at_0, at_1, at_2, kit_int_int, kit_bool_int, kit_str_int, kit_non_int, kit_list_int, kit_tuple_int, kit_int_bool, kit_bool_bool, kit_str_bool, kit_non_bool, kit_list_bool, kit_tuple_bool, kit_int_str, kit_bool_str, kit_str_str, kit_non_str, kit_list_str, kit_tuple_str, kit_int_list, kit_bool_list, kit_str_list, kit_non_list, kit_list_list, kit_tuple_list, kit_int_tuple, kit_bool_tuple, kit_str_tuple, kit_non_tuple, kit_list_tuple, kit_tuple_tuple, eqD_i, neD_i, eqD_s, neD_s, eqD_f, neD_f, Nat.zero_add, Nat.reduceAdd, nc0, nc1, nc2, nc3, nc4, nc5, nc6, nc7, nc8, nc9, eq_self, decide_true, decide_false, Int.reduceEq, Int.reduceLT, Int.reduceLE, Int.reduceNeg, Bool.not_true, Bool.not_false, Bool.false_eq_true, if_true, if_false, ↓reduceIte, false_and, and_false, List.all_cons, List.all_nil, List.any_cons, List.any_nil, id_eq, Bool.and_true, Bool.true_and, Bool.or_false, Bool.false_or, Bool.and_false, Bool.false_and, gCut, eqD_b, neD_b, giZip, reduceCtorEq, Bool.true_eq_false, Bool.false_eq_true, gRevL, gSl, goNone, goSome, slD_l, ne_eq, not_false_eq_true, not_true_eq_false, gBM, isTy_l, isTy_s, new_at, new_set, isTy_new, cellK_new, append_new, popAt_new, gFrz_eq, frzK_new, fLen_new, fTuple_new, ixD_new, slA_l, slA_t, slA_new, addTD_t, addCD_l, mulCD_l, isbD_b, isnotbD_b, mSplitC_s, gLstC, gTr, ggSub, lstK_l, lstK_r, addLD_eq]
  refine ⟨by rw [S_len]; exact sl_of hn, ?_⟩
  rw [S_len]
  unfold plainB at hk
  by_cases h0 : 0 < l.length ∧ l.length ≤ 1000
  · rw [decide_eq_true h0, Bool.true_and] at hk
    rw [decide_eq_true (show (0 : Int) < (l.length : Int) by omega), decide_eq_true (show (l.length : Int) ≤ 1000 by omega)]
    simp only [sem0, List.map_cons, List.map_nil, List.length_cons, List.length_nil, gSeq, gNext, gRet, gRetN, gIfS, gSet, gPar, gAsg, gDrop, gVar, gC, gBin, gUn, gB, gTru, gAnd, gOr, gNot, gAndV, gOrV, gNotV, gIf, gChain, gaNil, gaCons, DL.gTup, gLst, gCB, gCall0, gAug, addD_i, addD_s, addD_l, addD_t, subD_i, mulD_i, mulD_l, fdivD_i, modD_i, powD_i, ltD_i, ltD_s, leD_i, gtD_i, geD_i, isD_n, isnotD_n, isNonD_non, isNonD_bl, isNonD_int, isNonD_str, isNonD_lst, isNonD_tup, negD_i, iaddD_i, truD_non, truD_bl, truD_int, truD_str, truD_lst, truD_tup, someK_some, ixD_l, ixD_t, fAbs_i, fInt_i, fInt_b, fMin2_i, fLen_l, fLen_t, fLen_s, fList_l, fList_t, fTuple_l, fTuple_t, optBK_some, fIsi_non, fIsi_bl, fIsi_int, fIsi_str, fIsi_lst, fIsi_tup, List.getElem?_cons_zero, List.getElem?_cons_succ, List.set_cons_zero, List.set_cons_succ, DL.ggName, ggNil0, ggCons1, ggTup2, ggTup3, gFor, giSeq, gLc, gYes, wipeR, true_and, and_true, at_0, at_1, at_2, kit_int_int, kit_bool_int, kit_str_int, kit_non_int, kit_list_int, kit_tuple_int, kit_int_bool, kit_bool_bool, kit_str_bool, kit_non_bool, kit_list_bool, kit_tuple_bool, kit_int_str, kit_bool_str, kit_str_str, kit_non_str, kit_list_str, kit_tuple_str, kit_int_list, kit_bool_list, kit_str_list, kit_non_list, kit_list_list, kit_tuple_list, kit_int_tuple, kit_bool_tuple, kit_str_tuple, kit_non_tuple, kit_list_tuple, kit_tuple_tuple, eqD_i, neD_i, eqD_s, neD_s, eqD_f, neD_f, Nat.zero_add, Nat.reduceAdd, nc0, nc1, nc2, nc3, nc4, nc5, nc6, nc7, nc8, nc9, eq_self, decide_true, decide_false, Int.reduceEq, Int.reduceLT, Int.reduceLE, Int.reduceNeg, Bool.not_true, Bool.not_false, Bool.false_eq_true, if_true, if_false, ↓reduceIte, false_and, and_false, List.all_cons, List.all_nil, List.any_cons, List.any_nil, id_eq, Bool.and_true, Bool.true_and, Bool.or_false, Bool.false_or, Bool.and_false, Bool.false_and, gCut, eqD_b, neD_b, giZip, reduceCtorEq, Bool.true_eq_false, Bool.false_eq_true, gRevL, gSl, goNone, goSome, slD_l, ne_eq, not_false_eq_true, not_true_eq_false, gBM, isTy_l, isTy_s, new_at, new_set, isTy_new, cellK_new, append_new, popAt_new, gFrz_eq, frzK_new, fLen_new, fTuple_new, ixD_new, slA_l, slA_t, slA_new, addTD_t, addCD_l, mulCD_l, isbD_b, isnotbD_b, mSplitC_s, gLstC, gTr, ggSub, lstK_l, lstK_r, addLD_eq]
    refine lc_ty (fun c => D.str ⟨#[c]⟩) (fun c => D.bl (decide (c ∈ ("0123456789" : Str).cps.toList))) l trivial hn (fun c hc k' hk' => ?_) ?_
    · simp only [inSD, sem0, List.map_cons, List.map_nil, List.length_cons, List.length_nil, gSeq, gNext, gRet, gRetN, gIfS, gSet, gPar, gAsg, gDrop, gVar, gC, gBin, gUn, gB, gTru, gAnd, gOr, gNot, gAndV, gOrV, gNotV, gIf, gChain, gaNil, gaCons, DL.gTup, gLst, gCB, gCall0, gAug, addD_i, addD_s, addD_l, addD_t, subD_i, mulD_i, mulD_l, fdivD_i, modD_i, powD_i, ltD_i, ltD_s, leD_i, gtD_i, geD_i, isD_n, isnotD_n, isNonD_non, isNonD_bl, isNonD_int, isNonD_str, isNonD_lst, isNonD_tup, negD_i, iaddD_i, truD_non, truD_bl, truD_int, truD_str, truD_lst, truD_tup, someK_some, ixD_l, ixD_t, fAbs_i, fInt_i, fInt_b, fMin2_i, fLen_l, fLen_t, fLen_s, fList_l, fList_t, fTuple_l, fTuple_t, optBK_some, fIsi_non, fIsi_bl, fIsi_int, fIsi_str, fIsi_lst, fIsi_tup, List.getElem?_cons_zero, List.getElem?_cons_succ, List.set_cons_zero, List.set_cons_succ, DL.ggName, ggNil0, ggCons1, ggTup2, ggTup3, gFor, giSeq, gLc, gYes, wipeR, true_and, and_true, at_0, at_1, at_2, kit_int_int, kit_bool_int, kit_str_int, kit_non_int, kit_list_int, kit_tuple_int, kit_int_bool, kit_bool_bool, kit_str_bool, kit_non_bool, kit_list_bool, kit_tuple_bool, kit_int_str, kit_bool_str, kit_str_str, kit_non_str, kit_list_str, kit_tuple_str, kit_int_list, kit_bool_list, kit_str_list, kit_non_list, kit_list_list, kit_tuple_list, kit_int_tuple, kit_bool_tuple, kit_str_tuple, kit_non_tuple, kit_list_tuple, kit_tuple_tuple, eqD_i, neD_i, eqD_s, neD_s, eqD_f, neD_f, Nat.zero_add, Nat.reduceAdd, nc0, nc1, nc2, nc3, nc4, nc5, nc6, nc7, nc8, nc9, eq_self, decide_true, decide_false, Int.reduceEq, Int.reduceLT, Int.reduceLE, Int.reduceNeg, Bool.not_true, Bool.not_false, Bool.false_eq_true, if_true, if_false, ↓reduceIte, false_and, and_false, List.all_cons, List.all_nil, List.any_cons, List.any_nil, id_eq, Bool.and_true, Bool.true_and, Bool.or_false, Bool.false_or, Bool.and_false, Bool.false_and, gCut, eqD_b, neD_b, giZip, reduceCtorEq, Bool.true_eq_false, Bool.false_eq_true, gRevL, gSl, goNone, goSome, slD_l, ne_eq, not_false_eq_true, not_true_eq_false, gBM, isTy_l, isTy_s, new_at, new_set, isTy_new, cellK_new, append_new, popAt_new, gFrz_eq, frzK_new, fLen_new, fTuple_new, ixD_new, slA_l, slA_t, slA_new, addTD_t, addCD_l, mulCD_l, isbD_b, isnotbD_b, mSplitC_s, gLstC, gTr, ggSub, lstK_l, lstK_r, addLD_eq]
      exact ⟨c, rfl, hk'⟩
    · simp only [fAll, all_map, sem0, List.map_cons, List.map_nil, List.length_cons, List.length_nil, gSeq, gNext, gRet, gRetN, gIfS, gSet, gPar, gAsg, gDrop, gVar, gC, gBin, gUn, gB, gTru, gAnd, gOr, gNot, gAndV, gOrV, gNotV, gIf, gChain, gaNil, gaCons, DL.gTup, gLst, gCB, gCall0, gAug, addD_i, addD_s, addD_l, addD_t, subD_i, mulD_i, mulD_l, fdivD_i, modD_i, powD_i, ltD_i, ltD_s, leD_i, gtD_i, geD_i, isD_n, isnotD_n, isNonD_non, isNonD_bl, isNonD_int, isNonD_str, isNonD_lst, isNonD_tup, negD_i, iaddD_i, truD_non, truD_bl, truD_int, truD_str, truD_lst, truD_tup, someK_some, ixD_l, ixD_t, fAbs_i, fInt_i, fInt_b, fMin2_i, fLen_l, fLen_t, fLen_s, fList_l, fList_t, fTuple_l, fTuple_t, optBK_some, fIsi_non, fIsi_bl, fIsi_int, fIsi_str, fIsi_lst, fIsi_tup, List.getElem?_cons_zero, List.getElem?_cons_succ, List.set_cons_zero, List.set_cons_succ, DL.ggName, ggNil0, ggCons1, ggTup2, ggTup3, gFor, giSeq, gLc, gYes, wipeR, true_and, and_true, at_0, at_1, at_2, kit_int_int, kit_bool_int, kit_str_int, kit_non_int, kit_list_int, kit_tuple_int, kit_int_bool, kit_bool_bool, kit_str_bool, kit_non_bool, kit_list_bool, kit_tuple_bool, kit_int_str, kit_bool_str, kit_str_str, kit_non_str, kit_list_str, kit_tuple_str, kit_int_list, kit_bool_list, kit_str_list, kit_non_list, kit_list_list, kit_tuple_list, kit_int_tuple, kit_bool_tuple, kit_str_tuple, kit_non_tuple, kit_list_tuple, kit_tuple_tuple, eqD_i, neD_i, eqD_s, neD_s, eqD_f, neD_f, Nat.zero_add, Nat.reduceAdd, nc0, nc1, nc2, nc3, nc4, nc5, nc6, nc7, nc8, nc9, eq_self, decide_true, decide_false, Int.reduceEq, Int.reduceLT, Int.reduceLE, Int.reduceNeg, Bool.not_true, Bool.not_false, Bool.false_eq_true, if_true, if_false, ↓reduceIte, false_and, and_false, List.all_cons, List.all_nil, List.any_cons, List.any_nil, id_eq, Bool.and_true, Bool.true_and, Bool.or_false, Bool.false_or, Bool.and_false, Bool.false_and, gCut, eqD_b, neD_b, giZip, reduceCtorEq, Bool.true_eq_false, Bool.false_eq_true, gRevL, gSl, goNone, goSome, slD_l, ne_eq, not_false_eq_true, not_true_eq_false, gBM, isTy_l, isTy_s, new_at, new_set, isTy_new, cellK_new, append_new, popAt_new, gFrz_eq, frzK_new, fLen_new, fTuple_new, ixD_new, slA_l, slA_t, slA_new, addTD_t, addCD_l, mulCD_l, isbD_b, isnotbD_b, mSplitC_s, gLstC, gTr, ggSub, lstK_l, lstK_r, addLD_eq]
      rw [show ((l.map fun c => decide (c ∈ ("0123456789" : Str).cps.toList)).all id) = digB l from rfl]
      cases hd : digB l
      · rw [hd, Bool.false_and] at hk
        simp only [sem0, List.map_cons, List.map_nil, List.length_cons, List.length_nil, gSeq, gNext, gRet, gRetN, gIfS, gSet, gPar, gAsg, gDrop, gVar, gC, gBin, gUn, gB, gTru, gAnd, gOr, gNot, gAndV, gOrV, gNotV, gIf, gChain, gaNil, gaCons, DL.gTup, gLst, gCB, gCall0, gAug, addD_i, addD_s, addD_l, addD_t, subD_i, mulD_i, mulD_l, fdivD_i, modD_i, powD_i, ltD_i, ltD_s, leD_i, gtD_i, geD_i, isD_n, isnotD_n, isNonD_non, isNonD_bl, isNonD_int, isNonD_str, isNonD_lst, isNonD_tup, negD_i, iaddD_i, truD_non, truD_bl, truD_int, truD_str, truD_lst, truD_tup, someK_some, ixD_l, ixD_t, fAbs_i, fInt_i, fInt_b, fMin2_i, fLen_l, fLen_t, fLen_s, fList_l, fList_t, fTuple_l, fTuple_t, optBK_some, fIsi_non, fIsi_bl, fIsi_int, fIsi_str, fIsi_lst, fIsi_tup, List.getElem?_cons_zero, List.getElem?_cons_succ, List.set_cons_zero, List.set_cons_succ, DL.ggName, ggNil0, ggCons1, ggTup2, ggTup3, gFor, giSeq, gLc, gYes, wipeR, true_and, and_true, at_0, at_1, at_2, kit_int_int, kit_bool_int, kit_str_int, kit_non_int, kit_list_int, kit_tuple_int, kit_int_bool, kit_bool_bool, kit_str_bool, kit_non_bool, kit_list_bool, kit_tuple_bool, kit_int_str, kit_bool_str, kit_str_str, kit_non_str, kit_list_str, kit_tuple_str, kit_int_list, kit_bool_list, kit_str_list, kit_non_list, kit_list_list, kit_tuple_list, kit_int_tuple, kit_bool_tuple, kit_str_tuple, kit_non_tuple, kit_list_tuple, kit_tuple_tuple, eqD_i, neD_i, eqD_s, neD_s, eqD_f, neD_f, Nat.zero_add, Nat.reduceAdd, nc0, nc1, nc2, nc3, nc4, nc5, nc6, nc7, nc8, nc9, eq_self, decide_true, decide_false, Int.reduceEq, Int.reduceLT, Int.reduceLE, Int.reduceNeg, Bool.not_true, Bool.not_false, Bool.false_eq_true, if_true, if_false, ↓reduceIte, false_and, and_false, List.all_cons, List.all_nil, List.any_cons, List.any_nil, id_eq, Bool.and_true, Bool.true_and, Bool.or_false, Bool.false_or, Bool.and_false, Bool.false_and, gCut, eqD_b, neD_b, giZip, reduceCtorEq, Bool.true_eq_false, Bool.false_eq_true, gRevL, gSl, goNone, goSome, slD_l, ne_eq, not_false_eq_true, not_true_eq_false, gBM, isTy_l, isTy_s, new_at, new_set, isTy_new, cellK_new, append_new, popAt_new, gFrz_eq, frzK_new, fLen_new, fTuple_new, ixD_new, slA_l, slA_t, slA_new, addTD_t, addCD_l, mulCD_l, isbD_b, isnotbD_b, mSplitC_s, gLstC, gTr, ggSub, lstK_l, lstK_r, addLD_eq]
        exact hk
      · rw [hd, Bool.true_and] at hk
        simp only [sem0, List.map_cons, List.map_nil, List.length_cons, List.length_nil, gSeq, gNext, gRet, gRetN, gIfS, gSet, gPar, gAsg, gDrop, gVar, gC, gBin, gUn, gB, gTru, gAnd, gOr, gNot, gAndV, gOrV, gNotV, gIf, gChain, gaNil, gaCons, DL.gTup, gLst, gCB, gCall0, gAug, addD_i, addD_s, addD_l, addD_t, subD_i, mulD_i, mulD_l, fdivD_i, modD_i, powD_i, ltD_i, ltD_s, leD_i, gtD_i, geD_i, isD_n, isnotD_n, isNonD_non, isNonD_bl, isNonD_int, isNonD_str, isNonD_lst, isNonD_tup, negD_i, iaddD_i, truD_non, truD_bl, truD_int, truD_str, truD_lst, truD_tup, someK_some, ixD_l, ixD_t, fAbs_i, fInt_i, fInt_b, fMin2_i, fLen_l, fLen_t, fLen_s, fList_l, fList_t, fTuple_l, fTuple_t, optBK_some, fIsi_non, fIsi_bl, fIsi_int, fIsi_str, fIsi_lst, fIsi_tup, List.getElem?_cons_zero, List.getElem?_cons_succ, List.set_cons_zero, List.set_cons_succ, DL.ggName, ggNil0, ggCons1, ggTup2, ggTup3, gFor, giSeq, gLc, gYes, wipeR, true_and, and_true, at_0, at_1, at_2, kit_int_int, kit_bool_int, kit_str_int, kit_non_int, kit_list_int, kit_tuple_int, kit_int_bool, kit_bool_bool, kit_str_bool, kit_non_bool, kit_list_bool, kit_tuple_bool, kit_int_str, kit_bool_str, kit_str_str, kit_non_str, kit_list_str, kit_tuple_str, kit_int_list, kit_bool_list, kit_str_list, kit_non_list, kit_list_list, kit_tuple_list, kit_int_tuple, kit_bool_tuple, kit_str_tuple, kit_non_tuple, kit_list_tuple, kit_tuple_tuple, eqD_i, neD_i, eqD_s, neD_s, eqD_f, neD_f, Nat.zero_add, Nat.reduceAdd, nc0, nc1, nc2, nc3, nc4, nc5, nc6, nc7, nc8, nc9, eq_self, decide_true, decide_false, Int.reduceEq, Int.reduceLT, Int.reduceLE, Int.reduceNeg, Bool.not_true, Bool.not_false, Bool.false_eq_true, if_true, if_false, ↓reduceIte, false_and, and_false, List.all_cons, List.all_nil, List.any_cons, List.any_nil, id_eq, Bool.and_true, Bool.true_and, Bool.or_false, Bool.false_or, Bool.and_false, Bool.false_and, gCut, eqD_b, neD_b, giZip, reduceCtorEq, Bool.true_eq_false, Bool.false_eq_true, gRevL, gSl, goNone, goSome, slD_l, ne_eq, not_false_eq_true, not_true_eq_false, gBM, isTy_l, isTy_s, new_at, new_set, isTy_new, cellK_new, append_new, popAt_new, gFrz_eq, frzK_new, fLen_new, fTuple_new, ixD_new, slA_l, slA_t, slA_new, addTD_t, addCD_l, mulCD_l, isbD_b, isnotbD_b, mSplitC_s, gLstC, gTr, ggSub, lstK_l, lstK_r, addLD_eq]
        rw [zero_S, decS]
        by_cases hz : l = [48]
        · rw [decide_eq_true hz] at hk ⊢
          exact hk
        · rw [decide_eq_false hz] at hk ⊢
          obtain ⟨c, r, rfl⟩ := List.exists_cons_of_ne_nil (show l ≠ [] from fun z => by rw [z] at h0; exact absurd h0.1 (by decide))
          show ixD (D.str (S (c :: r))) (D.int 0) w _
          refine ⟨by rw [S_len]; exact sl_of hn, ?_⟩
          rw [show (S (c :: r)).cps.toList = c :: r from rfl]
          simp only [at_0]
          rw [neD_s, show (⟨#[c]⟩ : Str) = S [c] from rfl, decS]
          rw [Bool.false_or] at hk
          have : (!decide ([c] = [48])) = decide ((c :: r).head? ≠ some 48) := by
            by_cases hc : c = 48
            · subst hc
              rfl
            · rw [decide_eq_false (show ¬ [c] = [48] from fun z => hc (by simpa using z)), decide_eq_true (show (c :: r).head? ≠ some 48 from fun z => hc (by simpa using z))]
              rfl
          rw [this]
          exact hk
  · rw [decide_eq_false h0, Bool.false_and] at hk
    by_cases h1 : 0 < l.length
    · rw [decide_eq_true (show (0 : Int) < (l.length : Int) by omega), decide_eq_false (show ¬ (l.length : Int) ≤ 1000 by omega)]
      simp only [sem0, List.map_cons, List.map_nil, List.length_cons, List.length_nil, gSeq, gNext, gRet, gRetN, gIfS, gSet, gPar, gAsg, gDrop, gVar, gC, gBin, gUn, gB, gTru, gAnd, gOr, gNot, gAndV, gOrV, gNotV, gIf, gChain, gaNil, gaCons, DL.gTup, gLst, gCB, gCall0, gAug, addD_i, addD_s, addD_l, addD_t, subD_i, mulD_i, mulD_l, fdivD_i, modD_i, powD_i, ltD_i, ltD_s, leD_i, gtD_i, geD_i, isD_n, isnotD_n, isNonD_non, isNonD_bl, isNonD_int, isNonD_str, isNonD_lst, isNonD_tup, negD_i, iaddD_i, truD_non, truD_bl, truD_int, truD_str, truD_lst, truD_tup, someK_some, ixD_l, ixD_t, fAbs_i, fInt_i, fInt_b, fMin2_i, fLen_l, fLen_t, fLen_s, fList_l, fList_t, fTuple_l, fTuple_t, optBK_some, fIsi_non, fIsi_bl, fIsi_int, fIsi_str, fIsi_lst, fIsi_tup, List.getElem?_cons_zero, List.getElem?_cons_succ, List.set_cons_zero, List.set_cons_succ, DL.ggName, ggNil0, ggCons1, ggTup2, ggTup3, gFor, giSeq, gLc, gYes, wipeR, true_and, and_true, at_0, at_1, at_2, kit_int_int, kit_bool_int, kit_str_int, kit_non_int, kit_list_int, kit_tuple_int, kit_int_bool, kit_bool_bool, kit_str_bool, kit_non_bool, kit_list_bool, kit_tuple_bool, kit_int_str, kit_bool_str, kit_str_str, kit_non_str, kit_list_str, kit_tuple_str, kit_int_list, kit_bool_list, kit_str_list, kit_non_list, kit_list_list, kit_tuple_list, kit_int_tuple, kit_bool_tuple, kit_str_tuple, kit_non_tuple, kit_list_tuple, kit_tuple_tuple, eqD_i, neD_i, eqD_s, neD_s, eqD_f, neD_f, Nat.zero_add, Nat.reduceAdd, nc0, nc1, nc2, nc3, nc4, nc5, nc6, nc7, nc8, nc9, eq_self, decide_true, decide_false, Int.reduceEq, Int.reduceLT, Int.reduceLE, Int.reduceNeg, Bool.not_true, Bool.not_false, Bool.false_eq_true, if_true, if_false, ↓reduceIte, false_and, and_false, List.all_cons, List.all_nil, List.any_cons, List.any_nil, id_eq, Bool.and_true, Bool.true_and, Bool.or_false, Bool.false_or, Bool.and_false, Bool.false_and, gCut, eqD_b, neD_b, giZip, reduceCtorEq, Bool.true_eq_false, Bool.false_eq_true, gRevL, gSl, goNone, goSome, slD_l, ne_eq, not_false_eq_true, not_true_eq_false, gBM, isTy_l, isTy_s, new_at, new_set, isTy_new, cellK_new, append_new, popAt_new, gFrz_eq, frzK_new, fLen_new, fTuple_new, ixD_new, slA_l, slA_t, slA_new, addTD_t, addCD_l, mulCD_l, isbD_b, isnotbD_b, mSplitC_s, gLstC, gTr, ggSub, lstK_l, lstK_r, addLD_eq]
      exact hk
    · rw [decide_eq_false (show ¬ (0 : Int) < (l.length : Int) by omega)]
      simp only [sem0, List.map_cons, List.map_nil, List.length_cons, List.length_nil, gSeq, gNext, gRet, gRetN, gIfS, gSet, gPar, gAsg, gDrop, gVar, gC, gBin, gUn, gB, gTru, gAnd, gOr, gNot, gAndV, gOrV, gNotV, gIf, gChain, gaNil, gaCons, DL.gTup, gLst, gCB, gCall0, gAug, addD_i, addD_s, addD_l, addD_t, subD_i, mulD_i, mulD_l, fdivD_i, modD_i, powD_i, ltD_i, ltD_s, leD_i, gtD_i, geD_i, isD_n, isnotD_n, isNonD_non, isNonD_bl, isNonD_int, isNonD_str, isNonD_lst, isNonD_tup, negD_i, iaddD_i, truD_non, truD_bl, truD_int, truD_str, truD_lst, truD_tup, someK_some, ixD_l, ixD_t, fAbs_i, fInt_i, fInt_b, fMin2_i, fLen_l, fLen_t, fLen_s, fList_l, fList_t, fTuple_l, fTuple_t, optBK_some, fIsi_non, fIsi_bl, fIsi_int, fIsi_str, fIsi_lst, fIsi_tup, List.getElem?_cons_zero, List.getElem?_cons_succ, List.set_cons_zero, List.set_cons_succ, DL.ggName, ggNil0, ggCons1, ggTup2, ggTup3, gFor, giSeq, gLc, gYes, wipeR, true_and, and_true, at_0, at_1, at_2, kit_int_int, kit_bool_int, kit_str_int, kit_non_int, kit_list_int, kit_tuple_int, kit_int_bool, kit_bool_bool, kit_str_bool, kit_non_bool, kit_list_bool, kit_tuple_bool, kit_int_str, kit_bool_str, kit_str_str, kit_non_str, kit_list_str, kit_tuple_str, kit_int_list, kit_bool_list, kit_str_list, kit_non_list, kit_list_list, kit_tuple_list, kit_int_tuple, kit_bool_tuple, kit_str_tuple, kit_non_tuple, kit_list_tuple, kit_tuple_tuple, eqD_i, neD_i, eqD_s, neD_s, eqD_f, neD_f, Nat.zero_add, Nat.reduceAdd, nc0, nc1, nc2, nc3, nc4, nc5, nc6, nc7, nc8, nc9, eq_self, decide_true, decide_false, Int.reduceEq, Int.reduceLT, Int.reduceLE, Int.reduceNeg, Bool.not_true, Bool.not_false, Bool.false_eq_true, if_true, if_false, ↓reduceIte, false_and, and_false, List.all_cons, List.all_nil, List.any_cons, List.any_nil, id_eq, Bool.and_true, Bool.true_and, Bool.or_false, Bool.false_or, Bool.and_false, Bool.false_and, gCut, eqD_b, neD_b, giZip, reduceCtorEq, Bool.true_eq_false, Bool.false_eq_true, gRevL, gSl, goNone, goSome, slD_l, ne_eq, not_false_eq_true, not_true_eq_false, gBM, isTy_l, isTy_s, new_at, new_set, isTy_new, cellK_new, append_new, popAt_new, gFrz_eq, frzK_new, fLen_new, fTuple_new, ixD_new, slA_l, slA_t, slA_new, addTD_t, addCD_l, mulCD_l, isbD_b, isnotbD_b, mSplitC_s, gLstC, gTr, ggSub, lstK_l, lstK_r, addLD_eq]
      exact hk
theorem ok_is_plain {P : Program} {w : World} {K : PySem.W.Frag} {mg : Str → Option Value} {base : Heap} (T : DefAt K mg "is_plain" s_is_plain ["text"]) (B : Blt mg) {t_MOST_FIGURES : Tok} (c_MOST_FIGURES : mg "MOST_FIGURES" = some (.int (1000) t_MOST_FIGURES)) {t_FIGURES : Tok} (c_FIGURES : mg "FIGURES" = some (.str "0123456789" t_FIGURES)) : FnAt P w K mg base CX0 1 "is_plain" 1 sp_is_plain := (w_is_plain T B  c_MOST_FIGURES c_FIGURES).imp v_is_plain


theorem cut_unsg (l : List Nat) : L2.cutS (S l) (some (if sgB l = true then (1 : Int) else 0)) none = S (unsg l) := by
  unfold unsg
  by_cases h : sgB l = true
  · rw [if_pos h, if_pos h]
    exact cut_tail l
  · rw [if_neg h, if_neg h]
    exact cut_zero l
theorem all_mapG {α : Type} (xs : List α) (f : α → Bool) : allBl (xs.map fun c => D.bl (f c)) = some (xs.map f) := by
  induction xs with
  | nil => rfl
  | cons x xs ih =>
    show (match allBl (xs.map fun c => D.bl (f c)) with
      | some bs => some (f x :: bs)
      | none => none) = _
    rw [ih]
    rfl
theorem sgn_mul (b : Bool) (a : Nat) : (a : Int) * (1 - 2 * (if b = true then (1 : Int) else 0)) = sgn b a := by
  unfold sgn
  cases b
  · rw [if_neg (by decide), if_neg (by decide)]; omega
  · rw [if_pos rfl, if_pos rfl]; omega
theorem sgn_abs (b : Bool) (a : Nat) : (sgn b a).natAbs = a := by
  unfold sgn
  split <;> omega
theorem b1 : Big 1 := Nat.lt_of_lt_of_le (show (1 : Int).natAbs < 2 ^ 1 by decide) (Nat.pow_le_pow_right (by decide) (by decide))
theorem big_1000 {n : Nat} (h : n < 10 ^ 1000) : Big (n : Int) := by
  show (n : Int).natAbs < 2 ^ 4000
  rw [Int.natAbs_natCast]
  exact Nat.lt_trans (big_top h) (Nat.pow_lt_pow_right (by decide) (by decide))
theorem fig_norm {t b : Int} (hb : b ≠ 0) (h1 : t.natAbs < 10 ^ 1000) (h2 : b.natAbs < 10 ^ 1000) : FigOk (norm t b) := ⟨fr_norm hb, Nat.lt_of_le_of_lt (fr_le hb).1 h1, Nat.lt_of_le_of_lt (fr_le hb).2 h2⟩
theorem all_plain {ws : List (List Nat)} (h : (ws.map plainB).all id = true) : ∀ w ∈ ws, ∃ n, w = numL n ∧ w.length ≤ 1000 := fun w hw => plainB_num (by
  rw [List.all_eq_true] at h
  exact h _ (List.mem_map.mpr ⟨w, hw, rfl⟩))
theorem told_all {l : List Nat} {p : Qp} (h : Told l p) : ((Spl (unsg l)).map plainB).all id = true ∧ (Spl (unsg l)).length ≤ 2 := by
  rcases told_plain h with ⟨a, hw, ha⟩ | ⟨a, b, hw, ha, hb, _⟩
  · rw [hw]
    simp only [List.map_cons, List.map_nil, num_plainB ha]
    exact ⟨rfl, by simp⟩
  · rw [hw]
    simp only [List.map_cons, List.map_nil, num_plainB ha, num_plainB hb]
    exact ⟨rfl, by simp⟩
theorem numL_eq0 {n : Nat} : decide (numL n = [48]) = decide (n = 0) := by
  by_cases h : n = 0
  · subst h
    rw [decide_eq_true numL_zero, decide_eq_true rfl]
  · rw [decide_eq_false h, decide_eq_false]
    exact fun z => h (TL.numL_inj (z.trans numL_zero.symm))
def sp_fraction_in (X : XF) : GF := fun ds w kx k => ∃ l : List Nat, ds = [.str (S l)] ∧ l.length ≤ 100000 ∧ (∀ p, Told l p → k (fD p) w) ∧ ((∀ p, ¬ Told l p) → kx (.own X.bf) w)
abbrev s_fraction_in : Stmt := topS 17
theorem sc_fraction_in : FnScope ["text", "signs", "words", "found", "word"] ["text"] (defScope s_fraction_in) := ⟨rfl, rfl, rfl, by decide +kernel, rfl, by decide +kernel, by decide +kernel⟩
def g_fraction_in (X : XF) : GS := (gSeq (gSet 1 (gCB fInt (gaCons (gBin eqD (gSl slS (gVar 0) goNone (goSome (gC (.int 1)))) (gC (.str "-"))) gaNil)))
  (gSeq (gSet 2 (gBM "str" mSplit (gSl slS (gVar 0) (goSome (gVar 1)) goNone) (gaCons (gC (.str "/")) gaNil)))
  (gSeq (gIfS (gOr (gB (gBin gtD (gCB fLen (gaCons (gVar 2) gaNil)) (gC (.int 2)))) (gOr (gNot (gTru (gCB fAll (gaCons (gLc (giSeq (gVar 2)) (ggName 4) gYes (gCall0 1 sp_is_plain (gaCons (gVar 4) gaNil)) [4]) gaNil)))) (gAnd (gB (gBin eqD (gBin ixD (gVar 2) (gUn negD (gC (.int 1)))) (gC (.str "0")))) (gB (gBin eqD (gCB fLen (gaCons (gVar 2) gaNil)) (gC (.int 2))))))) (gRaise X.bf) gNext)
  (gSeq (gSet 3 (gCall0 2 sp_fraction_of (gaCons (gBin mulD (gCB fIntS (gaCons (gBin ixD (gVar 2) (gC (.int 0))) gaNil)) (gBin subD (gC (.int 1)) (gBin mulD (gC (.int 2)) (gVar 1)))) (gaCons (gCB fIntS (gaCons (gBin ixD (gBin addD (gVar 2) (gLst (gaCons (gC (.str "1")) gaNil))) (gC (.int 1))) gaNil)) gaNil))))
  (gSeq (gIfS (gB (gBin neD (gCall0 1 sp_fraction_text (gaCons (gVar 3) gaNil)) (gVar 0))) (gRaise X.bf) gNext)
  (gRet (gVar 3)))))))
theorem w_fraction_in {P : Program} {w : World} {K : PySem.W.Frag} {mg : Str → Option Value} {base : Heap} (T : DefAt K mg "fraction_in" s_fraction_in ["text"]) (B : Blt mg) {X : XF} (XX : XFK K mg X) (F_fraction_of : FnAt P w K mg base CX0 2 "fraction_of" 2 sp_fraction_of) (F_fraction_text : FnAt P w K mg base CX0 1 "fraction_text" 1 sp_fraction_text) (F_is_plain : FnAt P w K mg base CX0 1 "is_plain" 1 sp_is_plain) (b_NoDg : NoDg K) : FnAt P w K mg base (L2.CX P w) 3 "fraction_in" 1 (semX 5 (g_fraction_in X)) := by
  have nd := sc_fraction_in.nd
  exact T.fnX sc_fraction_in (fun f cdv A outer s H E hr tk => (dss_cons (ds_set (i := 1) nd rfl (by first | exact Or.inl rfl | exact Or.inr rfl) (de_toint B (by rfl) (da_cons (de_eq hr (de_slS (de_var 0) do_none (do_some de_int)) de_str) da_nil)))
  (dss_cons (ds_set (i := 2) nd rfl (by first | exact Or.inl rfl | exact Or.inr rfl) (de_bm PySem.F.plainAttrs_str PySem.F.slot_str_split (by rfl) mt_split ok_split (de_slS (de_var 0) (do_some (de_var 1)) do_none) (da_cons de_str da_nil) (by rfl) (by rfl) (by rfl) (by rfl) (by rfl)))
  (dss_cons (ds_if (dt_w (dw_or (dt_gt (de_len B (by rfl) (da_cons (de_var 2) da_nil)) de_int) (dw_or (dt_not (dt_truth (de_all B rfl (by rfl) (da_cons (de_lc (own := [("word", 4)]) (us := [4]) rfl nd (di_seq (de_var 2)) (blkOk_by (N := ["text", "signs", "words", "found", "word"]) (sc := defScope s_fraction_in) (by decide +kernel)) (by decide) (fun _ _ _ _ _ => (dg_name (i := 4) nd rfl (by first | exact Or.inl rfl | exact Or.inr rfl))) (fun _ _ _ _ _ => dts_nil) (fun _ _ _ _ _ => (de_call0 F_is_plain hr (by rfl) (da_cons (de_var 4) da_nil)))) da_nil)))) (dw_or1 (dt_w (dw_and (dt_eq hr (de_ix (de_var 2) (de_neg de_int)) de_str) (dw_and1 (dt_eq hr (de_len B (by rfl) (da_cons (de_var 2) da_nil)) de_int)))))))) (dss_one (ds_raise rfl tk (XX.xcls (x := "BadFraction") (C := X.bf) (by simp [XF.all]) (by simp [XF.raised])) (by rfl))) dss_nil)
  (dss_cons (ds_set (i := 3) nd rfl (by first | exact Or.inl rfl | exact Or.inr rfl) (de_call0 F_fraction_of hr (by rfl) (da_cons (de_mul (de_intS B b_NoDg (by rfl) (da_cons (de_ix (de_var 2) de_int) da_nil)) (de_sub de_int (de_mul de_int (de_var 1)))) (da_cons (de_intS B b_NoDg (by rfl) (da_cons (de_ix (de_add (de_var 2) (de_lst (da_cons de_str da_nil))) de_int) da_nil)) da_nil))))
  (dss_cons (ds_if (dt_ne hr (de_call0 F_fraction_text hr (by rfl) (da_cons (de_var 3) da_nil)) (de_var 0)) (dss_one (ds_raise rfl tk (XX.xcls (x := "BadFraction") (C := X.bf) (by simp [XF.all]) (by simp [XF.raised])) (by rfl))) dss_nil)
  (dss_one (ds_ret (de_var 3)))))))))

theorem v_fraction_in (X : XF) : ∀ ds w kx k, sp_fraction_in X ds w kx k → semX 5 (g_fraction_in X) ds w kx k := by
  rintro ds w kx k ⟨l, rfl, hl, hk, hx⟩
  have e : rho 5 [D.str (S l)] = [some (.str (S l)), none, none, none, none] := rfl
  simp only [g_fraction_in, e, slS, sp_is_plain, sp_fraction_of, sp_fraction_text, semX, gRaise, sem0, List.map_cons, List.map_nil, List.length_cons, List.length_nil, gSeq, gNext, gRet, gRetN, gIfS, gSet, gPar, gAsg, gDrop, gVar, gC, gBin, gUn, gB, gTru, gAnd, gOr, gNot, gAndV, gOrV, gNotV, gIf, gChain, gaNil, gaCons, DL.gTup, gLst, gCB, gCall0, gAug, addD_i, addD_s, addD_l, addD_t, subD_i, mulD_i, mulD_l, fdivD_i, modD_i, powD_i, ltD_i, ltD_s, leD_i, gtD_i, geD_i, isD_n, isnotD_n, isNonD_non, isNonD_bl, isNonD_int, isNonD_str, isNonD_lst, isNonD_tup, negD_i, iaddD_i, truD_non, truD_bl, truD_int, truD_str, truD_lst, truD_tup, someK_some, ixD_l, ixD_t, fAbs_i, fInt_i, fInt_b, fMin2_i, fLen_l, fLen_t, fLen_s, fList_l, fList_t, fTuple_l, fTuple_t, optBK_some, fIsi_non, fIsi_bl, fIsi_int, fIsi_str, fIsi_lst, fIsi_tup, List.getElem?_cons_zero, List.getElem?_cons_succ, List.set_cons_zero, List.set_cons_succ, DL.ggName, ggNil0, ggCons1, ggTup2, ggTup3, gFor, giSeq, gLc, gYes, wipeR, true_and, and_true, at_0, at_1, at_2, kit_int_int, kit_bool_int, kit_str_int, kit_non_int, kit_list_int, kit_tuple_int, kit_int_bool, kit_bool_bool, kit_str_bool, kit_non_bool, kit_list_bool, kit_tuple_bool, kit_int_str, kit_bool_str, kit_str_str, kit_non_str, kit_list_str, kit_tuple_str, kit_int_list, kit_bool_list, kit_str_list, kit_non_list, kit_list_list, kit_tuple_list, kit_int_tuple, kit_bool_tuple, kit_str_tuple, kit_non_tuple, kit_list_tuple, kit_tuple_tuple, eqD_i, neD_i, eqD_s, neD_s, eqD_f, neD_f, Nat.zero_add, Nat.reduceAdd, nc0, nc1, nc2, nc3, nc4, nc5, nc6, nc7, nc8, nc9, eq_self, decide_true, decide_false, Int.reduceEq, Int.reduceLT, Int.reduceLE, Int.reduceNeg, Bool.not_true, Bool.not_false, Bool.false_eq_true, if_true, if_false, ↓reduceIte, false_and, and_false, List.all_cons, List.all_nil, List.any_cons, List.any_nil, id_eq, Bool.and_true, Bool.true_and, Bool.or_false, Bool.false_or, Bool.and_false, Bool.false_and, gCut, eqD_b, neD_b, giZip, reduceCtorEq, Bool.true_eq_false, Bool.false_eq_true, gRevL, gSl, goNone, goSome, slD_l, ne_eq, not_false_eq_true, not_true_eq_false, gBM, isTy_l, isTy_s, new_at, new_set, isTy_new, cellK_new, append_new, popAt_new, gFrz_eq, frzK_new, fLen_new, fTuple_new, ixD_new, slA_l, slA_t, slA_new, addTD_t, addCD_l, mulCD_l, isbD_b, isnotbD_b, mSplitC_s, gLstC, gTr, ggSub, lstK_l, lstK_r, addLD_eq]
  rw [cut_take, minus_S, decS, show decide (l.take 1 = [45]) = sgB l from rfl, cut_unsg]
  refine ⟨by rw [S_len]; exact sl_of hl, by rw [S_len]; exact sl_of hl, ?_⟩
  have hul : (unsg l).length ≤ 100000 := by
    unfold unsg
    split
    · rw [List.length_drop]; omega
    · exact hl
  have hws := Spl_len (unsg l)
  obtain ⟨sv, hsv⟩ : ∃ sv : Int, (if sgB l = true then (1 : Int) else 0) = sv := ⟨_, rfl⟩
  have hsm := sgn_mul (sgB l)
  have hsr : sv = 0 ∨ sv = 1 := by rw [← hsv]; split <;> simp
  rw [hsv] at hsm ⊢
  show (("/" : Str).length == 0) = false ∧ (S (unsg l)).length + 2 ≤ sizeLine ∧ _
  refine ⟨by decide +kernel, by rw [S_len]; exact Nat.le_trans (show _ ≤ 100002 by omega) (by decide), ?_⟩
  rw [split_Spl]
  obtain ⟨ws, hw⟩ : ∃ ws, Spl (unsg l) = ws := ⟨_, rfl⟩
  have hall : ∀ p, Told l p → (ws.map plainB).all id = true ∧ ws.length ≤ 2 := fun p hp => by
    rw [← hw]
    exact told_all hp
  have hne : ws ≠ [] := by
    obtain ⟨a, t, e⟩ := Spl_ne (unsg l)
    rw [← hw, e]
    exact fun z => nomatch z
  rw [hw] at hws ⊢
  simp only [sem0, List.map_cons, List.map_nil, List.length_cons, List.length_nil, gSeq, gNext, gRet, gRetN, gIfS, gSet, gPar, gAsg, gDrop, gVar, gC, gBin, gUn, gB, gTru, gAnd, gOr, gNot, gAndV, gOrV, gNotV, gIf, gChain, gaNil, gaCons, DL.gTup, gLst, gCB, gCall0, gAug, addD_i, addD_s, addD_l, addD_t, subD_i, mulD_i, mulD_l, fdivD_i, modD_i, powD_i, ltD_i, ltD_s, leD_i, gtD_i, geD_i, isD_n, isnotD_n, isNonD_non, isNonD_bl, isNonD_int, isNonD_str, isNonD_lst, isNonD_tup, negD_i, iaddD_i, truD_non, truD_bl, truD_int, truD_str, truD_lst, truD_tup, someK_some, ixD_l, ixD_t, fAbs_i, fInt_i, fInt_b, fMin2_i, fLen_l, fLen_t, fLen_s, fList_l, fList_t, fTuple_l, fTuple_t, optBK_some, fIsi_non, fIsi_bl, fIsi_int, fIsi_str, fIsi_lst, fIsi_tup, List.getElem?_cons_zero, List.getElem?_cons_succ, List.set_cons_zero, List.set_cons_succ, DL.ggName, ggNil0, ggCons1, ggTup2, ggTup3, gFor, giSeq, gLc, gYes, wipeR, true_and, and_true, at_0, at_1, at_2, kit_int_int, kit_bool_int, kit_str_int, kit_non_int, kit_list_int, kit_tuple_int, kit_int_bool, kit_bool_bool, kit_str_bool, kit_non_bool, kit_list_bool, kit_tuple_bool, kit_int_str, kit_bool_str, kit_str_str, kit_non_str, kit_list_str, kit_tuple_str, kit_int_list, kit_bool_list, kit_str_list, kit_non_list, kit_list_list, kit_tuple_list, kit_int_tuple, kit_bool_tuple, kit_str_tuple, kit_non_tuple, kit_list_tuple, kit_tuple_tuple, eqD_i, neD_i, eqD_s, neD_s, eqD_f, neD_f, Nat.zero_add, Nat.reduceAdd, nc0, nc1, nc2, nc3, nc4, nc5, nc6, nc7, nc8, nc9, eq_self, decide_true, decide_false, Int.reduceEq, Int.reduceLT, Int.reduceLE, Int.reduceNeg, Bool.not_true, Bool.not_false, Bool.false_eq_true, if_true, if_false, ↓reduceIte, false_and, and_false, List.all_cons, List.all_nil, List.any_cons, List.any_nil, id_eq, Bool.and_true, Bool.true_and, Bool.or_false, Bool.false_or, Bool.and_false, Bool.false_and, gCut, eqD_b, neD_b, giZip, reduceCtorEq, Bool.true_eq_false, Bool.false_eq_true, gRevL, gSl, goNone, goSome, slD_l, ne_eq, not_false_eq_true, not_true_eq_false, gBM, isTy_l, isTy_s, new_at, new_set, isTy_new, cellK_new, append_new, popAt_new, gFrz_eq, frzK_new, fLen_new, fTuple_new, ixD_new, slA_l, slA_t, slA_new, addTD_t, addCD_l, mulCD_l, isbD_b, isnotbD_b, mSplitC_s, gLstC, gTr, ggSub, lstK_l, lstK_r, addLD_eq]
  rw [List.length_map, List.length_map]
  by_cases h2' : 2 < ws.length
  · rw [decide_eq_true (show 2 < (ws.length : Int) by omega)]
    exact hx fun p hp => absurd (hall p hp).2 (by omega)
  have h2 : ws.length ≤ 2 := by omega
  rw [decide_eq_false (show ¬ 2 < (ws.length : Int) by omega)]
  simp only [sem0, List.map_cons, List.map_nil, List.length_cons, List.length_nil, gSeq, gNext, gRet, gRetN, gIfS, gSet, gPar, gAsg, gDrop, gVar, gC, gBin, gUn, gB, gTru, gAnd, gOr, gNot, gAndV, gOrV, gNotV, gIf, gChain, gaNil, gaCons, DL.gTup, gLst, gCB, gCall0, gAug, addD_i, addD_s, addD_l, addD_t, subD_i, mulD_i, mulD_l, fdivD_i, modD_i, powD_i, ltD_i, ltD_s, leD_i, gtD_i, geD_i, isD_n, isnotD_n, isNonD_non, isNonD_bl, isNonD_int, isNonD_str, isNonD_lst, isNonD_tup, negD_i, iaddD_i, truD_non, truD_bl, truD_int, truD_str, truD_lst, truD_tup, someK_some, ixD_l, ixD_t, fAbs_i, fInt_i, fInt_b, fMin2_i, fLen_l, fLen_t, fLen_s, fList_l, fList_t, fTuple_l, fTuple_t, optBK_some, fIsi_non, fIsi_bl, fIsi_int, fIsi_str, fIsi_lst, fIsi_tup, List.getElem?_cons_zero, List.getElem?_cons_succ, List.set_cons_zero, List.set_cons_succ, DL.ggName, ggNil0, ggCons1, ggTup2, ggTup3, gFor, giSeq, gLc, gYes, wipeR, true_and, and_true, at_0, at_1, at_2, kit_int_int, kit_bool_int, kit_str_int, kit_non_int, kit_list_int, kit_tuple_int, kit_int_bool, kit_bool_bool, kit_str_bool, kit_non_bool, kit_list_bool, kit_tuple_bool, kit_int_str, kit_bool_str, kit_str_str, kit_non_str, kit_list_str, kit_tuple_str, kit_int_list, kit_bool_list, kit_str_list, kit_non_list, kit_list_list, kit_tuple_list, kit_int_tuple, kit_bool_tuple, kit_str_tuple, kit_non_tuple, kit_list_tuple, kit_tuple_tuple, eqD_i, neD_i, eqD_s, neD_s, eqD_f, neD_f, Nat.zero_add, Nat.reduceAdd, nc0, nc1, nc2, nc3, nc4, nc5, nc6, nc7, nc8, nc9, eq_self, decide_true, decide_false, Int.reduceEq, Int.reduceLT, Int.reduceLE, Int.reduceNeg, Bool.not_true, Bool.not_false, Bool.false_eq_true, if_true, if_false, ↓reduceIte, false_and, and_false, List.all_cons, List.all_nil, List.any_cons, List.any_nil, id_eq, Bool.and_true, Bool.true_and, Bool.or_false, Bool.false_or, Bool.and_false, Bool.false_and, gCut, eqD_b, neD_b, giZip, reduceCtorEq, Bool.true_eq_false, Bool.false_eq_true, gRevL, gSl, goNone, goSome, slD_l, ne_eq, not_false_eq_true, not_true_eq_false, gBM, isTy_l, isTy_s, new_at, new_set, isTy_new, cellK_new, append_new, popAt_new, gFrz_eq, frzK_new, fLen_new, fTuple_new, ixD_new, slA_l, slA_t, slA_new, addTD_t, addCD_l, mulCD_l, isbD_b, isnotbD_b, mSplitC_s, gLstC, gTr, ggSub, lstK_l, lstK_r, addLD_eq]
  rw [List.map_map]
  refine lc_ty (D.str ∘ S) (fun w => D.bl (plainB w)) ws trivial (by omega) (fun c hc k' hk' => ?_) ?_
  · simp only [sem0, List.map_cons, List.map_nil, List.length_cons, List.length_nil, gSeq, gNext, gRet, gRetN, gIfS, gSet, gPar, gAsg, gDrop, gVar, gC, gBin, gUn, gB, gTru, gAnd, gOr, gNot, gAndV, gOrV, gNotV, gIf, gChain, gaNil, gaCons, DL.gTup, gLst, gCB, gCall0, gAug, addD_i, addD_s, addD_l, addD_t, subD_i, mulD_i, mulD_l, fdivD_i, modD_i, powD_i, ltD_i, ltD_s, leD_i, gtD_i, geD_i, isD_n, isnotD_n, isNonD_non, isNonD_bl, isNonD_int, isNonD_str, isNonD_lst, isNonD_tup, negD_i, iaddD_i, truD_non, truD_bl, truD_int, truD_str, truD_lst, truD_tup, someK_some, ixD_l, ixD_t, fAbs_i, fInt_i, fInt_b, fMin2_i, fLen_l, fLen_t, fLen_s, fList_l, fList_t, fTuple_l, fTuple_t, optBK_some, fIsi_non, fIsi_bl, fIsi_int, fIsi_str, fIsi_lst, fIsi_tup, List.getElem?_cons_zero, List.getElem?_cons_succ, List.set_cons_zero, List.set_cons_succ, DL.ggName, ggNil0, ggCons1, ggTup2, ggTup3, gFor, giSeq, gLc, gYes, wipeR, true_and, and_true, at_0, at_1, at_2, kit_int_int, kit_bool_int, kit_str_int, kit_non_int, kit_list_int, kit_tuple_int, kit_int_bool, kit_bool_bool, kit_str_bool, kit_non_bool, kit_list_bool, kit_tuple_bool, kit_int_str, kit_bool_str, kit_str_str, kit_non_str, kit_list_str, kit_tuple_str, kit_int_list, kit_bool_list, kit_str_list, kit_non_list, kit_list_list, kit_tuple_list, kit_int_tuple, kit_bool_tuple, kit_str_tuple, kit_non_tuple, kit_list_tuple, kit_tuple_tuple, eqD_i, neD_i, eqD_s, neD_s, eqD_f, neD_f, Nat.zero_add, Nat.reduceAdd, nc0, nc1, nc2, nc3, nc4, nc5, nc6, nc7, nc8, nc9, eq_self, decide_true, decide_false, Int.reduceEq, Int.reduceLT, Int.reduceLE, Int.reduceNeg, Bool.not_true, Bool.not_false, Bool.false_eq_true, if_true, if_false, ↓reduceIte, false_and, and_false, List.all_cons, List.all_nil, List.any_cons, List.any_nil, id_eq, Bool.and_true, Bool.true_and, Bool.or_false, Bool.false_or, Bool.and_false, Bool.false_and, gCut, eqD_b, neD_b, giZip, reduceCtorEq, Bool.true_eq_false, Bool.false_eq_true, gRevL, gSl, goNone, goSome, slD_l, ne_eq, not_false_eq_true, not_true_eq_false, gBM, isTy_l, isTy_s, new_at, new_set, isTy_new, cellK_new, append_new, popAt_new, gFrz_eq, frzK_new, fLen_new, fTuple_new, ixD_new, slA_l, slA_t, slA_new, addTD_t, addCD_l, mulCD_l, isbD_b, isnotbD_b, mSplitC_s, gLstC, gTr, ggSub, lstK_l, lstK_r, addLD_eq]
    exact ⟨c, rfl, Nat.le_trans (hws.2 c hc) hul, hk'⟩
  simp only [fAll, all_mapG, sem0, List.map_cons, List.map_nil, List.length_cons, List.length_nil, gSeq, gNext, gRet, gRetN, gIfS, gSet, gPar, gAsg, gDrop, gVar, gC, gBin, gUn, gB, gTru, gAnd, gOr, gNot, gAndV, gOrV, gNotV, gIf, gChain, gaNil, gaCons, DL.gTup, gLst, gCB, gCall0, gAug, addD_i, addD_s, addD_l, addD_t, subD_i, mulD_i, mulD_l, fdivD_i, modD_i, powD_i, ltD_i, ltD_s, leD_i, gtD_i, geD_i, isD_n, isnotD_n, isNonD_non, isNonD_bl, isNonD_int, isNonD_str, isNonD_lst, isNonD_tup, negD_i, iaddD_i, truD_non, truD_bl, truD_int, truD_str, truD_lst, truD_tup, someK_some, ixD_l, ixD_t, fAbs_i, fInt_i, fInt_b, fMin2_i, fLen_l, fLen_t, fLen_s, fList_l, fList_t, fTuple_l, fTuple_t, optBK_some, fIsi_non, fIsi_bl, fIsi_int, fIsi_str, fIsi_lst, fIsi_tup, List.getElem?_cons_zero, List.getElem?_cons_succ, List.set_cons_zero, List.set_cons_succ, DL.ggName, ggNil0, ggCons1, ggTup2, ggTup3, gFor, giSeq, gLc, gYes, wipeR, true_and, and_true, at_0, at_1, at_2, kit_int_int, kit_bool_int, kit_str_int, kit_non_int, kit_list_int, kit_tuple_int, kit_int_bool, kit_bool_bool, kit_str_bool, kit_non_bool, kit_list_bool, kit_tuple_bool, kit_int_str, kit_bool_str, kit_str_str, kit_non_str, kit_list_str, kit_tuple_str, kit_int_list, kit_bool_list, kit_str_list, kit_non_list, kit_list_list, kit_tuple_list, kit_int_tuple, kit_bool_tuple, kit_str_tuple, kit_non_tuple, kit_list_tuple, kit_tuple_tuple, eqD_i, neD_i, eqD_s, neD_s, eqD_f, neD_f, Nat.zero_add, Nat.reduceAdd, nc0, nc1, nc2, nc3, nc4, nc5, nc6, nc7, nc8, nc9, eq_self, decide_true, decide_false, Int.reduceEq, Int.reduceLT, Int.reduceLE, Int.reduceNeg, Bool.not_true, Bool.not_false, Bool.false_eq_true, if_true, if_false, ↓reduceIte, false_and, and_false, List.all_cons, List.all_nil, List.any_cons, List.any_nil, id_eq, Bool.and_true, Bool.true_and, Bool.or_false, Bool.false_or, Bool.and_false, Bool.false_and, gCut, eqD_b, neD_b, giZip, reduceCtorEq, Bool.true_eq_false, Bool.false_eq_true, gRevL, gSl, goNone, goSome, slD_l, ne_eq, not_false_eq_true, not_true_eq_false, gBM, isTy_l, isTy_s, new_at, new_set, isTy_new, cellK_new, append_new, popAt_new, gFrz_eq, frzK_new, fLen_new, fTuple_new, ixD_new, slA_l, slA_t, slA_new, addTD_t, addCD_l, mulCD_l, isbD_b, isnotbD_b, mSplitC_s, gLstC, gTr, ggSub, lstK_l, lstK_r, addLD_eq]
  cases hp : (ws.map plainB).all id
  · simp only [sem0, List.map_cons, List.map_nil, List.length_cons, List.length_nil, gSeq, gNext, gRet, gRetN, gIfS, gSet, gPar, gAsg, gDrop, gVar, gC, gBin, gUn, gB, gTru, gAnd, gOr, gNot, gAndV, gOrV, gNotV, gIf, gChain, gaNil, gaCons, DL.gTup, gLst, gCB, gCall0, gAug, addD_i, addD_s, addD_l, addD_t, subD_i, mulD_i, mulD_l, fdivD_i, modD_i, powD_i, ltD_i, ltD_s, leD_i, gtD_i, geD_i, isD_n, isnotD_n, isNonD_non, isNonD_bl, isNonD_int, isNonD_str, isNonD_lst, isNonD_tup, negD_i, iaddD_i, truD_non, truD_bl, truD_int, truD_str, truD_lst, truD_tup, someK_some, ixD_l, ixD_t, fAbs_i, fInt_i, fInt_b, fMin2_i, fLen_l, fLen_t, fLen_s, fList_l, fList_t, fTuple_l, fTuple_t, optBK_some, fIsi_non, fIsi_bl, fIsi_int, fIsi_str, fIsi_lst, fIsi_tup, List.getElem?_cons_zero, List.getElem?_cons_succ, List.set_cons_zero, List.set_cons_succ, DL.ggName, ggNil0, ggCons1, ggTup2, ggTup3, gFor, giSeq, gLc, gYes, wipeR, true_and, and_true, at_0, at_1, at_2, kit_int_int, kit_bool_int, kit_str_int, kit_non_int, kit_list_int, kit_tuple_int, kit_int_bool, kit_bool_bool, kit_str_bool, kit_non_bool, kit_list_bool, kit_tuple_bool, kit_int_str, kit_bool_str, kit_str_str, kit_non_str, kit_list_str, kit_tuple_str, kit_int_list, kit_bool_list, kit_str_list, kit_non_list, kit_list_list, kit_tuple_list, kit_int_tuple, kit_bool_tuple, kit_str_tuple, kit_non_tuple, kit_list_tuple, kit_tuple_tuple, eqD_i, neD_i, eqD_s, neD_s, eqD_f, neD_f, Nat.zero_add, Nat.reduceAdd, nc0, nc1, nc2, nc3, nc4, nc5, nc6, nc7, nc8, nc9, eq_self, decide_true, decide_false, Int.reduceEq, Int.reduceLT, Int.reduceLE, Int.reduceNeg, Bool.not_true, Bool.not_false, Bool.false_eq_true, if_true, if_false, ↓reduceIte, false_and, and_false, List.all_cons, List.all_nil, List.any_cons, List.any_nil, id_eq, Bool.and_true, Bool.true_and, Bool.or_false, Bool.false_or, Bool.and_false, Bool.false_and, gCut, eqD_b, neD_b, giZip, reduceCtorEq, Bool.true_eq_false, Bool.false_eq_true, gRevL, gSl, goNone, goSome, slD_l, ne_eq, not_false_eq_true, not_true_eq_false, gBM, isTy_l, isTy_s, new_at, new_set, isTy_new, cellK_new, append_new, popAt_new, gFrz_eq, frzK_new, fLen_new, fTuple_new, ixD_new, slA_l, slA_t, slA_new, addTD_t, addCD_l, mulCD_l, isbD_b, isnotbD_b, mSplitC_s, gLstC, gTr, ggSub, lstK_l, lstK_r, addLD_eq]
    exact hx fun p hp' => by
      have := (hall p hp').1
      rw [hp] at this
      cases this
  simp only [sem0, List.map_cons, List.map_nil, List.length_cons, List.length_nil, gSeq, gNext, gRet, gRetN, gIfS, gSet, gPar, gAsg, gDrop, gVar, gC, gBin, gUn, gB, gTru, gAnd, gOr, gNot, gAndV, gOrV, gNotV, gIf, gChain, gaNil, gaCons, DL.gTup, gLst, gCB, gCall0, gAug, addD_i, addD_s, addD_l, addD_t, subD_i, mulD_i, mulD_l, fdivD_i, modD_i, powD_i, ltD_i, ltD_s, leD_i, gtD_i, geD_i, isD_n, isnotD_n, isNonD_non, isNonD_bl, isNonD_int, isNonD_str, isNonD_lst, isNonD_tup, negD_i, iaddD_i, truD_non, truD_bl, truD_int, truD_str, truD_lst, truD_tup, someK_some, ixD_l, ixD_t, fAbs_i, fInt_i, fInt_b, fMin2_i, fLen_l, fLen_t, fLen_s, fList_l, fList_t, fTuple_l, fTuple_t, optBK_some, fIsi_non, fIsi_bl, fIsi_int, fIsi_str, fIsi_lst, fIsi_tup, List.getElem?_cons_zero, List.getElem?_cons_succ, List.set_cons_zero, List.set_cons_succ, DL.ggName, ggNil0, ggCons1, ggTup2, ggTup3, gFor, giSeq, gLc, gYes, wipeR, true_and, and_true, at_0, at_1, at_2, kit_int_int, kit_bool_int, kit_str_int, kit_non_int, kit_list_int, kit_tuple_int, kit_int_bool, kit_bool_bool, kit_str_bool, kit_non_bool, kit_list_bool, kit_tuple_bool, kit_int_str, kit_bool_str, kit_str_str, kit_non_str, kit_list_str, kit_tuple_str, kit_int_list, kit_bool_list, kit_str_list, kit_non_list, kit_list_list, kit_tuple_list, kit_int_tuple, kit_bool_tuple, kit_str_tuple, kit_non_tuple, kit_list_tuple, kit_tuple_tuple, eqD_i, neD_i, eqD_s, neD_s, eqD_f, neD_f, Nat.zero_add, Nat.reduceAdd, nc0, nc1, nc2, nc3, nc4, nc5, nc6, nc7, nc8, nc9, eq_self, decide_true, decide_false, Int.reduceEq, Int.reduceLT, Int.reduceLE, Int.reduceNeg, Bool.not_true, Bool.not_false, Bool.false_eq_true, if_true, if_false, ↓reduceIte, false_and, and_false, List.all_cons, List.all_nil, List.any_cons, List.any_nil, id_eq, Bool.and_true, Bool.true_and, Bool.or_false, Bool.false_or, Bool.and_false, Bool.false_and, gCut, eqD_b, neD_b, giZip, reduceCtorEq, Bool.true_eq_false, Bool.false_eq_true, gRevL, gSl, goNone, goSome, slD_l, ne_eq, not_false_eq_true, not_true_eq_false, gBM, isTy_l, isTy_s, new_at, new_set, isTy_new, cellK_new, append_new, popAt_new, gFrz_eq, frzK_new, fLen_new, fTuple_new, ixD_new, slA_l, slA_t, slA_new, addTD_t, addCD_l, mulCD_l, isbD_b, isnotbD_b, mSplitC_s, gLstC, gTr, ggSub, lstK_l, lstK_r, addLD_eq]
  have pl := all_plain hp
  match ws, hne, h2, pl, hw with
  | [wa], _, _, pl, hw =>
    obtain ⟨a, rfl, ha⟩ := pl wa (by simp)
    simp only [List.map_cons, List.map_nil, Function.comp, sem0, List.map_cons, List.map_nil, List.length_cons, List.length_nil, gSeq, gNext, gRet, gRetN, gIfS, gSet, gPar, gAsg, gDrop, gVar, gC, gBin, gUn, gB, gTru, gAnd, gOr, gNot, gAndV, gOrV, gNotV, gIf, gChain, gaNil, gaCons, DL.gTup, gLst, gCB, gCall0, gAug, addD_i, addD_s, addD_l, addD_t, subD_i, mulD_i, mulD_l, fdivD_i, modD_i, powD_i, ltD_i, ltD_s, leD_i, gtD_i, geD_i, isD_n, isnotD_n, isNonD_non, isNonD_bl, isNonD_int, isNonD_str, isNonD_lst, isNonD_tup, negD_i, iaddD_i, truD_non, truD_bl, truD_int, truD_str, truD_lst, truD_tup, someK_some, ixD_l, ixD_t, fAbs_i, fInt_i, fInt_b, fMin2_i, fLen_l, fLen_t, fLen_s, fList_l, fList_t, fTuple_l, fTuple_t, optBK_some, fIsi_non, fIsi_bl, fIsi_int, fIsi_str, fIsi_lst, fIsi_tup, List.getElem?_cons_zero, List.getElem?_cons_succ, List.set_cons_zero, List.set_cons_succ, DL.ggName, ggNil0, ggCons1, ggTup2, ggTup3, gFor, giSeq, gLc, gYes, wipeR, true_and, and_true, at_0, at_1, at_2, kit_int_int, kit_bool_int, kit_str_int, kit_non_int, kit_list_int, kit_tuple_int, kit_int_bool, kit_bool_bool, kit_str_bool, kit_non_bool, kit_list_bool, kit_tuple_bool, kit_int_str, kit_bool_str, kit_str_str, kit_non_str, kit_list_str, kit_tuple_str, kit_int_list, kit_bool_list, kit_str_list, kit_non_list, kit_list_list, kit_tuple_list, kit_int_tuple, kit_bool_tuple, kit_str_tuple, kit_non_tuple, kit_list_tuple, kit_tuple_tuple, eqD_i, neD_i, eqD_s, neD_s, eqD_f, neD_f, Nat.zero_add, Nat.reduceAdd, nc0, nc1, nc2, nc3, nc4, nc5, nc6, nc7, nc8, nc9, eq_self, decide_true, decide_false, Int.reduceEq, Int.reduceLT, Int.reduceLE, Int.reduceNeg, Bool.not_true, Bool.not_false, Bool.false_eq_true, if_true, if_false, ↓reduceIte, false_and, and_false, List.all_cons, List.all_nil, List.any_cons, List.any_nil, id_eq, Bool.and_true, Bool.true_and, Bool.or_false, Bool.false_or, Bool.and_false, Bool.false_and, gCut, eqD_b, neD_b, giZip, reduceCtorEq, Bool.true_eq_false, Bool.false_eq_true, gRevL, gSl, goNone, goSome, slD_l, ne_eq, not_false_eq_true, not_true_eq_false, gBM, isTy_l, isTy_s, new_at, new_set, isTy_new, cellK_new, append_new, popAt_new, gFrz_eq, frzK_new, fLen_new, fTuple_new, ixD_new, slA_l, slA_t, slA_new, addTD_t, addCD_l, mulCD_l, isbD_b, isnotbD_b, mSplitC_s, gLstC, gTr, ggSub, lstK_l, lstK_r, addLD_eq]
    rw [show atI [D.str (S (numL a))] (-1) = some (D.str (S (numL a))) from rfl]
    simp only [fIntS, sem0, List.map_cons, List.map_nil, List.length_cons, List.length_nil, gSeq, gNext, gRet, gRetN, gIfS, gSet, gPar, gAsg, gDrop, gVar, gC, gBin, gUn, gB, gTru, gAnd, gOr, gNot, gAndV, gOrV, gNotV, gIf, gChain, gaNil, gaCons, DL.gTup, gLst, gCB, gCall0, gAug, addD_i, addD_s, addD_l, addD_t, subD_i, mulD_i, mulD_l, fdivD_i, modD_i, powD_i, ltD_i, ltD_s, leD_i, gtD_i, geD_i, isD_n, isnotD_n, isNonD_non, isNonD_bl, isNonD_int, isNonD_str, isNonD_lst, isNonD_tup, negD_i, iaddD_i, truD_non, truD_bl, truD_int, truD_str, truD_lst, truD_tup, someK_some, ixD_l, ixD_t, fAbs_i, fInt_i, fInt_b, fMin2_i, fLen_l, fLen_t, fLen_s, fList_l, fList_t, fTuple_l, fTuple_t, optBK_some, fIsi_non, fIsi_bl, fIsi_int, fIsi_str, fIsi_lst, fIsi_tup, List.getElem?_cons_zero, List.getElem?_cons_succ, List.set_cons_zero, List.set_cons_succ, DL.ggName, ggNil0, ggCons1, ggTup2, ggTup3, gFor, giSeq, gLc, gYes, wipeR, true_and, and_true, at_0, at_1, at_2, kit_int_int, kit_bool_int, kit_str_int, kit_non_int, kit_list_int, kit_tuple_int, kit_int_bool, kit_bool_bool, kit_str_bool, kit_non_bool, kit_list_bool, kit_tuple_bool, kit_int_str, kit_bool_str, kit_str_str, kit_non_str, kit_list_str, kit_tuple_str, kit_int_list, kit_bool_list, kit_str_list, kit_non_list, kit_list_list, kit_tuple_list, kit_int_tuple, kit_bool_tuple, kit_str_tuple, kit_non_tuple, kit_list_tuple, kit_tuple_tuple, eqD_i, neD_i, eqD_s, neD_s, eqD_f, neD_f, Nat.zero_add, Nat.reduceAdd, nc0, nc1, nc2, nc3, nc4, nc5, nc6, nc7, nc8, nc9, eq_self, decide_true, decide_false, Int.reduceEq, Int.reduceLT, Int.reduceLE, Int.reduceNeg, Bool.not_true, Bool.not_false, Bool.false_eq_true, if_true, if_false, ↓reduceIte, false_and, and_false, List.all_cons, List.all_nil, List.any_cons, List.any_nil, id_eq, Bool.and_true, Bool.true_and, Bool.or_false, Bool.false_or, Bool.and_false, Bool.false_and, gCut, eqD_b, neD_b, giZip, reduceCtorEq, Bool.true_eq_false, Bool.false_eq_true, gRevL, gSl, goNone, goSome, slD_l, ne_eq, not_false_eq_true, not_true_eq_false, gBM, isTy_l, isTy_s, new_at, new_set, isTy_new, cellK_new, append_new, popAt_new, gFrz_eq, frzK_new, fLen_new, fTuple_new, ixD_new, slA_l, slA_t, slA_new, addTD_t, addCD_l, mulCD_l, isbD_b, isnotbD_b, mSplitC_s, gLstC, gTr, ggSub, lstK_l, lstK_r, addLD_eq]
    refine ite2 (fun _ => ?_) (fun _ => ?_)
    all_goals
      refine ⟨_, int_numL ha, by rw [S_len]; exact sl_of (by omega), mulx_ok (a := 2) (b := 1) (by decide) (by rcases hsr with h | h <;> rw [h] <;> decide) (by decide), mulx_ok (a := 3330) (b := 2) (by rw [Int.natAbs_natCast]; exact big_top (lt_1000 ha)) (by rcases hsr with h | h <;> rw [h] <;> decide) (by decide), by decide, by decide, ?_⟩
      rw [show atI ([D.str (S (numL a))] ++ [D.str ("1" : Str)]) 1 = some (D.str "1") from rfl]
      refine ⟨1, by decide +kernel, by decide +kernel, _, _, rfl, ⟨by decide, b1⟩, ?_⟩
      rw [hsm]
      have hf : FigOk (norm (sgn (sgB l) a) 1) := fig_norm (by decide) (by rw [sgn_abs]; exact lt_1000 ha) (Nat.lt_of_lt_of_le (show (1 : Int).natAbs < 10 ^ 1 by decide) (Nat.pow_le_pow_right (by decide) (by decide)))
      refine ⟨_, rfl, hf, ?_⟩
      rw [decS]
      by_cases hl' : frL (norm (sgn (sgB l) a) 1) = l
      · rw [decide_eq_true hl']
        exact hk _ ⟨hf, hl'.symm⟩
      · rw [decide_eq_false hl']
        refine hx fun p hp => hl' ?_
        have e1 := told_one hp hw
        have e2 : norm (sgn (sgB l) a) 1 = p := by
          have := norm_self hp.1.fr
          rwa [e1] at this ⊢
        rw [e2]
        exact hp.2.symm
  | [wa, wb], _, _, pl, hw =>
    obtain ⟨a, rfl, ha⟩ := pl wa (by simp)
    obtain ⟨b, rfl, hb⟩ := pl wb (by simp)
    simp only [List.map_cons, List.map_nil, Function.comp, sem0, List.map_cons, List.map_nil, List.length_cons, List.length_nil, gSeq, gNext, gRet, gRetN, gIfS, gSet, gPar, gAsg, gDrop, gVar, gC, gBin, gUn, gB, gTru, gAnd, gOr, gNot, gAndV, gOrV, gNotV, gIf, gChain, gaNil, gaCons, DL.gTup, gLst, gCB, gCall0, gAug, addD_i, addD_s, addD_l, addD_t, subD_i, mulD_i, mulD_l, fdivD_i, modD_i, powD_i, ltD_i, ltD_s, leD_i, gtD_i, geD_i, isD_n, isnotD_n, isNonD_non, isNonD_bl, isNonD_int, isNonD_str, isNonD_lst, isNonD_tup, negD_i, iaddD_i, truD_non, truD_bl, truD_int, truD_str, truD_lst, truD_tup, someK_some, ixD_l, ixD_t, fAbs_i, fInt_i, fInt_b, fMin2_i, fLen_l, fLen_t, fLen_s, fList_l, fList_t, fTuple_l, fTuple_t, optBK_some, fIsi_non, fIsi_bl, fIsi_int, fIsi_str, fIsi_lst, fIsi_tup, List.getElem?_cons_zero, List.getElem?_cons_succ, List.set_cons_zero, List.set_cons_succ, DL.ggName, ggNil0, ggCons1, ggTup2, ggTup3, gFor, giSeq, gLc, gYes, wipeR, true_and, and_true, at_0, at_1, at_2, kit_int_int, kit_bool_int, kit_str_int, kit_non_int, kit_list_int, kit_tuple_int, kit_int_bool, kit_bool_bool, kit_str_bool, kit_non_bool, kit_list_bool, kit_tuple_bool, kit_int_str, kit_bool_str, kit_str_str, kit_non_str, kit_list_str, kit_tuple_str, kit_int_list, kit_bool_list, kit_str_list, kit_non_list, kit_list_list, kit_tuple_list, kit_int_tuple, kit_bool_tuple, kit_str_tuple, kit_non_tuple, kit_list_tuple, kit_tuple_tuple, eqD_i, neD_i, eqD_s, neD_s, eqD_f, neD_f, Nat.zero_add, Nat.reduceAdd, nc0, nc1, nc2, nc3, nc4, nc5, nc6, nc7, nc8, nc9, eq_self, decide_true, decide_false, Int.reduceEq, Int.reduceLT, Int.reduceLE, Int.reduceNeg, Bool.not_true, Bool.not_false, Bool.false_eq_true, if_true, if_false, ↓reduceIte, false_and, and_false, List.all_cons, List.all_nil, List.any_cons, List.any_nil, id_eq, Bool.and_true, Bool.true_and, Bool.or_false, Bool.false_or, Bool.and_false, Bool.false_and, gCut, eqD_b, neD_b, giZip, reduceCtorEq, Bool.true_eq_false, Bool.false_eq_true, gRevL, gSl, goNone, goSome, slD_l, ne_eq, not_false_eq_true, not_true_eq_false, gBM, isTy_l, isTy_s, new_at, new_set, isTy_new, cellK_new, append_new, popAt_new, gFrz_eq, frzK_new, fLen_new, fTuple_new, ixD_new, slA_l, slA_t, slA_new, addTD_t, addCD_l, mulCD_l, isbD_b, isnotbD_b, mSplitC_s, gLstC, gTr, ggSub, lstK_l, lstK_r, addLD_eq]
    rw [show atI [D.str (S (numL a)), D.str (S (numL b))] (-1) = some (D.str (S (numL b))) from rfl]
    simp only [fIntS, sem0, List.map_cons, List.map_nil, List.length_cons, List.length_nil, gSeq, gNext, gRet, gRetN, gIfS, gSet, gPar, gAsg, gDrop, gVar, gC, gBin, gUn, gB, gTru, gAnd, gOr, gNot, gAndV, gOrV, gNotV, gIf, gChain, gaNil, gaCons, DL.gTup, gLst, gCB, gCall0, gAug, addD_i, addD_s, addD_l, addD_t, subD_i, mulD_i, mulD_l, fdivD_i, modD_i, powD_i, ltD_i, ltD_s, leD_i, gtD_i, geD_i, isD_n, isnotD_n, isNonD_non, isNonD_bl, isNonD_int, isNonD_str, isNonD_lst, isNonD_tup, negD_i, iaddD_i, truD_non, truD_bl, truD_int, truD_str, truD_lst, truD_tup, someK_some, ixD_l, ixD_t, fAbs_i, fInt_i, fInt_b, fMin2_i, fLen_l, fLen_t, fLen_s, fList_l, fList_t, fTuple_l, fTuple_t, optBK_some, fIsi_non, fIsi_bl, fIsi_int, fIsi_str, fIsi_lst, fIsi_tup, List.getElem?_cons_zero, List.getElem?_cons_succ, List.set_cons_zero, List.set_cons_succ, DL.ggName, ggNil0, ggCons1, ggTup2, ggTup3, gFor, giSeq, gLc, gYes, wipeR, true_and, and_true, at_0, at_1, at_2, kit_int_int, kit_bool_int, kit_str_int, kit_non_int, kit_list_int, kit_tuple_int, kit_int_bool, kit_bool_bool, kit_str_bool, kit_non_bool, kit_list_bool, kit_tuple_bool, kit_int_str, kit_bool_str, kit_str_str, kit_non_str, kit_list_str, kit_tuple_str, kit_int_list, kit_bool_list, kit_str_list, kit_non_list, kit_list_list, kit_tuple_list, kit_int_tuple, kit_bool_tuple, kit_str_tuple, kit_non_tuple, kit_list_tuple, kit_tuple_tuple, eqD_i, neD_i, eqD_s, neD_s, eqD_f, neD_f, Nat.zero_add, Nat.reduceAdd, nc0, nc1, nc2, nc3, nc4, nc5, nc6, nc7, nc8, nc9, eq_self, decide_true, decide_false, Int.reduceEq, Int.reduceLT, Int.reduceLE, Int.reduceNeg, Bool.not_true, Bool.not_false, Bool.false_eq_true, if_true, if_false, ↓reduceIte, false_and, and_false, List.all_cons, List.all_nil, List.any_cons, List.any_nil, id_eq, Bool.and_true, Bool.true_and, Bool.or_false, Bool.false_or, Bool.and_false, Bool.false_and, gCut, eqD_b, neD_b, giZip, reduceCtorEq, Bool.true_eq_false, Bool.false_eq_true, gRevL, gSl, goNone, goSome, slD_l, ne_eq, not_false_eq_true, not_true_eq_false, gBM, isTy_l, isTy_s, new_at, new_set, isTy_new, cellK_new, append_new, popAt_new, gFrz_eq, frzK_new, fLen_new, fTuple_new, ixD_new, slA_l, slA_t, slA_new, addTD_t, addCD_l, mulCD_l, isbD_b, isnotbD_b, mSplitC_s, gLstC, gTr, ggSub, lstK_l, lstK_r, addLD_eq]
    rw [zero_S, decS, numL_eq0]
    by_cases hb0 : b = 0
    · rw [decide_eq_true hb0]
      simp only [sem0, List.map_cons, List.map_nil, List.length_cons, List.length_nil, gSeq, gNext, gRet, gRetN, gIfS, gSet, gPar, gAsg, gDrop, gVar, gC, gBin, gUn, gB, gTru, gAnd, gOr, gNot, gAndV, gOrV, gNotV, gIf, gChain, gaNil, gaCons, DL.gTup, gLst, gCB, gCall0, gAug, addD_i, addD_s, addD_l, addD_t, subD_i, mulD_i, mulD_l, fdivD_i, modD_i, powD_i, ltD_i, ltD_s, leD_i, gtD_i, geD_i, isD_n, isnotD_n, isNonD_non, isNonD_bl, isNonD_int, isNonD_str, isNonD_lst, isNonD_tup, negD_i, iaddD_i, truD_non, truD_bl, truD_int, truD_str, truD_lst, truD_tup, someK_some, ixD_l, ixD_t, fAbs_i, fInt_i, fInt_b, fMin2_i, fLen_l, fLen_t, fLen_s, fList_l, fList_t, fTuple_l, fTuple_t, optBK_some, fIsi_non, fIsi_bl, fIsi_int, fIsi_str, fIsi_lst, fIsi_tup, List.getElem?_cons_zero, List.getElem?_cons_succ, List.set_cons_zero, List.set_cons_succ, DL.ggName, ggNil0, ggCons1, ggTup2, ggTup3, gFor, giSeq, gLc, gYes, wipeR, true_and, and_true, at_0, at_1, at_2, kit_int_int, kit_bool_int, kit_str_int, kit_non_int, kit_list_int, kit_tuple_int, kit_int_bool, kit_bool_bool, kit_str_bool, kit_non_bool, kit_list_bool, kit_tuple_bool, kit_int_str, kit_bool_str, kit_str_str, kit_non_str, kit_list_str, kit_tuple_str, kit_int_list, kit_bool_list, kit_str_list, kit_non_list, kit_list_list, kit_tuple_list, kit_int_tuple, kit_bool_tuple, kit_str_tuple, kit_non_tuple, kit_list_tuple, kit_tuple_tuple, eqD_i, neD_i, eqD_s, neD_s, eqD_f, neD_f, Nat.zero_add, Nat.reduceAdd, nc0, nc1, nc2, nc3, nc4, nc5, nc6, nc7, nc8, nc9, eq_self, decide_true, decide_false, Int.reduceEq, Int.reduceLT, Int.reduceLE, Int.reduceNeg, Bool.not_true, Bool.not_false, Bool.false_eq_true, if_true, if_false, ↓reduceIte, false_and, and_false, List.all_cons, List.all_nil, List.any_cons, List.any_nil, id_eq, Bool.and_true, Bool.true_and, Bool.or_false, Bool.false_or, Bool.and_false, Bool.false_and, gCut, eqD_b, neD_b, giZip, reduceCtorEq, Bool.true_eq_false, Bool.false_eq_true, gRevL, gSl, goNone, goSome, slD_l, ne_eq, not_false_eq_true, not_true_eq_false, gBM, isTy_l, isTy_s, new_at, new_set, isTy_new, cellK_new, append_new, popAt_new, gFrz_eq, frzK_new, fLen_new, fTuple_new, ixD_new, slA_l, slA_t, slA_new, addTD_t, addCD_l, mulCD_l, isbD_b, isnotbD_b, mSplitC_s, gLstC, gTr, ggSub, lstK_l, lstK_r, addLD_eq]
      exact hx fun p hp => by
        have e1 := (told_two hp hw).1
        have := hp.1.fr.pos
        rw [e1, hb0] at this
        exact Int.lt_irrefl _ this
    · rw [decide_eq_false hb0]
      simp only [sem0, List.map_cons, List.map_nil, List.length_cons, List.length_nil, gSeq, gNext, gRet, gRetN, gIfS, gSet, gPar, gAsg, gDrop, gVar, gC, gBin, gUn, gB, gTru, gAnd, gOr, gNot, gAndV, gOrV, gNotV, gIf, gChain, gaNil, gaCons, DL.gTup, gLst, gCB, gCall0, gAug, addD_i, addD_s, addD_l, addD_t, subD_i, mulD_i, mulD_l, fdivD_i, modD_i, powD_i, ltD_i, ltD_s, leD_i, gtD_i, geD_i, isD_n, isnotD_n, isNonD_non, isNonD_bl, isNonD_int, isNonD_str, isNonD_lst, isNonD_tup, negD_i, iaddD_i, truD_non, truD_bl, truD_int, truD_str, truD_lst, truD_tup, someK_some, ixD_l, ixD_t, fAbs_i, fInt_i, fInt_b, fMin2_i, fLen_l, fLen_t, fLen_s, fList_l, fList_t, fTuple_l, fTuple_t, optBK_some, fIsi_non, fIsi_bl, fIsi_int, fIsi_str, fIsi_lst, fIsi_tup, List.getElem?_cons_zero, List.getElem?_cons_succ, List.set_cons_zero, List.set_cons_succ, DL.ggName, ggNil0, ggCons1, ggTup2, ggTup3, gFor, giSeq, gLc, gYes, wipeR, true_and, and_true, at_0, at_1, at_2, kit_int_int, kit_bool_int, kit_str_int, kit_non_int, kit_list_int, kit_tuple_int, kit_int_bool, kit_bool_bool, kit_str_bool, kit_non_bool, kit_list_bool, kit_tuple_bool, kit_int_str, kit_bool_str, kit_str_str, kit_non_str, kit_list_str, kit_tuple_str, kit_int_list, kit_bool_list, kit_str_list, kit_non_list, kit_list_list, kit_tuple_list, kit_int_tuple, kit_bool_tuple, kit_str_tuple, kit_non_tuple, kit_list_tuple, kit_tuple_tuple, eqD_i, neD_i, eqD_s, neD_s, eqD_f, neD_f, Nat.zero_add, Nat.reduceAdd, nc0, nc1, nc2, nc3, nc4, nc5, nc6, nc7, nc8, nc9, eq_self, decide_true, decide_false, Int.reduceEq, Int.reduceLT, Int.reduceLE, Int.reduceNeg, Bool.not_true, Bool.not_false, Bool.false_eq_true, if_true, if_false, ↓reduceIte, false_and, and_false, List.all_cons, List.all_nil, List.any_cons, List.any_nil, id_eq, Bool.and_true, Bool.true_and, Bool.or_false, Bool.false_or, Bool.and_false, Bool.false_and, gCut, eqD_b, neD_b, giZip, reduceCtorEq, Bool.true_eq_false, Bool.false_eq_true, gRevL, gSl, goNone, goSome, slD_l, ne_eq, not_false_eq_true, not_true_eq_false, gBM, isTy_l, isTy_s, new_at, new_set, isTy_new, cellK_new, append_new, popAt_new, gFrz_eq, frzK_new, fLen_new, fTuple_new, ixD_new, slA_l, slA_t, slA_new, addTD_t, addCD_l, mulCD_l, isbD_b, isnotbD_b, mSplitC_s, gLstC, gTr, ggSub, lstK_l, lstK_r, addLD_eq]
      refine ⟨_, int_numL ha, by rw [S_len]; exact sl_of (by omega), mulx_ok (a := 2) (b := 1) (by decide) (by rcases hsr with h | h <;> rw [h] <;> decide) (by decide), mulx_ok (a := 3330) (b := 2) (by rw [Int.natAbs_natCast]; exact big_top (lt_1000 ha)) (by rcases hsr with h | h <;> rw [h] <;> decide) (by decide), by decide, by decide, ?_⟩
      rw [show atI ([D.str (S (numL a)), D.str (S (numL b))] ++ [D.str ("1" : Str)]) 1 = some (D.str (S (numL b))) from rfl]
      refine ⟨_, int_numL hb, by rw [S_len]; exact sl_of (by omega), _, _, rfl, ⟨by omega, big_1000 (lt_1000 hb)⟩, ?_⟩
      rw [hsm]
      have hf : FigOk (norm (sgn (sgB l) a) b) := fig_norm (by omega) (by rw [sgn_abs]; exact lt_1000 ha) (by rw [Int.natAbs_natCast]; exact lt_1000 hb)
      refine ⟨_, rfl, hf, ?_⟩
      rw [decS]
      by_cases hl' : frL (norm (sgn (sgB l) a) b) = l
      · rw [decide_eq_true hl']
        exact hk _ ⟨hf, hl'.symm⟩
      · rw [decide_eq_false hl']
        refine hx fun p hp => hl' ?_
        have e1 := (told_two hp hw).1
        have e2 : norm (sgn (sgB l) a) b = p := by
          have := norm_self hp.1.fr
          rwa [e1] at this ⊢
        rw [e2]
        exact hp.2.symm
  | _ :: _ :: _ :: _, _, h2, _, _ => exact absurd h2 (by simp)
theorem ok_fraction_in {P : Program} {w : World} {K : PySem.W.Frag} {mg : Str → Option Value} {base : Heap} (T : DefAt K mg "fraction_in" s_fraction_in ["text"]) (B : Blt mg) {X : XF} (XX : XFK K mg X) (F_fraction_of : FnAt P w K mg base CX0 2 "fraction_of" 2 sp_fraction_of) (F_fraction_text : FnAt P w K mg base CX0 1 "fraction_text" 1 sp_fraction_text) (F_is_plain : FnAt P w K mg base CX0 1 "is_plain" 1 sp_is_plain) (b_NoDg : NoDg K) : FnAt P w K mg base (L2.CX P w) 3 "fraction_in" 1 (sp_fraction_in X) := (w_fraction_in T B XX F_fraction_of F_fraction_text F_is_plain b_NoDg).imp (v_fraction_in X)


end LW

namespace LW
open PySem PySem.Spec PyProof.Rows L2 RZ DL

open SX (S S_tl S_len S_cat)
open TL (numL)
def sp__law_is_plain : GF := sp_is_plain
abbrev s__law_is_plain : Stmt := topS 25
theorem sc__law_is_plain : FnScope ["_law_word", "_law_sign"] ["_law_word"] (defScope s__law_is_plain) := ⟨rfl, rfl, rfl, by decide +kernel, rfl, by decide +kernel, by decide +kernel⟩
def g__law_is_plain : GS := (gSeq (gIfS (gOr (gNot (gB (gChain ltD ltD (gC (.int 0)) (gCB fLen (gaCons (gVar 0) gaNil)) (gC (.int 1001))))) (gNot (gTru (gCB fAll (gaCons (gLc (giStr (gVar 0)) (ggName 1) gYes (gBin inSD (gVar 1) (gC (.str "0123456789"))) [1]) gaNil))))) (gRet (gC (.bl false))) gNext)
  (gRet (gOrV (gBin eqD (gVar 0) (gC (.str "0"))) (gBin neD (gBin ixD (gVar 0) (gC (.int 0))) (gC (.str "0"))))))
theorem w__law_is_plain {P : Program} {w : World} {K : PySem.W.Frag} {mg : Str → Option Value} {base : Heap} (T : DefAt K mg "_law_is_plain" s__law_is_plain ["_law_word"]) (B : Blt mg) : FnAt P w K mg base CX0 1 "_law_is_plain" 1 (sem0 2 g__law_is_plain) := by
  have nd := sc__law_is_plain.nd
  exact T.fn0 sc__law_is_plain (fun f cdv A outer s H E hr => (dss_cons (ds_if (dt_w (dw_or (dt_not (dt_chain op_ltD ok_ltD op_ltD ok_ltD de_int (de_len B (by rfl) (da_cons (de_var 0) da_nil)) de_int)) (dw_or1 (dt_not (dt_truth (de_all B rfl (by rfl) (da_cons (de_lc (own := [("_law_sign", 1)]) (us := [1]) rfl nd (di_str (de_var 0)) (blkOk_by (N := ["_law_word", "_law_sign"]) (sc := defScope s__law_is_plain) (by decide +kernel)) (by decide) (fun _ _ _ _ _ => (dg_name (i := 1) nd rfl (by first | exact Or.inl rfl | exact Or.inr rfl))) (fun _ _ _ _ _ => dts_nil) (fun _ _ _ _ _ => (de_inS (de_var 1) de_str))) da_nil))))))) (dss_one (ds_ret de_bl)) dss_nil)
  (dss_one (ds_ret (de_or (de_eq hr (de_var 0) de_str) (de_one (de_ne hr (de_ix (de_var 0) de_int) de_str)))))))

theorem v__law_is_plain : ∀ ds w kx k, sp__law_is_plain ds w kx k → sem0 2 g__law_is_plain ds w kx k := by
  rintro ds w kx k ⟨l, rfl, hn, hk⟩
  have e : rho 2 [D.str (S l)] = [some (.str (S l)), none] := rfl
  simp only [g__law_is_plain, e, giStr, inSD, sem0, List.map_cons, List.map_nil, List.length_cons, List.length_nil, gSeq, gNext, gRet, gRetN, gIfS, gSet, gPar, gAsg, gDrop, gVar, gC, gBin, gUn, gB, gTru, gAnd, gOr, gNot, gAndV, gOrV, gNotV, gIf, gChain, gaNil, gaCons, DL.gTup, gLst, gCB, gCall0, gAug, addD_i, addD_s, addD_l, addD_t, subD_i, mulD_i, mulD_l, fdivD_i, modD_i, powD_i, ltD_i, ltD_s, leD_i, gtD_i, geD_i, isD_n, isnotD_n, isNonD_non, isNonD_bl, isNonD_int, isNonD_str, isNonD_lst, isNonD_tup, negD_i, iaddD_i, truD_non, truD_bl, truD_int, truD_str, truD_lst, truD_tup, someK_some, ixD_l, ixD_t, fAbs_i, fInt_i, fInt_b, fMin2_i, fLen_l, fLen_t, fLen_s, fList_l, fList_t, fTuple_l, fTuple_t, optBK_some, fIsi_non, fIsi_bl, fIsi_int, fIsi_str, fIsi_lst, fIsi_tup, List.getElem?_cons_zero, List.getElem?_cons_succ, List.set_cons_zero, List.set_cons_succ, DL.ggName, ggNil0, ggCons1, ggTup2, ggTup3, gFor, giSeq, gLc, gYes, wipeR, true_and, and_true, at_0, at_1, at_2, kit_int_int, kit_bool_int, kit_str_int, kit_non_int, kit_list_int, kit_tuple_int, kit_int_bool, kit_bool_bool, kit_str_bool, kit_non_bool, kit_list_bool, kit_tuple_bool, kit_int_str, kit_bool_str, kit_str_str, kit_non_str, kit_list_str, kit_tuple_str, kit_int_list, kit_bool_list, kit_str_list, kit_non_list, kit_list_list, kit_tuple_list, kit_int_tuple, kit_bool_tuple, kit_str_tuple, kit_non_tuple, kit_list_tuple, kit_tuple_tuple, eqD_i, neD_i, eqD_s, neD_s, eqD_f, neD_f, Nat.zero_add, Nat.reduceAdd, nc0, nc1, nc2, nc3, nc4, nc5, nc6, nc7, nc8, nc9, eq_self, decide_true, decide_false, Int.reduceEq, Int.reduceLT, Int.reduceLE, Int.reduceNeg, Bool.not_true, Bool.not_false, Bool.false_eq_true, if_true, if_false, ↓reduceIte, false_and, and_false, List.all_cons, List.all_nil, List.any_cons, List.any_nil, id_eq, Bool.and_true, Bool.true_and, Bool.or_false, Bool.false_or, Bool.and_false, Bool.false_and, gCut, eqD_b, neD_b, giZip, reduceCtorEq, Bool.true_eq_false, Bool.false_eq_true, gRevL, gSl, goNone, goSome, slD_l, ne_eq, not_false_eq_true, not_true_eq_false, gBM, isTy_l, isTy_s, new_at, new_set, isTy_new, cellK_new, append_new, popAt_new, gFrz_eq, frzK_new, fLen_new, fTuple_new, ixD_new, slA_l, slA_t, slA_new, addTD_t, addCD_l, mulCD_l, isbD_b, isnotbD_b, mSplitC_s, gLstC, gTr, ggSub, lstK_l, lstK_r, addLD_eq]
  refine ⟨by rw [S_len]; exact sl_of hn, ?_⟩
  rw [S_len]
  unfold plainB at hk
  by_cases h0 : 0 < l.length ∧ l.length ≤ 1000
  · rw [decide_eq_true h0, Bool.true_and] at hk
    rw [decide_eq_true (show (0 : Int) < (l.length : Int) by omega), decide_eq_true (show (l.length : Int) < 1001 by omega)]
    simp only [sem0, List.map_cons, List.map_nil, List.length_cons, List.length_nil, gSeq, gNext, gRet, gRetN, gIfS, gSet, gPar, gAsg, gDrop, gVar, gC, gBin, gUn, gB, gTru, gAnd, gOr, gNot, gAndV, gOrV, gNotV, gIf, gChain, gaNil, gaCons, DL.gTup, gLst, gCB, gCall0, gAug, addD_i, addD_s, addD_l, addD_t, subD_i, mulD_i, mulD_l, fdivD_i, modD_i, powD_i, ltD_i, ltD_s, leD_i, gtD_i, geD_i, isD_n, isnotD_n, isNonD_non, isNonD_bl, isNonD_int, isNonD_str, isNonD_lst, isNonD_tup, negD_i, iaddD_i, truD_non, truD_bl, truD_int, truD_str, truD_lst, truD_tup, someK_some, ixD_l, ixD_t, fAbs_i, fInt_i, fInt_b, fMin2_i, fLen_l, fLen_t, fLen_s, fList_l, fList_t, fTuple_l, fTuple_t, optBK_some, fIsi_non, fIsi_bl, fIsi_int, fIsi_str, fIsi_lst, fIsi_tup, List.getElem?_cons_zero, List.getElem?_cons_succ, List.set_cons_zero, List.set_cons_succ, DL.ggName, ggNil0, ggCons1, ggTup2, ggTup3, gFor, giSeq, gLc, gYes, wipeR, true_and, and_true, at_0, at_1, at_2, kit_int_int, kit_bool_int, kit_str_int, kit_non_int, kit_list_int, kit_tuple_int, kit_int_bool, kit_bool_bool, kit_str_bool, kit_non_bool, kit_list_bool, kit_tuple_bool, kit_int_str, kit_bool_str, kit_str_str, kit_non_str, kit_list_str, kit_tuple_str, kit_int_list, kit_bool_list, kit_str_list, kit_non_list, kit_list_list, kit_tuple_list, kit_int_tuple, kit_bool_tuple, kit_str_tuple, kit_non_tuple, kit_list_tuple, kit_tuple_tuple, eqD_i, neD_i, eqD_s, neD_s, eqD_f, neD_f, Nat.zero_add, Nat.reduceAdd, nc0, nc1, nc2, nc3, nc4, nc5, nc6, nc7, nc8, nc9, eq_self, decide_true, decide_false, Int.reduceEq, Int.reduceLT, Int.reduceLE, Int.reduceNeg, Bool.not_true, Bool.not_false, Bool.false_eq_true, if_true, if_false, ↓reduceIte, false_and, and_false, List.all_cons, List.all_nil, List.any_cons, List.any_nil, id_eq, Bool.and_true, Bool.true_and, Bool.or_false, Bool.false_or, Bool.and_false, Bool.false_and, gCut, eqD_b, neD_b, giZip, reduceCtorEq, Bool.true_eq_false, Bool.false_eq_true, gRevL, gSl, goNone, goSome, slD_l, ne_eq, not_false_eq_true, not_true_eq_false, gBM, isTy_l, isTy_s, new_at, new_set, isTy_new, cellK_new, append_new, popAt_new, gFrz_eq, frzK_new, fLen_new, fTuple_new, ixD_new, slA_l, slA_t, slA_new, addTD_t, addCD_l, mulCD_l, isbD_b, isnotbD_b, mSplitC_s, gLstC, gTr, ggSub, lstK_l, lstK_r, addLD_eq]
    refine lc_ty (fun c => D.str ⟨#[c]⟩) (fun c => D.bl (decide (c ∈ ("0123456789" : Str).cps.toList))) l trivial hn (fun c hc k' hk' => ?_) ?_
    · simp only [inSD, sem0, List.map_cons, List.map_nil, List.length_cons, List.length_nil, gSeq, gNext, gRet, gRetN, gIfS, gSet, gPar, gAsg, gDrop, gVar, gC, gBin, gUn, gB, gTru, gAnd, gOr, gNot, gAndV, gOrV, gNotV, gIf, gChain, gaNil, gaCons, DL.gTup, gLst, gCB, gCall0, gAug, addD_i, addD_s, addD_l, addD_t, subD_i, mulD_i, mulD_l, fdivD_i, modD_i, powD_i, ltD_i, ltD_s, leD_i, gtD_i, geD_i, isD_n, isnotD_n, isNonD_non, isNonD_bl, isNonD_int, isNonD_str, isNonD_lst, isNonD_tup, negD_i, iaddD_i, truD_non, truD_bl, truD_int, truD_str, truD_lst, truD_tup, someK_some, ixD_l, ixD_t, fAbs_i, fInt_i, fInt_b, fMin2_i, fLen_l, fLen_t, fLen_s, fList_l, fList_t, fTuple_l, fTuple_t, optBK_some, fIsi_non, fIsi_bl, fIsi_int, fIsi_str, fIsi_lst, fIsi_tup, List.getElem?_cons_zero, List.getElem?_cons_succ, List.set_cons_zero, List.set_cons_succ, DL.ggName, ggNil0, ggCons1, ggTup2, ggTup3, gFor, giSeq, gLc, gYes, wipeR, true_and, and_true, at_0, at_1, at_2, kit_int_int, kit_bool_int, kit_str_int, kit_non_int, kit_list_int, kit_tuple_int, kit_int_bool, kit_bool_bool, kit_str_bool, kit_non_bool, kit_list_bool, kit_tuple_bool, kit_int_str, kit_bool_str, kit_str_str, kit_non_str, kit_list_str, kit_tuple_str, kit_int_list, kit_bool_list, kit_str_list, kit_non_list, kit_list_list, kit_tuple_list, kit_int_tuple, kit_bool_tuple, kit_str_tuple, kit_non_tuple, kit_list_tuple, kit_tuple_tuple, eqD_i, neD_i, eqD_s, neD_s, eqD_f, neD_f, Nat.zero_add, Nat.reduceAdd, nc0, nc1, nc2, nc3, nc4, nc5, nc6, nc7, nc8, nc9, eq_self, decide_true, decide_false, Int.reduceEq, Int.reduceLT, Int.reduceLE, Int.reduceNeg, Bool.not_true, Bool.not_false, Bool.false_eq_true, if_true, if_false, ↓reduceIte, false_and, and_false, List.all_cons, List.all_nil, List.any_cons, List.any_nil, id_eq, Bool.and_true, Bool.true_and, Bool.or_false, Bool.false_or, Bool.and_false, Bool.false_and, gCut, eqD_b, neD_b, giZip, reduceCtorEq, Bool.true_eq_false, Bool.false_eq_true, gRevL, gSl, goNone, goSome, slD_l, ne_eq, not_false_eq_true, not_true_eq_false, gBM, isTy_l, isTy_s, new_at, new_set, isTy_new, cellK_new, append_new, popAt_new, gFrz_eq, frzK_new, fLen_new, fTuple_new, ixD_new, slA_l, slA_t, slA_new, addTD_t, addCD_l, mulCD_l, isbD_b, isnotbD_b, mSplitC_s, gLstC, gTr, ggSub, lstK_l, lstK_r, addLD_eq]
      exact ⟨c, rfl, hk'⟩
    · simp only [fAll, all_map, sem0, List.map_cons, List.map_nil, List.length_cons, List.length_nil, gSeq, gNext, gRet, gRetN, gIfS, gSet, gPar, gAsg, gDrop, gVar, gC, gBin, gUn, gB, gTru, gAnd, gOr, gNot, gAndV, gOrV, gNotV, gIf, gChain, gaNil, gaCons, DL.gTup, gLst, gCB, gCall0, gAug, addD_i, addD_s, addD_l, addD_t, subD_i, mulD_i, mulD_l, fdivD_i, modD_i, powD_i, ltD_i, ltD_s, leD_i, gtD_i, geD_i, isD_n, isnotD_n, isNonD_non, isNonD_bl, isNonD_int, isNonD_str, isNonD_lst, isNonD_tup, negD_i, iaddD_i, truD_non, truD_bl, truD_int, truD_str, truD_lst, truD_tup, someK_some, ixD_l, ixD_t, fAbs_i, fInt_i, fInt_b, fMin2_i, fLen_l, fLen_t, fLen_s, fList_l, fList_t, fTuple_l, fTuple_t, optBK_some, fIsi_non, fIsi_bl, fIsi_int, fIsi_str, fIsi_lst, fIsi_tup, List.getElem?_cons_zero, List.getElem?_cons_succ, List.set_cons_zero, List.set_cons_succ, DL.ggName, ggNil0, ggCons1, ggTup2, ggTup3, gFor, giSeq, gLc, gYes, wipeR, true_and, and_true, at_0, at_1, at_2, kit_int_int, kit_bool_int, kit_str_int, kit_non_int, kit_list_int, kit_tuple_int, kit_int_bool, kit_bool_bool, kit_str_bool, kit_non_bool, kit_list_bool, kit_tuple_bool, kit_int_str, kit_bool_str, kit_str_str, kit_non_str, kit_list_str, kit_tuple_str, kit_int_list, kit_bool_list, kit_str_list, kit_non_list, kit_list_list, kit_tuple_list, kit_int_tuple, kit_bool_tuple, kit_str_tuple, kit_non_tuple, kit_list_tuple, kit_tuple_tuple, eqD_i, neD_i, eqD_s, neD_s, eqD_f, neD_f, Nat.zero_add, Nat.reduceAdd, nc0, nc1, nc2, nc3, nc4, nc5, nc6, nc7, nc8, nc9, eq_self, decide_true, decide_false, Int.reduceEq, Int.reduceLT, Int.reduceLE, Int.reduceNeg, Bool.not_true, Bool.not_false, Bool.false_eq_true, if_true, if_false, ↓reduceIte, false_and, and_false, List.all_cons, List.all_nil, List.any_cons, List.any_nil, id_eq, Bool.and_true, Bool.true_and, Bool.or_false, Bool.false_or, Bool.and_false, Bool.false_and, gCut, eqD_b, neD_b, giZip, reduceCtorEq, Bool.true_eq_false, Bool.false_eq_true, gRevL, gSl, goNone, goSome, slD_l, ne_eq, not_false_eq_true, not_true_eq_false, gBM, isTy_l, isTy_s, new_at, new_set, isTy_new, cellK_new, append_new, popAt_new, gFrz_eq, frzK_new, fLen_new, fTuple_new, ixD_new, slA_l, slA_t, slA_new, addTD_t, addCD_l, mulCD_l, isbD_b, isnotbD_b, mSplitC_s, gLstC, gTr, ggSub, lstK_l, lstK_r, addLD_eq]
      rw [show ((l.map fun c => decide (c ∈ ("0123456789" : Str).cps.toList)).all id) = digB l from rfl]
      cases hd : digB l
      · rw [hd, Bool.false_and] at hk
        simp only [sem0, List.map_cons, List.map_nil, List.length_cons, List.length_nil, gSeq, gNext, gRet, gRetN, gIfS, gSet, gPar, gAsg, gDrop, gVar, gC, gBin, gUn, gB, gTru, gAnd, gOr, gNot, gAndV, gOrV, gNotV, gIf, gChain, gaNil, gaCons, DL.gTup, gLst, gCB, gCall0, gAug, addD_i, addD_s, addD_l, addD_t, subD_i, mulD_i, mulD_l, fdivD_i, modD_i, powD_i, ltD_i, ltD_s, leD_i, gtD_i, geD_i, isD_n, isnotD_n, isNonD_non, isNonD_bl, isNonD_int, isNonD_str, isNonD_lst, isNonD_tup, negD_i, iaddD_i, truD_non, truD_bl, truD_int, truD_str, truD_lst, truD_tup, someK_some, ixD_l, ixD_t, fAbs_i, fInt_i, fInt_b, fMin2_i, fLen_l, fLen_t, fLen_s, fList_l, fList_t, fTuple_l, fTuple_t, optBK_some, fIsi_non, fIsi_bl, fIsi_int, fIsi_str, fIsi_lst, fIsi_tup, List.getElem?_cons_zero, List.getElem?_cons_succ, List.set_cons_zero, List.set_cons_succ, DL.ggName, ggNil0, ggCons1, ggTup2, ggTup3, gFor, giSeq, gLc, gYes, wipeR, true_and, and_true, at_0, at_1, at_2, kit_int_int, kit_bool_int, kit_str_int, kit_non_int, kit_list_int, kit_tuple_int, kit_int_bool, kit_bool_bool, kit_str_bool, kit_non_bool, kit_list_bool, kit_tuple_bool, kit_int_str, kit_bool_str, kit_str_str, kit_non_str, kit_list_str, kit_tuple_str, kit_int_list, kit_bool_list, kit_str_list, kit_non_list, kit_list_list, kit_tuple_list, kit_int_tuple, kit_bool_tuple, kit_str_tuple, kit_non_tuple, kit_list_tuple, kit_tuple_tuple, eqD_i, neD_i, eqD_s, neD_s, eqD_f, neD_f, Nat.zero_add, Nat.reduceAdd, nc0, nc1, nc2, nc3, nc4, nc5, nc6, nc7, nc8, nc9, eq_self, decide_true, decide_false, Int.reduceEq, Int.reduceLT, Int.reduceLE, Int.reduceNeg, Bool.not_true, Bool.not_false, Bool.false_eq_true, if_true, if_false, ↓reduceIte, false_and, and_false, List.all_cons, List.all_nil, List.any_cons, List.any_nil, id_eq, Bool.and_true, Bool.true_and, Bool.or_false, Bool.false_or, Bool.and_false, Bool.false_and, gCut, eqD_b, neD_b, giZip, reduceCtorEq, Bool.true_eq_false, Bool.false_eq_true, gRevL, gSl, goNone, goSome, slD_l, ne_eq, not_false_eq_true, not_true_eq_false, gBM, isTy_l, isTy_s, new_at, new_set, isTy_new, cellK_new, append_new, popAt_new, gFrz_eq, frzK_new, fLen_new, fTuple_new, ixD_new, slA_l, slA_t, slA_new, addTD_t, addCD_l, mulCD_l, isbD_b, isnotbD_b, mSplitC_s, gLstC, gTr, ggSub, lstK_l, lstK_r, addLD_eq]
        exact hk
      · rw [hd, Bool.true_and] at hk
        simp only [sem0, List.map_cons, List.map_nil, List.length_cons, List.length_nil, gSeq, gNext, gRet, gRetN, gIfS, gSet, gPar, gAsg, gDrop, gVar, gC, gBin, gUn, gB, gTru, gAnd, gOr, gNot, gAndV, gOrV, gNotV, gIf, gChain, gaNil, gaCons, DL.gTup, gLst, gCB, gCall0, gAug, addD_i, addD_s, addD_l, addD_t, subD_i, mulD_i, mulD_l, fdivD_i, modD_i, powD_i, ltD_i, ltD_s, leD_i, gtD_i, geD_i, isD_n, isnotD_n, isNonD_non, isNonD_bl, isNonD_int, isNonD_str, isNonD_lst, isNonD_tup, negD_i, iaddD_i, truD_non, truD_bl, truD_int, truD_str, truD_lst, truD_tup, someK_some, ixD_l, ixD_t, fAbs_i, fInt_i, fInt_b, fMin2_i, fLen_l, fLen_t, fLen_s, fList_l, fList_t, fTuple_l, fTuple_t, optBK_some, fIsi_non, fIsi_bl, fIsi_int, fIsi_str, fIsi_lst, fIsi_tup, List.getElem?_cons_zero, List.getElem?_cons_succ, List.set_cons_zero, List.set_cons_succ, DL.ggName, ggNil0, ggCons1, ggTup2, ggTup3, gFor, giSeq, gLc, gYes, wipeR, true_and, and_true, at_0, at_1, at_2, kit_int_int, kit_bool_int, kit_str_int, kit_non_int, kit_list_int, kit_tuple_int, kit_int_bool, kit_bool_bool, kit_str_bool, kit_non_bool, kit_list_bool, kit_tuple_bool, kit_int_str, kit_bool_str, kit_str_str, kit_non_str, kit_list_str, kit_tuple_str, kit_int_list, kit_bool_list, kit_str_list, kit_non_list, kit_list_list, kit_tuple_list, kit_int_tuple, kit_bool_tuple, kit_str_tuple, kit_non_tuple, kit_list_tuple, kit_tuple_tuple, eqD_i, neD_i, eqD_s, neD_s, eqD_f, neD_f, Nat.zero_add, Nat.reduceAdd, nc0, nc1, nc2, nc3, nc4, nc5, nc6, nc7, nc8, nc9, eq_self, decide_true, decide_false, Int.reduceEq, Int.reduceLT, Int.reduceLE, Int.reduceNeg, Bool.not_true, Bool.not_false, Bool.false_eq_true, if_true, if_false, ↓reduceIte, false_and, and_false, List.all_cons, List.all_nil, List.any_cons, List.any_nil, id_eq, Bool.and_true, Bool.true_and, Bool.or_false, Bool.false_or, Bool.and_false, Bool.false_and, gCut, eqD_b, neD_b, giZip, reduceCtorEq, Bool.true_eq_false, Bool.false_eq_true, gRevL, gSl, goNone, goSome, slD_l, ne_eq, not_false_eq_true, not_true_eq_false, gBM, isTy_l, isTy_s, new_at, new_set, isTy_new, cellK_new, append_new, popAt_new, gFrz_eq, frzK_new, fLen_new, fTuple_new, ixD_new, slA_l, slA_t, slA_new, addTD_t, addCD_l, mulCD_l, isbD_b, isnotbD_b, mSplitC_s, gLstC, gTr, ggSub, lstK_l, lstK_r, addLD_eq]
        rw [zero_S, decS]
        by_cases hz : l = [48]
        · rw [decide_eq_true hz] at hk ⊢
          exact hk
        · rw [decide_eq_false hz] at hk ⊢
          obtain ⟨c, r, rfl⟩ := List.exists_cons_of_ne_nil (show l ≠ [] from fun z => by rw [z] at h0; exact absurd h0.1 (by decide))
          show ixD (D.str (S (c :: r))) (D.int 0) w _
          refine ⟨by rw [S_len]; exact sl_of hn, ?_⟩
          rw [show (S (c :: r)).cps.toList = c :: r from rfl]
          simp only [at_0]
          rw [neD_s, show (⟨#[c]⟩ : Str) = S [c] from rfl, decS]
          rw [Bool.false_or] at hk
          have : (!decide ([c] = [48])) = decide ((c :: r).head? ≠ some 48) := by
            by_cases hc : c = 48
            · subst hc
              rfl
            · rw [decide_eq_false (show ¬ [c] = [48] from fun z => hc (by simpa using z)), decide_eq_true (show (c :: r).head? ≠ some 48 from fun z => hc (by simpa using z))]
              rfl
          rw [this]
          exact hk
  · rw [decide_eq_false h0, Bool.false_and] at hk
    by_cases h1 : 0 < l.length
    · rw [decide_eq_true (show (0 : Int) < (l.length : Int) by omega), decide_eq_false (show ¬ (l.length : Int) < 1001 by omega)]
      simp only [sem0, List.map_cons, List.map_nil, List.length_cons, List.length_nil, gSeq, gNext, gRet, gRetN, gIfS, gSet, gPar, gAsg, gDrop, gVar, gC, gBin, gUn, gB, gTru, gAnd, gOr, gNot, gAndV, gOrV, gNotV, gIf, gChain, gaNil, gaCons, DL.gTup, gLst, gCB, gCall0, gAug, addD_i, addD_s, addD_l, addD_t, subD_i, mulD_i, mulD_l, fdivD_i, modD_i, powD_i, ltD_i, ltD_s, leD_i, gtD_i, geD_i, isD_n, isnotD_n, isNonD_non, isNonD_bl, isNonD_int, isNonD_str, isNonD_lst, isNonD_tup, negD_i, iaddD_i, truD_non, truD_bl, truD_int, truD_str, truD_lst, truD_tup, someK_some, ixD_l, ixD_t, fAbs_i, fInt_i, fInt_b, fMin2_i, fLen_l, fLen_t, fLen_s, fList_l, fList_t, fTuple_l, fTuple_t, optBK_some, fIsi_non, fIsi_bl, fIsi_int, fIsi_str, fIsi_lst, fIsi_tup, List.getElem?_cons_zero, List.getElem?_cons_succ, List.set_cons_zero, List.set_cons_succ, DL.ggName, ggNil0, ggCons1, ggTup2, ggTup3, gFor, giSeq, gLc, gYes, wipeR, true_and, and_true, at_0, at_1, at_2, kit_int_int, kit_bool_int, kit_str_int, kit_non_int, kit_list_int, kit_tuple_int, kit_int_bool, kit_bool_bool, kit_str_bool, kit_non_bool, kit_list_bool, kit_tuple_bool, kit_int_str, kit_bool_str, kit_str_str, kit_non_str, kit_list_str, kit_tuple_str, kit_int_list, kit_bool_list, kit_str_list, kit_non_list, kit_list_list, kit_tuple_list, kit_int_tuple, kit_bool_tuple, kit_str_tuple, kit_non_tuple, kit_list_tuple, kit_tuple_tuple, eqD_i, neD_i, eqD_s, neD_s, eqD_f, neD_f, Nat.zero_add, Nat.reduceAdd, nc0, nc1, nc2, nc3, nc4, nc5, nc6, nc7, nc8, nc9, eq_self, decide_true, decide_false, Int.reduceEq, Int.reduceLT, Int.reduceLE, Int.reduceNeg, Bool.not_true, Bool.not_false, Bool.false_eq_true, if_true, if_false, ↓reduceIte, false_and, and_false, List.all_cons, List.all_nil, List.any_cons, List.any_nil, id_eq, Bool.and_true, Bool.true_and, Bool.or_false, Bool.false_or, Bool.and_false, Bool.false_and, gCut, eqD_b, neD_b, giZip, reduceCtorEq, Bool.true_eq_false, Bool.false_eq_true, gRevL, gSl, goNone, goSome, slD_l, ne_eq, not_false_eq_true, not_true_eq_false, gBM, isTy_l, isTy_s, new_at, new_set, isTy_new, cellK_new, append_new, popAt_new, gFrz_eq, frzK_new, fLen_new, fTuple_new, ixD_new, slA_l, slA_t, slA_new, addTD_t, addCD_l, mulCD_l, isbD_b, isnotbD_b, mSplitC_s, gLstC, gTr, ggSub, lstK_l, lstK_r, addLD_eq]
      exact hk
    · rw [decide_eq_false (show ¬ (0 : Int) < (l.length : Int) by omega)]
      simp only [sem0, List.map_cons, List.map_nil, List.length_cons, List.length_nil, gSeq, gNext, gRet, gRetN, gIfS, gSet, gPar, gAsg, gDrop, gVar, gC, gBin, gUn, gB, gTru, gAnd, gOr, gNot, gAndV, gOrV, gNotV, gIf, gChain, gaNil, gaCons, DL.gTup, gLst, gCB, gCall0, gAug, addD_i, addD_s, addD_l, addD_t, subD_i, mulD_i, mulD_l, fdivD_i, modD_i, powD_i, ltD_i, ltD_s, leD_i, gtD_i, geD_i, isD_n, isnotD_n, isNonD_non, isNonD_bl, isNonD_int, isNonD_str, isNonD_lst, isNonD_tup, negD_i, iaddD_i, truD_non, truD_bl, truD_int, truD_str, truD_lst, truD_tup, someK_some, ixD_l, ixD_t, fAbs_i, fInt_i, fInt_b, fMin2_i, fLen_l, fLen_t, fLen_s, fList_l, fList_t, fTuple_l, fTuple_t, optBK_some, fIsi_non, fIsi_bl, fIsi_int, fIsi_str, fIsi_lst, fIsi_tup, List.getElem?_cons_zero, List.getElem?_cons_succ, List.set_cons_zero, List.set_cons_succ, DL.ggName, ggNil0, ggCons1, ggTup2, ggTup3, gFor, giSeq, gLc, gYes, wipeR, true_and, and_true, at_0, at_1, at_2, kit_int_int, kit_bool_int, kit_str_int, kit_non_int, kit_list_int, kit_tuple_int, kit_int_bool, kit_bool_bool, kit_str_bool, kit_non_bool, kit_list_bool, kit_tuple_bool, kit_int_str, kit_bool_str, kit_str_str, kit_non_str, kit_list_str, kit_tuple_str, kit_int_list, kit_bool_list, kit_str_list, kit_non_list, kit_list_list, kit_tuple_list, kit_int_tuple, kit_bool_tuple, kit_str_tuple, kit_non_tuple, kit_list_tuple, kit_tuple_tuple, eqD_i, neD_i, eqD_s, neD_s, eqD_f, neD_f, Nat.zero_add, Nat.reduceAdd, nc0, nc1, nc2, nc3, nc4, nc5, nc6, nc7, nc8, nc9, eq_self, decide_true, decide_false, Int.reduceEq, Int.reduceLT, Int.reduceLE, Int.reduceNeg, Bool.not_true, Bool.not_false, Bool.false_eq_true, if_true, if_false, ↓reduceIte, false_and, and_false, List.all_cons, List.all_nil, List.any_cons, List.any_nil, id_eq, Bool.and_true, Bool.true_and, Bool.or_false, Bool.false_or, Bool.and_false, Bool.false_and, gCut, eqD_b, neD_b, giZip, reduceCtorEq, Bool.true_eq_false, Bool.false_eq_true, gRevL, gSl, goNone, goSome, slD_l, ne_eq, not_false_eq_true, not_true_eq_false, gBM, isTy_l, isTy_s, new_at, new_set, isTy_new, cellK_new, append_new, popAt_new, gFrz_eq, frzK_new, fLen_new, fTuple_new, ixD_new, slA_l, slA_t, slA_new, addTD_t, addCD_l, mulCD_l, isbD_b, isnotbD_b, mSplitC_s, gLstC, gTr, ggSub, lstK_l, lstK_r, addLD_eq]
      exact hk
theorem ok__law_is_plain {P : Program} {w : World} {K : PySem.W.Frag} {mg : Str → Option Value} {base : Heap} (T : DefAt K mg "_law_is_plain" s__law_is_plain ["_law_word"]) (B : Blt mg) : FnAt P w K mg base CX0 1 "_law_is_plain" 1 sp__law_is_plain := (w__law_is_plain T B ).imp v__law_is_plain

/-- the words of the text itself -/
theorem Spl_own {l h : List Nat} {t : List (List Nat)} (e : Spl (unsg l) = h :: t) : Spl l = (if sgB l = true then 45 :: h else h) :: t ∧ (sgB l = false → decide (h.take 1 = [45]) = false) := by
  have b := sg_back l
  cases hs : sgB l with
  | true =>
    rw [hs, if_pos rfl] at b
    refine ⟨?_, fun z => nomatch z⟩
    rw [b, if_pos rfl]
    exact Spl_miss (by decide) e
  | false =>
    rw [hs, if_neg (by decide)] at b
    rw [if_neg (by decide)]
    refine ⟨by rw [b]; exact e, fun _ => decide_eq_false fun z => ?_⟩
    have := Spl_head (l := l) (h := h) (t := t) (by rw [b]; exact e) z
    unfold sgB at hs
    exact absurd this (of_decide_eq_false hs)
theorem int_sgn {b : Bool} {a : Nat} (h : (numL a).length ≤ 1000) : PySem.intText? (S (if b = true then 45 :: numL a else numL a)) = some (sgn b a) := by
  unfold sgn
  cases b
  · rw [if_neg (by decide), if_neg (by decide)]
    exact int_numL h
  · rw [if_pos rfl, if_pos rfl]
    exact int_neg h
theorem cut_one {α : Type} {x : α} {xs : List α} : DL.cutD (x :: xs) (some 1) none = xs := by
  unfold DL.cutD HT.sIx
  simp
theorem numL_one : numL 1 = [49] := TL.numL_lt (by decide)
theorem numL_eq1 {n : Nat} : decide (numL n = [49]) = decide (n = 1) := by
  by_cases h : n = 1
  · subst h
    rw [decide_eq_true numL_one, decide_eq_true rfl]
  · rw [decide_eq_false h, decide_eq_false]
    exact fun z => h (TL.numL_inj (z.trans numL_one.symm))
theorem one1000 : (1 : Int).natAbs < 10 ^ 1000 := Nat.lt_of_lt_of_le (show (1 : Int).natAbs < 10 ^ 1 by decide) (Nat.pow_le_pow_right (by decide) (by decide))
theorem txt_sgn {b : Bool} {a : Nat} (h : ¬ (a = 0 ∧ b = true)) : txt (sgn b a) = if b = true then 45 :: numL a else numL a := by
  unfold txt
  rw [sgn_abs]
  unfold sgn
  cases b
  · rw [if_neg (show ¬ (if false = true then -(a : Int) else (a : Int)) < 0 by rw [if_neg (by decide)]; omega), if_neg (by decide)]
  · rw [if_pos rfl, if_pos rfl, if_pos (by have : a ≠ 0 := fun z => h ⟨z, rfl⟩; omega)]
theorem frL_one {b : Bool} {a : Nat} (h : ¬ (a = 0 ∧ b = true)) : frL (sgn b a, 1) = if b = true then 45 :: numL a else numL a := by
  unfold frL
  rw [if_pos rfl]
  exact txt_sgn h
theorem frL_two {b : Bool} {a c : Nat} (h : ¬ (a = 0 ∧ b = true)) (h0 : c ≠ 0) (h1 : c ≠ 1) : frL (sgn b a, (c : Int)) = (if b = true then 45 :: numL a else numL a) ++ 47 :: numL c := by
  unfold frL
  rw [if_neg (show ¬ ((c : Int) = 1) by omega), txt_sgn h]
  refine congrArg (fun z => (if b = true then 45 :: numL a else numL a) ++ 47 :: z) ?_
  unfold txt
  rw [if_neg (by show ¬ ((c : Int) < 0); omega)]
  exact congrArg numL (Int.natAbs_natCast c)
theorem Spl_one_own {l w0 h : List Nat} {b : Bool} (hw : Spl l = [if b = true then 45 :: h else h]) (_ : (if b = true then 45 :: h else h) = w0) : l = if b = true then 45 :: h else h := Spl_one hw
theorem Spl_two_own {l w0 h c : List Nat} {b : Bool} (hw : Spl l = [if b = true then 45 :: h else h, c]) (_ : (if b = true then 45 :: h else h) = w0) : l = (if b = true then 45 :: h else h) ++ 47 :: c := Spl_two hw
def sp__law_read : GF := fun ds w _ k => ∃ l : List Nat, ds = [.str (S l)] ∧ l.length ≤ 100000 ∧ (∀ p, Told l p → k (fD p) w) ∧ ((∀ p, ¬ Told l p) → k .non w)
abbrev s__law_read : Stmt := topS 26
theorem sc__law_read : FnScope ["_law_text", "_law_words", "_law_below", "_law_head", "_law_found"] ["_law_text"] (defScope s__law_read) := ⟨rfl, rfl, rfl, by decide +kernel, rfl, by decide +kernel, by decide +kernel⟩
def g__law_read : GS := (gSeq (gSet 1 (gBM "str" mSplit (gVar 0) (gaCons (gC (.str "/")) gaNil)))
  (gCut (gSet 2 (gIf (gB (gBin eqD (gCB fLen (gaCons (gVar 1) gaNil)) (gC (.int 1)))) (gLst (gaCons (gC (.str "1")) gaNil)) (gSl slA (gVar 1) (goSome (gC (.int 1))) goNone)))
  (gCut (gSet 3 (gIf (gB (gBin eqD (gSl slS (gBin ixD (gVar 1) (gC (.int 0))) goNone (goSome (gC (.int 1)))) (gC (.str "-")))) (gSl slS (gBin ixD (gVar 1) (gC (.int 0))) (goSome (gC (.int 1))) goNone) (gBin ixD (gVar 1) (gC (.int 0)))))
  (gSeq (gIfS (gOr (gB (gBin gtD (gCB fLen (gaCons (gVar 1) gaNil)) (gC (.int 2)))) (gOr (gNot (gTru (gCall0 1 sp__law_is_plain (gaCons (gVar 3) gaNil)))) (gOr (gNot (gTru (gCall0 1 sp__law_is_plain (gaCons (gBin ixD (gVar 2) (gC (.int 0))) gaNil)))) (gAnd (gB (gBin eqD (gVar 3) (gC (.str "0")))) (gB (gBin neD (gBin ixD (gVar 1) (gC (.int 0))) (gC (.str "0")))))))) (gRet (gC .non)) gNext)
  (gSeq (gIfS (gOr (gB (gBin eqD (gBin ixD (gVar 2) (gC (.int 0))) (gC (.str "0")))) (gAnd (gB (gBin eqD (gCB fLen (gaCons (gVar 1) gaNil)) (gC (.int 2)))) (gB (gBin eqD (gBin ixD (gVar 2) (gC (.int 0))) (gC (.str "1")))))) (gRet (gC .non)) gNext)
  (gSeq (gSet 4 (gTup (gaCons (gCB fIntS (gaCons (gBin ixD (gVar 1) (gC (.int 0))) gaNil)) (gaCons (gCB fIntS (gaCons (gBin ixD (gVar 2) (gC (.int 0))) gaNil)) gaNil))))
  (gRet (gIf (gB (gBin eqD (gCall0 2 sp__law_lowest (gaCons (gBin ixD (gVar 4) (gC (.int 0))) (gaCons (gBin ixD (gVar 4) (gC (.int 1))) gaNil))) (gVar 4))) (gVar 4) (gC .non)))))))))
theorem w__law_read {P : Program} {w : World} {K : PySem.W.Frag} {mg : Str → Option Value} {base : Heap} (T : DefAt K mg "_law_read" s__law_read ["_law_text"]) (B : Blt mg) (F__law_is_plain : FnAt P w K mg base CX0 1 "_law_is_plain" 1 sp__law_is_plain) (F__law_lowest : FnAt P w K mg base CX0 1 "_law_lowest" 2 sp__law_lowest) (b_NoDg : NoDg K) : FnAt P w K mg base CX0 2 "_law_read" 1 (sem0 5 g__law_read) := by
  have nd := sc__law_read.nd
  exact T.fn0 sc__law_read (fun f cdv A outer s H E hr => (dss_cons (ds_set (i := 1) nd rfl (by first | exact Or.inl rfl | exact Or.inr rfl) (de_bm PySem.F.plainAttrs_str PySem.F.slot_str_split (by rfl) mt_split ok_split (de_var 0) (da_cons de_str da_nil) (by rfl) (by rfl) (by rfl) (by rfl) (by rfl)))
  (dss_cut (ds_set (i := 2) nd rfl (by first | exact Or.inl rfl | exact Or.inr rfl) (de_ifExp (dt_eq hr (de_len B (by rfl) (da_cons (de_var 1) da_nil)) de_int) (de_lst (da_cons de_str da_nil)) (de_slA (de_var 1) (do_some de_int) do_none)))
  (dss_cut (ds_set (i := 3) nd rfl (by first | exact Or.inl rfl | exact Or.inr rfl) (de_ifExp (dt_eq hr (de_slS (de_ix (de_var 1) de_int) do_none (do_some de_int)) de_str) (de_slS (de_ix (de_var 1) de_int) (do_some de_int) do_none) (de_ix (de_var 1) de_int)))
  (dss_cons (ds_if (dt_w (dw_or (dt_gt (de_len B (by rfl) (da_cons (de_var 1) da_nil)) de_int) (dw_or (dt_not (dt_truth (de_call0 F__law_is_plain hr (by rfl) (da_cons (de_var 3) da_nil)))) (dw_or (dt_not (dt_truth (de_call0 F__law_is_plain hr (by rfl) (da_cons (de_ix (de_var 2) de_int) da_nil)))) (dw_or1 (dt_w (dw_and (dt_eq hr (de_var 3) de_str) (dw_and1 (dt_ne hr (de_ix (de_var 1) de_int) de_str))))))))) (dss_one (ds_ret de_non)) dss_nil)
  (dss_cons (ds_if (dt_w (dw_or (dt_eq hr (de_ix (de_var 2) de_int) de_str) (dw_or1 (dt_w (dw_and (dt_eq hr (de_len B (by rfl) (da_cons (de_var 1) da_nil)) de_int) (dw_and1 (dt_eq hr (de_ix (de_var 2) de_int) de_str))))))) (dss_one (ds_ret de_non)) dss_nil)
  (dss_cons (ds_set (i := 4) nd rfl (by first | exact Or.inl rfl | exact Or.inr rfl) (de_tup (da_cons (de_intS B b_NoDg (by rfl) (da_cons (de_ix (de_var 1) de_int) da_nil)) (da_cons (de_intS B b_NoDg (by rfl) (da_cons (de_ix (de_var 2) de_int) da_nil)) da_nil))))
  (dss_one (ds_ret (de_ifExp (dt_eq hr (de_call0 F__law_lowest hr (by rfl) (da_cons (de_ix (de_var 4) de_int) (da_cons (de_ix (de_var 4) de_int) da_nil))) (de_var 4)) (de_var 4) de_non))))))))))

theorem v__law_read : ∀ ds w kx k, sp__law_read ds w kx k → sem0 5 g__law_read ds w kx k := by
  rintro ds w kx k ⟨l, rfl, hl, hk, hx⟩
  have e : rho 5 [D.str (S l)] = [some (.str (S l)), none, none, none, none] := rfl
  simp only [g__law_read, e, slS, sp__law_is_plain, sp_is_plain, sp__law_lowest, sem0, List.map_cons, List.map_nil, List.length_cons, List.length_nil, gSeq, gNext, gRet, gRetN, gIfS, gSet, gPar, gAsg, gDrop, gVar, gC, gBin, gUn, gB, gTru, gAnd, gOr, gNot, gAndV, gOrV, gNotV, gIf, gChain, gaNil, gaCons, DL.gTup, gLst, gCB, gCall0, gAug, addD_i, addD_s, addD_l, addD_t, subD_i, mulD_i, mulD_l, fdivD_i, modD_i, powD_i, ltD_i, ltD_s, leD_i, gtD_i, geD_i, isD_n, isnotD_n, isNonD_non, isNonD_bl, isNonD_int, isNonD_str, isNonD_lst, isNonD_tup, negD_i, iaddD_i, truD_non, truD_bl, truD_int, truD_str, truD_lst, truD_tup, someK_some, ixD_l, ixD_t, fAbs_i, fInt_i, fInt_b, fMin2_i, fLen_l, fLen_t, fLen_s, fList_l, fList_t, fTuple_l, fTuple_t, optBK_some, fIsi_non, fIsi_bl, fIsi_int, fIsi_str, fIsi_lst, fIsi_tup, List.getElem?_cons_zero, List.getElem?_cons_succ, List.set_cons_zero, List.set_cons_succ, DL.ggName, ggNil0, ggCons1, ggTup2, ggTup3, gFor, giSeq, gLc, gYes, wipeR, true_and, and_true, at_0, at_1, at_2, kit_int_int, kit_bool_int, kit_str_int, kit_non_int, kit_list_int, kit_tuple_int, kit_int_bool, kit_bool_bool, kit_str_bool, kit_non_bool, kit_list_bool, kit_tuple_bool, kit_int_str, kit_bool_str, kit_str_str, kit_non_str, kit_list_str, kit_tuple_str, kit_int_list, kit_bool_list, kit_str_list, kit_non_list, kit_list_list, kit_tuple_list, kit_int_tuple, kit_bool_tuple, kit_str_tuple, kit_non_tuple, kit_list_tuple, kit_tuple_tuple, eqD_i, neD_i, eqD_s, neD_s, eqD_f, neD_f, Nat.zero_add, Nat.reduceAdd, nc0, nc1, nc2, nc3, nc4, nc5, nc6, nc7, nc8, nc9, eq_self, decide_true, decide_false, Int.reduceEq, Int.reduceLT, Int.reduceLE, Int.reduceNeg, Bool.not_true, Bool.not_false, Bool.false_eq_true, if_true, if_false, ↓reduceIte, false_and, and_false, List.all_cons, List.all_nil, List.any_cons, List.any_nil, id_eq, Bool.and_true, Bool.true_and, Bool.or_false, Bool.false_or, Bool.and_false, Bool.false_and, gCut, eqD_b, neD_b, giZip, reduceCtorEq, Bool.true_eq_false, Bool.false_eq_true, gRevL, gSl, goNone, goSome, slD_l, ne_eq, not_false_eq_true, not_true_eq_false, gBM, isTy_l, isTy_s, new_at, new_set, isTy_new, cellK_new, append_new, popAt_new, gFrz_eq, frzK_new, fLen_new, fTuple_new, ixD_new, slA_l, slA_t, slA_new, addTD_t, addCD_l, mulCD_l, isbD_b, isnotbD_b, mSplitC_s, gLstC, gTr, ggSub, lstK_l, lstK_r, addLD_eq]
  show (("/" : Str).length == 0) = false ∧ (S l).length + 2 ≤ sizeLine ∧ _
  refine ⟨by decide +kernel, by rw [S_len]; exact Nat.le_trans (show _ ≤ 100002 by omega) (by decide), ?_⟩
  rw [split_Spl]
  obtain ⟨h, t, hu⟩ := Spl_ne (unsg l)
  obtain ⟨hw, hnm⟩ := Spl_own hu
  have hlen := Spl_len l
  have hlenu := Spl_len (unsg l)
  obtain ⟨w0, hw0⟩ : ∃ w0, (if sgB l = true then 45 :: h else h) = w0 := ⟨_, rfl⟩
  have htk : decide (w0.take 1 = [45]) = sgB l := by
    rw [← hw0]
    cases hs : sgB l with
    | true => rw [if_pos rfl]; exact decide_eq_true rfl
    | false => rw [if_neg (by decide)]; exact hnm hs
  have hdr : sgB l = true → w0.drop 1 = h := fun hs => by
    rw [← hw0, if_pos hs]
    rfl
  have hnd : sgB l = false → w0 = h := fun hs => by
    rw [← hw0, if_neg (by rw [hs]; decide)]
  rw [hw, hw0]
  rw [hw, hw0] at hlen
  rw [hu] at hlenu
  have hall : ∀ p, Told l p → ((h :: t).map plainB).all id = true ∧ (h :: t).length ≤ 2 := fun p hp => by
    rw [← hu]
    exact told_all hp
  refine ⟨fun ρ w' => w' = w ∧ ρ = [some (.str (S l)), some (.lst (((w0 :: t).map S).map D.str)), some (.lst ((if t = [] then [[49]] else t).map fun x => .str (S x))), none, none], ?_, ?_⟩
  · simp only [sem0, List.map_cons, List.map_nil, List.length_cons, List.length_nil, gSeq, gNext, gRet, gRetN, gIfS, gSet, gPar, gAsg, gDrop, gVar, gC, gBin, gUn, gB, gTru, gAnd, gOr, gNot, gAndV, gOrV, gNotV, gIf, gChain, gaNil, gaCons, DL.gTup, gLst, gCB, gCall0, gAug, addD_i, addD_s, addD_l, addD_t, subD_i, mulD_i, mulD_l, fdivD_i, modD_i, powD_i, ltD_i, ltD_s, leD_i, gtD_i, geD_i, isD_n, isnotD_n, isNonD_non, isNonD_bl, isNonD_int, isNonD_str, isNonD_lst, isNonD_tup, negD_i, iaddD_i, truD_non, truD_bl, truD_int, truD_str, truD_lst, truD_tup, someK_some, ixD_l, ixD_t, fAbs_i, fInt_i, fInt_b, fMin2_i, fLen_l, fLen_t, fLen_s, fList_l, fList_t, fTuple_l, fTuple_t, optBK_some, fIsi_non, fIsi_bl, fIsi_int, fIsi_str, fIsi_lst, fIsi_tup, List.getElem?_cons_zero, List.getElem?_cons_succ, List.set_cons_zero, List.set_cons_succ, DL.ggName, ggNil0, ggCons1, ggTup2, ggTup3, gFor, giSeq, gLc, gYes, wipeR, true_and, and_true, at_0, at_1, at_2, kit_int_int, kit_bool_int, kit_str_int, kit_non_int, kit_list_int, kit_tuple_int, kit_int_bool, kit_bool_bool, kit_str_bool, kit_non_bool, kit_list_bool, kit_tuple_bool, kit_int_str, kit_bool_str, kit_str_str, kit_non_str, kit_list_str, kit_tuple_str, kit_int_list, kit_bool_list, kit_str_list, kit_non_list, kit_list_list, kit_tuple_list, kit_int_tuple, kit_bool_tuple, kit_str_tuple, kit_non_tuple, kit_list_tuple, kit_tuple_tuple, eqD_i, neD_i, eqD_s, neD_s, eqD_f, neD_f, Nat.zero_add, Nat.reduceAdd, nc0, nc1, nc2, nc3, nc4, nc5, nc6, nc7, nc8, nc9, eq_self, decide_true, decide_false, Int.reduceEq, Int.reduceLT, Int.reduceLE, Int.reduceNeg, Bool.not_true, Bool.not_false, Bool.false_eq_true, if_true, if_false, ↓reduceIte, false_and, and_false, List.all_cons, List.all_nil, List.any_cons, List.any_nil, id_eq, Bool.and_true, Bool.true_and, Bool.or_false, Bool.false_or, Bool.and_false, Bool.false_and, gCut, eqD_b, neD_b, giZip, reduceCtorEq, Bool.true_eq_false, Bool.false_eq_true, gRevL, gSl, goNone, goSome, slD_l, ne_eq, not_false_eq_true, not_true_eq_false, gBM, isTy_l, isTy_s, new_at, new_set, isTy_new, cellK_new, append_new, popAt_new, gFrz_eq, frzK_new, fLen_new, fTuple_new, ixD_new, slA_l, slA_t, slA_new, addTD_t, addCD_l, mulCD_l, isbD_b, isnotbD_b, mSplitC_s, gLstC, gTr, ggSub, lstK_l, lstK_r, addLD_eq]
    cases t with
    | nil =>
      rw [decide_eq_true (by simp), if_pos rfl]
      refine ⟨by decide, ?_⟩
      rw [one_S]
      rfl
    | cons x t =>
      rw [decide_eq_false (by simp; omega), if_neg (by decide)]
      rw [cut_one]
      exact congrArg (fun z => [_, _, some (D.lst z), none, none]) (List.map_map ..)
  rintro _ w ⟨rfl, rfl⟩
  refine ⟨fun ρ w' => w' = w ∧ ρ = [some (.str (S l)), some (.lst (((w0 :: t).map S).map D.str)), some (.lst ((if t = [] then [[49]] else t).map fun x => .str (S x))), some (.str (S h)), none], ?_, ?_⟩
  · simp only [sem0, List.map_cons, List.map_nil, List.length_cons, List.length_nil, gSeq, gNext, gRet, gRetN, gIfS, gSet, gPar, gAsg, gDrop, gVar, gC, gBin, gUn, gB, gTru, gAnd, gOr, gNot, gAndV, gOrV, gNotV, gIf, gChain, gaNil, gaCons, DL.gTup, gLst, gCB, gCall0, gAug, addD_i, addD_s, addD_l, addD_t, subD_i, mulD_i, mulD_l, fdivD_i, modD_i, powD_i, ltD_i, ltD_s, leD_i, gtD_i, geD_i, isD_n, isnotD_n, isNonD_non, isNonD_bl, isNonD_int, isNonD_str, isNonD_lst, isNonD_tup, negD_i, iaddD_i, truD_non, truD_bl, truD_int, truD_str, truD_lst, truD_tup, someK_some, ixD_l, ixD_t, fAbs_i, fInt_i, fInt_b, fMin2_i, fLen_l, fLen_t, fLen_s, fList_l, fList_t, fTuple_l, fTuple_t, optBK_some, fIsi_non, fIsi_bl, fIsi_int, fIsi_str, fIsi_lst, fIsi_tup, List.getElem?_cons_zero, List.getElem?_cons_succ, List.set_cons_zero, List.set_cons_succ, DL.ggName, ggNil0, ggCons1, ggTup2, ggTup3, gFor, giSeq, gLc, gYes, wipeR, true_and, and_true, at_0, at_1, at_2, kit_int_int, kit_bool_int, kit_str_int, kit_non_int, kit_list_int, kit_tuple_int, kit_int_bool, kit_bool_bool, kit_str_bool, kit_non_bool, kit_list_bool, kit_tuple_bool, kit_int_str, kit_bool_str, kit_str_str, kit_non_str, kit_list_str, kit_tuple_str, kit_int_list, kit_bool_list, kit_str_list, kit_non_list, kit_list_list, kit_tuple_list, kit_int_tuple, kit_bool_tuple, kit_str_tuple, kit_non_tuple, kit_list_tuple, kit_tuple_tuple, eqD_i, neD_i, eqD_s, neD_s, eqD_f, neD_f, Nat.zero_add, Nat.reduceAdd, nc0, nc1, nc2, nc3, nc4, nc5, nc6, nc7, nc8, nc9, eq_self, decide_true, decide_false, Int.reduceEq, Int.reduceLT, Int.reduceLE, Int.reduceNeg, Bool.not_true, Bool.not_false, Bool.false_eq_true, if_true, if_false, ↓reduceIte, false_and, and_false, List.all_cons, List.all_nil, List.any_cons, List.any_nil, id_eq, Bool.and_true, Bool.true_and, Bool.or_false, Bool.false_or, Bool.and_false, Bool.false_and, gCut, eqD_b, neD_b, giZip, reduceCtorEq, Bool.true_eq_false, Bool.false_eq_true, gRevL, gSl, goNone, goSome, slD_l, ne_eq, not_false_eq_true, not_true_eq_false, gBM, isTy_l, isTy_s, new_at, new_set, isTy_new, cellK_new, append_new, popAt_new, gFrz_eq, frzK_new, fLen_new, fTuple_new, ixD_new, slA_l, slA_t, slA_new, addTD_t, addCD_l, mulCD_l, isbD_b, isnotbD_b, mSplitC_s, gLstC, gTr, ggSub, lstK_l, lstK_r, addLD_eq]
    refine ⟨by rw [S_len]; exact sl_of (Nat.le_trans (hlen.2 w0 List.mem_cons_self) hl), ?_⟩
    rw [cut_take, minus_S, decS, htk]
    cases hs : sgB l with
    | true =>
      simp only [sem0, List.map_cons, List.map_nil, List.length_cons, List.length_nil, gSeq, gNext, gRet, gRetN, gIfS, gSet, gPar, gAsg, gDrop, gVar, gC, gBin, gUn, gB, gTru, gAnd, gOr, gNot, gAndV, gOrV, gNotV, gIf, gChain, gaNil, gaCons, DL.gTup, gLst, gCB, gCall0, gAug, addD_i, addD_s, addD_l, addD_t, subD_i, mulD_i, mulD_l, fdivD_i, modD_i, powD_i, ltD_i, ltD_s, leD_i, gtD_i, geD_i, isD_n, isnotD_n, isNonD_non, isNonD_bl, isNonD_int, isNonD_str, isNonD_lst, isNonD_tup, negD_i, iaddD_i, truD_non, truD_bl, truD_int, truD_str, truD_lst, truD_tup, someK_some, ixD_l, ixD_t, fAbs_i, fInt_i, fInt_b, fMin2_i, fLen_l, fLen_t, fLen_s, fList_l, fList_t, fTuple_l, fTuple_t, optBK_some, fIsi_non, fIsi_bl, fIsi_int, fIsi_str, fIsi_lst, fIsi_tup, List.getElem?_cons_zero, List.getElem?_cons_succ, List.set_cons_zero, List.set_cons_succ, DL.ggName, ggNil0, ggCons1, ggTup2, ggTup3, gFor, giSeq, gLc, gYes, wipeR, true_and, and_true, at_0, at_1, at_2, kit_int_int, kit_bool_int, kit_str_int, kit_non_int, kit_list_int, kit_tuple_int, kit_int_bool, kit_bool_bool, kit_str_bool, kit_non_bool, kit_list_bool, kit_tuple_bool, kit_int_str, kit_bool_str, kit_str_str, kit_non_str, kit_list_str, kit_tuple_str, kit_int_list, kit_bool_list, kit_str_list, kit_non_list, kit_list_list, kit_tuple_list, kit_int_tuple, kit_bool_tuple, kit_str_tuple, kit_non_tuple, kit_list_tuple, kit_tuple_tuple, eqD_i, neD_i, eqD_s, neD_s, eqD_f, neD_f, Nat.zero_add, Nat.reduceAdd, nc0, nc1, nc2, nc3, nc4, nc5, nc6, nc7, nc8, nc9, eq_self, decide_true, decide_false, Int.reduceEq, Int.reduceLT, Int.reduceLE, Int.reduceNeg, Bool.not_true, Bool.not_false, Bool.false_eq_true, if_true, if_false, ↓reduceIte, false_and, and_false, List.all_cons, List.all_nil, List.any_cons, List.any_nil, id_eq, Bool.and_true, Bool.true_and, Bool.or_false, Bool.false_or, Bool.and_false, Bool.false_and, gCut, eqD_b, neD_b, giZip, reduceCtorEq, Bool.true_eq_false, Bool.false_eq_true, gRevL, gSl, goNone, goSome, slD_l, ne_eq, not_false_eq_true, not_true_eq_false, gBM, isTy_l, isTy_s, new_at, new_set, isTy_new, cellK_new, append_new, popAt_new, gFrz_eq, frzK_new, fLen_new, fTuple_new, ixD_new, slA_l, slA_t, slA_new, addTD_t, addCD_l, mulCD_l, isbD_b, isnotbD_b, mSplitC_s, gLstC, gTr, ggSub, lstK_l, lstK_r, addLD_eq]
      rw [cut_tail, hdr hs]
      exact ⟨by rw [S_len]; exact sl_of (Nat.le_trans (hlen.2 w0 List.mem_cons_self) hl), rfl⟩
    | false =>
      simp only [sem0, List.map_cons, List.map_nil, List.length_cons, List.length_nil, gSeq, gNext, gRet, gRetN, gIfS, gSet, gPar, gAsg, gDrop, gVar, gC, gBin, gUn, gB, gTru, gAnd, gOr, gNot, gAndV, gOrV, gNotV, gIf, gChain, gaNil, gaCons, DL.gTup, gLst, gCB, gCall0, gAug, addD_i, addD_s, addD_l, addD_t, subD_i, mulD_i, mulD_l, fdivD_i, modD_i, powD_i, ltD_i, ltD_s, leD_i, gtD_i, geD_i, isD_n, isnotD_n, isNonD_non, isNonD_bl, isNonD_int, isNonD_str, isNonD_lst, isNonD_tup, negD_i, iaddD_i, truD_non, truD_bl, truD_int, truD_str, truD_lst, truD_tup, someK_some, ixD_l, ixD_t, fAbs_i, fInt_i, fInt_b, fMin2_i, fLen_l, fLen_t, fLen_s, fList_l, fList_t, fTuple_l, fTuple_t, optBK_some, fIsi_non, fIsi_bl, fIsi_int, fIsi_str, fIsi_lst, fIsi_tup, List.getElem?_cons_zero, List.getElem?_cons_succ, List.set_cons_zero, List.set_cons_succ, DL.ggName, ggNil0, ggCons1, ggTup2, ggTup3, gFor, giSeq, gLc, gYes, wipeR, true_and, and_true, at_0, at_1, at_2, kit_int_int, kit_bool_int, kit_str_int, kit_non_int, kit_list_int, kit_tuple_int, kit_int_bool, kit_bool_bool, kit_str_bool, kit_non_bool, kit_list_bool, kit_tuple_bool, kit_int_str, kit_bool_str, kit_str_str, kit_non_str, kit_list_str, kit_tuple_str, kit_int_list, kit_bool_list, kit_str_list, kit_non_list, kit_list_list, kit_tuple_list, kit_int_tuple, kit_bool_tuple, kit_str_tuple, kit_non_tuple, kit_list_tuple, kit_tuple_tuple, eqD_i, neD_i, eqD_s, neD_s, eqD_f, neD_f, Nat.zero_add, Nat.reduceAdd, nc0, nc1, nc2, nc3, nc4, nc5, nc6, nc7, nc8, nc9, eq_self, decide_true, decide_false, Int.reduceEq, Int.reduceLT, Int.reduceLE, Int.reduceNeg, Bool.not_true, Bool.not_false, Bool.false_eq_true, if_true, if_false, ↓reduceIte, false_and, and_false, List.all_cons, List.all_nil, List.any_cons, List.any_nil, id_eq, Bool.and_true, Bool.true_and, Bool.or_false, Bool.false_or, Bool.and_false, Bool.false_and, gCut, eqD_b, neD_b, giZip, reduceCtorEq, Bool.true_eq_false, Bool.false_eq_true, gRevL, gSl, goNone, goSome, slD_l, ne_eq, not_false_eq_true, not_true_eq_false, gBM, isTy_l, isTy_s, new_at, new_set, isTy_new, cellK_new, append_new, popAt_new, gFrz_eq, frzK_new, fLen_new, fTuple_new, ixD_new, slA_l, slA_t, slA_new, addTD_t, addCD_l, mulCD_l, isbD_b, isnotbD_b, mSplitC_s, gLstC, gTr, ggSub, lstK_l, lstK_r, addLD_eq]
      rw [hnd hs]
  rintro _ w ⟨rfl, rfl⟩
  simp only [sem0, List.map_cons, List.map_nil, List.length_cons, List.length_nil, gSeq, gNext, gRet, gRetN, gIfS, gSet, gPar, gAsg, gDrop, gVar, gC, gBin, gUn, gB, gTru, gAnd, gOr, gNot, gAndV, gOrV, gNotV, gIf, gChain, gaNil, gaCons, DL.gTup, gLst, gCB, gCall0, gAug, addD_i, addD_s, addD_l, addD_t, subD_i, mulD_i, mulD_l, fdivD_i, modD_i, powD_i, ltD_i, ltD_s, leD_i, gtD_i, geD_i, isD_n, isnotD_n, isNonD_non, isNonD_bl, isNonD_int, isNonD_str, isNonD_lst, isNonD_tup, negD_i, iaddD_i, truD_non, truD_bl, truD_int, truD_str, truD_lst, truD_tup, someK_some, ixD_l, ixD_t, fAbs_i, fInt_i, fInt_b, fMin2_i, fLen_l, fLen_t, fLen_s, fList_l, fList_t, fTuple_l, fTuple_t, optBK_some, fIsi_non, fIsi_bl, fIsi_int, fIsi_str, fIsi_lst, fIsi_tup, List.getElem?_cons_zero, List.getElem?_cons_succ, List.set_cons_zero, List.set_cons_succ, DL.ggName, ggNil0, ggCons1, ggTup2, ggTup3, gFor, giSeq, gLc, gYes, wipeR, true_and, and_true, at_0, at_1, at_2, kit_int_int, kit_bool_int, kit_str_int, kit_non_int, kit_list_int, kit_tuple_int, kit_int_bool, kit_bool_bool, kit_str_bool, kit_non_bool, kit_list_bool, kit_tuple_bool, kit_int_str, kit_bool_str, kit_str_str, kit_non_str, kit_list_str, kit_tuple_str, kit_int_list, kit_bool_list, kit_str_list, kit_non_list, kit_list_list, kit_tuple_list, kit_int_tuple, kit_bool_tuple, kit_str_tuple, kit_non_tuple, kit_list_tuple, kit_tuple_tuple, eqD_i, neD_i, eqD_s, neD_s, eqD_f, neD_f, Nat.zero_add, Nat.reduceAdd, nc0, nc1, nc2, nc3, nc4, nc5, nc6, nc7, nc8, nc9, eq_self, decide_true, decide_false, Int.reduceEq, Int.reduceLT, Int.reduceLE, Int.reduceNeg, Bool.not_true, Bool.not_false, Bool.false_eq_true, if_true, if_false, ↓reduceIte, false_and, and_false, List.all_cons, List.all_nil, List.any_cons, List.any_nil, id_eq, Bool.and_true, Bool.true_and, Bool.or_false, Bool.false_or, Bool.and_false, Bool.false_and, gCut, eqD_b, neD_b, giZip, reduceCtorEq, Bool.true_eq_false, Bool.false_eq_true, gRevL, gSl, goNone, goSome, slD_l, ne_eq, not_false_eq_true, not_true_eq_false, gBM, isTy_l, isTy_s, new_at, new_set, isTy_new, cellK_new, append_new, popAt_new, gFrz_eq, frzK_new, fLen_new, fTuple_new, ixD_new, slA_l, slA_t, slA_new, addTD_t, addCD_l, mulCD_l, isbD_b, isnotbD_b, mSplitC_s, gLstC, gTr, ggSub, lstK_l, lstK_r, addLD_eq]
  have lm : (List.map D.str (List.map S t)).length = t.length := by rw [List.length_map, List.length_map]
  rw [lm]
  by_cases h2' : 2 < t.length + 1
  · rw [decide_eq_true (show (2 : Int) < ((t.length + 1 : Nat) : Int) by omega)]
    exact hx fun p hp => absurd (hall p hp).2 (by rw [List.length_cons]; omega)
  rw [decide_eq_false (show ¬ (2 : Int) < ((t.length + 1 : Nat) : Int) by omega)]
  simp only [sem0, List.map_cons, List.map_nil, List.length_cons, List.length_nil, gSeq, gNext, gRet, gRetN, gIfS, gSet, gPar, gAsg, gDrop, gVar, gC, gBin, gUn, gB, gTru, gAnd, gOr, gNot, gAndV, gOrV, gNotV, gIf, gChain, gaNil, gaCons, DL.gTup, gLst, gCB, gCall0, gAug, addD_i, addD_s, addD_l, addD_t, subD_i, mulD_i, mulD_l, fdivD_i, modD_i, powD_i, ltD_i, ltD_s, leD_i, gtD_i, geD_i, isD_n, isnotD_n, isNonD_non, isNonD_bl, isNonD_int, isNonD_str, isNonD_lst, isNonD_tup, negD_i, iaddD_i, truD_non, truD_bl, truD_int, truD_str, truD_lst, truD_tup, someK_some, ixD_l, ixD_t, fAbs_i, fInt_i, fInt_b, fMin2_i, fLen_l, fLen_t, fLen_s, fList_l, fList_t, fTuple_l, fTuple_t, optBK_some, fIsi_non, fIsi_bl, fIsi_int, fIsi_str, fIsi_lst, fIsi_tup, List.getElem?_cons_zero, List.getElem?_cons_succ, List.set_cons_zero, List.set_cons_succ, DL.ggName, ggNil0, ggCons1, ggTup2, ggTup3, gFor, giSeq, gLc, gYes, wipeR, true_and, and_true, at_0, at_1, at_2, kit_int_int, kit_bool_int, kit_str_int, kit_non_int, kit_list_int, kit_tuple_int, kit_int_bool, kit_bool_bool, kit_str_bool, kit_non_bool, kit_list_bool, kit_tuple_bool, kit_int_str, kit_bool_str, kit_str_str, kit_non_str, kit_list_str, kit_tuple_str, kit_int_list, kit_bool_list, kit_str_list, kit_non_list, kit_list_list, kit_tuple_list, kit_int_tuple, kit_bool_tuple, kit_str_tuple, kit_non_tuple, kit_list_tuple, kit_tuple_tuple, eqD_i, neD_i, eqD_s, neD_s, eqD_f, neD_f, Nat.zero_add, Nat.reduceAdd, nc0, nc1, nc2, nc3, nc4, nc5, nc6, nc7, nc8, nc9, eq_self, decide_true, decide_false, Int.reduceEq, Int.reduceLT, Int.reduceLE, Int.reduceNeg, Bool.not_true, Bool.not_false, Bool.false_eq_true, if_true, if_false, ↓reduceIte, false_and, and_false, List.all_cons, List.all_nil, List.any_cons, List.any_nil, id_eq, Bool.and_true, Bool.true_and, Bool.or_false, Bool.false_or, Bool.and_false, Bool.false_and, gCut, eqD_b, neD_b, giZip, reduceCtorEq, Bool.true_eq_false, Bool.false_eq_true, gRevL, gSl, goNone, goSome, slD_l, ne_eq, not_false_eq_true, not_true_eq_false, gBM, isTy_l, isTy_s, new_at, new_set, isTy_new, cellK_new, append_new, popAt_new, gFrz_eq, frzK_new, fLen_new, fTuple_new, ixD_new, slA_l, slA_t, slA_new, addTD_t, addCD_l, mulCD_l, isbD_b, isnotbD_b, mSplitC_s, gLstC, gTr, ggSub, lstK_l, lstK_r, addLD_eq]
  refine ⟨h, rfl, Nat.le_trans (hlenu.2 h List.mem_cons_self) (by unfold unsg; split; rw [List.length_drop]; omega; exact hl), ?_⟩
  cases hph : plainB h with
  | false =>
    exact hx fun p hp => by
      have := (hall p hp).1
      rw [List.map_cons, hph] at this
      cases this
  | true =>
  simp only [sem0, List.map_cons, List.map_nil, List.length_cons, List.length_nil, gSeq, gNext, gRet, gRetN, gIfS, gSet, gPar, gAsg, gDrop, gVar, gC, gBin, gUn, gB, gTru, gAnd, gOr, gNot, gAndV, gOrV, gNotV, gIf, gChain, gaNil, gaCons, DL.gTup, gLst, gCB, gCall0, gAug, addD_i, addD_s, addD_l, addD_t, subD_i, mulD_i, mulD_l, fdivD_i, modD_i, powD_i, ltD_i, ltD_s, leD_i, gtD_i, geD_i, isD_n, isnotD_n, isNonD_non, isNonD_bl, isNonD_int, isNonD_str, isNonD_lst, isNonD_tup, negD_i, iaddD_i, truD_non, truD_bl, truD_int, truD_str, truD_lst, truD_tup, someK_some, ixD_l, ixD_t, fAbs_i, fInt_i, fInt_b, fMin2_i, fLen_l, fLen_t, fLen_s, fList_l, fList_t, fTuple_l, fTuple_t, optBK_some, fIsi_non, fIsi_bl, fIsi_int, fIsi_str, fIsi_lst, fIsi_tup, List.getElem?_cons_zero, List.getElem?_cons_succ, List.set_cons_zero, List.set_cons_succ, DL.ggName, ggNil0, ggCons1, ggTup2, ggTup3, gFor, giSeq, gLc, gYes, wipeR, true_and, and_true, at_0, at_1, at_2, kit_int_int, kit_bool_int, kit_str_int, kit_non_int, kit_list_int, kit_tuple_int, kit_int_bool, kit_bool_bool, kit_str_bool, kit_non_bool, kit_list_bool, kit_tuple_bool, kit_int_str, kit_bool_str, kit_str_str, kit_non_str, kit_list_str, kit_tuple_str, kit_int_list, kit_bool_list, kit_str_list, kit_non_list, kit_list_list, kit_tuple_list, kit_int_tuple, kit_bool_tuple, kit_str_tuple, kit_non_tuple, kit_list_tuple, kit_tuple_tuple, eqD_i, neD_i, eqD_s, neD_s, eqD_f, neD_f, Nat.zero_add, Nat.reduceAdd, nc0, nc1, nc2, nc3, nc4, nc5, nc6, nc7, nc8, nc9, eq_self, decide_true, decide_false, Int.reduceEq, Int.reduceLT, Int.reduceLE, Int.reduceNeg, Bool.not_true, Bool.not_false, Bool.false_eq_true, if_true, if_false, ↓reduceIte, false_and, and_false, List.all_cons, List.all_nil, List.any_cons, List.any_nil, id_eq, Bool.and_true, Bool.true_and, Bool.or_false, Bool.false_or, Bool.and_false, Bool.false_and, gCut, eqD_b, neD_b, giZip, reduceCtorEq, Bool.true_eq_false, Bool.false_eq_true, gRevL, gSl, goNone, goSome, slD_l, ne_eq, not_false_eq_true, not_true_eq_false, gBM, isTy_l, isTy_s, new_at, new_set, isTy_new, cellK_new, append_new, popAt_new, gFrz_eq, frzK_new, fLen_new, fTuple_new, ixD_new, slA_l, slA_t, slA_new, addTD_t, addCD_l, mulCD_l, isbD_b, isnotbD_b, mSplitC_s, gLstC, gTr, ggSub, lstK_l, lstK_r, addLD_eq]
  obtain ⟨a, rfl, ha⟩ := plainB_num hph
  have ttop : (sgn (sgB l) a).natAbs < 10 ^ 1000 := by
    rw [sgn_abs]
    exact lt_1000 ha
  have tbig : Big (sgn (sgB l) a) := Nat.lt_trans (big_top ttop) (Nat.pow_lt_pow_right (by decide) (by decide))
  match t, h2', hu, hw, hlen, hall with
  | [], _, hu, hw, hlen, hall =>
    rw [if_pos rfl]
    simp only [List.map_cons, List.map_nil, sem0, List.map_cons, List.map_nil, List.length_cons, List.length_nil, gSeq, gNext, gRet, gRetN, gIfS, gSet, gPar, gAsg, gDrop, gVar, gC, gBin, gUn, gB, gTru, gAnd, gOr, gNot, gAndV, gOrV, gNotV, gIf, gChain, gaNil, gaCons, DL.gTup, gLst, gCB, gCall0, gAug, addD_i, addD_s, addD_l, addD_t, subD_i, mulD_i, mulD_l, fdivD_i, modD_i, powD_i, ltD_i, ltD_s, leD_i, gtD_i, geD_i, isD_n, isnotD_n, isNonD_non, isNonD_bl, isNonD_int, isNonD_str, isNonD_lst, isNonD_tup, negD_i, iaddD_i, truD_non, truD_bl, truD_int, truD_str, truD_lst, truD_tup, someK_some, ixD_l, ixD_t, fAbs_i, fInt_i, fInt_b, fMin2_i, fLen_l, fLen_t, fLen_s, fList_l, fList_t, fTuple_l, fTuple_t, optBK_some, fIsi_non, fIsi_bl, fIsi_int, fIsi_str, fIsi_lst, fIsi_tup, List.getElem?_cons_zero, List.getElem?_cons_succ, List.set_cons_zero, List.set_cons_succ, DL.ggName, ggNil0, ggCons1, ggTup2, ggTup3, gFor, giSeq, gLc, gYes, wipeR, true_and, and_true, at_0, at_1, at_2, kit_int_int, kit_bool_int, kit_str_int, kit_non_int, kit_list_int, kit_tuple_int, kit_int_bool, kit_bool_bool, kit_str_bool, kit_non_bool, kit_list_bool, kit_tuple_bool, kit_int_str, kit_bool_str, kit_str_str, kit_non_str, kit_list_str, kit_tuple_str, kit_int_list, kit_bool_list, kit_str_list, kit_non_list, kit_list_list, kit_tuple_list, kit_int_tuple, kit_bool_tuple, kit_str_tuple, kit_non_tuple, kit_list_tuple, kit_tuple_tuple, eqD_i, neD_i, eqD_s, neD_s, eqD_f, neD_f, Nat.zero_add, Nat.reduceAdd, nc0, nc1, nc2, nc3, nc4, nc5, nc6, nc7, nc8, nc9, eq_self, decide_true, decide_false, Int.reduceEq, Int.reduceLT, Int.reduceLE, Int.reduceNeg, Bool.not_true, Bool.not_false, Bool.false_eq_true, if_true, if_false, ↓reduceIte, false_and, and_false, List.all_cons, List.all_nil, List.any_cons, List.any_nil, id_eq, Bool.and_true, Bool.true_and, Bool.or_false, Bool.false_or, Bool.and_false, Bool.false_and, gCut, eqD_b, neD_b, giZip, reduceCtorEq, Bool.true_eq_false, Bool.false_eq_true, gRevL, gSl, goNone, goSome, slD_l, ne_eq, not_false_eq_true, not_true_eq_false, gBM, isTy_l, isTy_s, new_at, new_set, isTy_new, cellK_new, append_new, popAt_new, gFrz_eq, frzK_new, fLen_new, fTuple_new, ixD_new, slA_l, slA_t, slA_new, addTD_t, addCD_l, mulCD_l, isbD_b, isnotbD_b, mSplitC_s, gLstC, gTr, ggSub, lstK_l, lstK_r, addLD_eq]
    refine ⟨[49], rfl, by decide, ?_⟩
    rw [show plainB [49] = true by decide +kernel]
    simp only [sem0, List.map_cons, List.map_nil, List.length_cons, List.length_nil, gSeq, gNext, gRet, gRetN, gIfS, gSet, gPar, gAsg, gDrop, gVar, gC, gBin, gUn, gB, gTru, gAnd, gOr, gNot, gAndV, gOrV, gNotV, gIf, gChain, gaNil, gaCons, DL.gTup, gLst, gCB, gCall0, gAug, addD_i, addD_s, addD_l, addD_t, subD_i, mulD_i, mulD_l, fdivD_i, modD_i, powD_i, ltD_i, ltD_s, leD_i, gtD_i, geD_i, isD_n, isnotD_n, isNonD_non, isNonD_bl, isNonD_int, isNonD_str, isNonD_lst, isNonD_tup, negD_i, iaddD_i, truD_non, truD_bl, truD_int, truD_str, truD_lst, truD_tup, someK_some, ixD_l, ixD_t, fAbs_i, fInt_i, fInt_b, fMin2_i, fLen_l, fLen_t, fLen_s, fList_l, fList_t, fTuple_l, fTuple_t, optBK_some, fIsi_non, fIsi_bl, fIsi_int, fIsi_str, fIsi_lst, fIsi_tup, List.getElem?_cons_zero, List.getElem?_cons_succ, List.set_cons_zero, List.set_cons_succ, DL.ggName, ggNil0, ggCons1, ggTup2, ggTup3, gFor, giSeq, gLc, gYes, wipeR, true_and, and_true, at_0, at_1, at_2, kit_int_int, kit_bool_int, kit_str_int, kit_non_int, kit_list_int, kit_tuple_int, kit_int_bool, kit_bool_bool, kit_str_bool, kit_non_bool, kit_list_bool, kit_tuple_bool, kit_int_str, kit_bool_str, kit_str_str, kit_non_str, kit_list_str, kit_tuple_str, kit_int_list, kit_bool_list, kit_str_list, kit_non_list, kit_list_list, kit_tuple_list, kit_int_tuple, kit_bool_tuple, kit_str_tuple, kit_non_tuple, kit_list_tuple, kit_tuple_tuple, eqD_i, neD_i, eqD_s, neD_s, eqD_f, neD_f, Nat.zero_add, Nat.reduceAdd, nc0, nc1, nc2, nc3, nc4, nc5, nc6, nc7, nc8, nc9, eq_self, decide_true, decide_false, Int.reduceEq, Int.reduceLT, Int.reduceLE, Int.reduceNeg, Bool.not_true, Bool.not_false, Bool.false_eq_true, if_true, if_false, ↓reduceIte, false_and, and_false, List.all_cons, List.all_nil, List.any_cons, List.any_nil, id_eq, Bool.and_true, Bool.true_and, Bool.or_false, Bool.false_or, Bool.and_false, Bool.false_and, gCut, eqD_b, neD_b, giZip, reduceCtorEq, Bool.true_eq_false, Bool.false_eq_true, gRevL, gSl, goNone, goSome, slD_l, ne_eq, not_false_eq_true, not_true_eq_false, gBM, isTy_l, isTy_s, new_at, new_set, isTy_new, cellK_new, append_new, popAt_new, gFrz_eq, frzK_new, fLen_new, fTuple_new, ixD_new, slA_l, slA_t, slA_new, addTD_t, addCD_l, mulCD_l, isbD_b, isnotbD_b, mSplitC_s, gLstC, gTr, ggSub, lstK_l, lstK_r, addLD_eq]
    have fr1 : Fr (sgn (sgB l) a, 1) := ⟨(show (0 : Int) < 1 by decide), Int.gcd_one⟩
    rw [show ("0" : Str) = S [48] from zero_S, decS, numL_eq0]
    by_cases ha0 : a = 0
    · rw [decide_eq_true ha0]
      simp only [sem0, List.map_cons, List.map_nil, List.length_cons, List.length_nil, gSeq, gNext, gRet, gRetN, gIfS, gSet, gPar, gAsg, gDrop, gVar, gC, gBin, gUn, gB, gTru, gAnd, gOr, gNot, gAndV, gOrV, gNotV, gIf, gChain, gaNil, gaCons, DL.gTup, gLst, gCB, gCall0, gAug, addD_i, addD_s, addD_l, addD_t, subD_i, mulD_i, mulD_l, fdivD_i, modD_i, powD_i, ltD_i, ltD_s, leD_i, gtD_i, geD_i, isD_n, isnotD_n, isNonD_non, isNonD_bl, isNonD_int, isNonD_str, isNonD_lst, isNonD_tup, negD_i, iaddD_i, truD_non, truD_bl, truD_int, truD_str, truD_lst, truD_tup, someK_some, ixD_l, ixD_t, fAbs_i, fInt_i, fInt_b, fMin2_i, fLen_l, fLen_t, fLen_s, fList_l, fList_t, fTuple_l, fTuple_t, optBK_some, fIsi_non, fIsi_bl, fIsi_int, fIsi_str, fIsi_lst, fIsi_tup, List.getElem?_cons_zero, List.getElem?_cons_succ, List.set_cons_zero, List.set_cons_succ, DL.ggName, ggNil0, ggCons1, ggTup2, ggTup3, gFor, giSeq, gLc, gYes, wipeR, true_and, and_true, at_0, at_1, at_2, kit_int_int, kit_bool_int, kit_str_int, kit_non_int, kit_list_int, kit_tuple_int, kit_int_bool, kit_bool_bool, kit_str_bool, kit_non_bool, kit_list_bool, kit_tuple_bool, kit_int_str, kit_bool_str, kit_str_str, kit_non_str, kit_list_str, kit_tuple_str, kit_int_list, kit_bool_list, kit_str_list, kit_non_list, kit_list_list, kit_tuple_list, kit_int_tuple, kit_bool_tuple, kit_str_tuple, kit_non_tuple, kit_list_tuple, kit_tuple_tuple, eqD_i, neD_i, eqD_s, neD_s, eqD_f, neD_f, Nat.zero_add, Nat.reduceAdd, nc0, nc1, nc2, nc3, nc4, nc5, nc6, nc7, nc8, nc9, eq_self, decide_true, decide_false, Int.reduceEq, Int.reduceLT, Int.reduceLE, Int.reduceNeg, Bool.not_true, Bool.not_false, Bool.false_eq_true, if_true, if_false, ↓reduceIte, false_and, and_false, List.all_cons, List.all_nil, List.any_cons, List.any_nil, id_eq, Bool.and_true, Bool.true_and, Bool.or_false, Bool.false_or, Bool.and_false, Bool.false_and, gCut, eqD_b, neD_b, giZip, reduceCtorEq, Bool.true_eq_false, Bool.false_eq_true, gRevL, gSl, goNone, goSome, slD_l, ne_eq, not_false_eq_true, not_true_eq_false, gBM, isTy_l, isTy_s, new_at, new_set, isTy_new, cellK_new, append_new, popAt_new, gFrz_eq, frzK_new, fLen_new, fTuple_new, ixD_new, slA_l, slA_t, slA_new, addTD_t, addCD_l, mulCD_l, isbD_b, isnotbD_b, mSplitC_s, gLstC, gTr, ggSub, lstK_l, lstK_r, addLD_eq]
      cases hs : sgB l with
      | true =>
        rw [← hw0, hs, if_pos rfl, decS, decide_eq_false (show ¬ 45 :: numL a = [48] from fun z => by injection z with z _; exact absurd z (by decide))]
        exact hx fun p hp => by
          have e1 := told_one hp hu
          have e2 := (told_parts hp).1
          rw [hs, ha0] at e1
          rw [hs, e1] at e2
          exact absurd e2 (show ¬ true = decide (sgn true 0 < 0) by decide)
      | false =>
        have zz : ¬ (a = 0 ∧ sgB l = true) := fun z => by rw [hs] at z; exact absurd z.2 (by decide)
        have e0 : w0 = [48] := by
          rw [← hw0, hs, if_neg (by decide), ha0]
          exact numL_zero
        rw [decS, decide_eq_true e0]
        simp only [sem0, List.map_cons, List.map_nil, List.length_cons, List.length_nil, gSeq, gNext, gRet, gRetN, gIfS, gSet, gPar, gAsg, gDrop, gVar, gC, gBin, gUn, gB, gTru, gAnd, gOr, gNot, gAndV, gOrV, gNotV, gIf, gChain, gaNil, gaCons, DL.gTup, gLst, gCB, gCall0, gAug, addD_i, addD_s, addD_l, addD_t, subD_i, mulD_i, mulD_l, fdivD_i, modD_i, powD_i, ltD_i, ltD_s, leD_i, gtD_i, geD_i, isD_n, isnotD_n, isNonD_non, isNonD_bl, isNonD_int, isNonD_str, isNonD_lst, isNonD_tup, negD_i, iaddD_i, truD_non, truD_bl, truD_int, truD_str, truD_lst, truD_tup, someK_some, ixD_l, ixD_t, fAbs_i, fInt_i, fInt_b, fMin2_i, fLen_l, fLen_t, fLen_s, fList_l, fList_t, fTuple_l, fTuple_t, optBK_some, fIsi_non, fIsi_bl, fIsi_int, fIsi_str, fIsi_lst, fIsi_tup, List.getElem?_cons_zero, List.getElem?_cons_succ, List.set_cons_zero, List.set_cons_succ, DL.ggName, ggNil0, ggCons1, ggTup2, ggTup3, gFor, giSeq, gLc, gYes, wipeR, true_and, and_true, at_0, at_1, at_2, kit_int_int, kit_bool_int, kit_str_int, kit_non_int, kit_list_int, kit_tuple_int, kit_int_bool, kit_bool_bool, kit_str_bool, kit_non_bool, kit_list_bool, kit_tuple_bool, kit_int_str, kit_bool_str, kit_str_str, kit_non_str, kit_list_str, kit_tuple_str, kit_int_list, kit_bool_list, kit_str_list, kit_non_list, kit_list_list, kit_tuple_list, kit_int_tuple, kit_bool_tuple, kit_str_tuple, kit_non_tuple, kit_list_tuple, kit_tuple_tuple, eqD_i, neD_i, eqD_s, neD_s, eqD_f, neD_f, Nat.zero_add, Nat.reduceAdd, nc0, nc1, nc2, nc3, nc4, nc5, nc6, nc7, nc8, nc9, eq_self, decide_true, decide_false, Int.reduceEq, Int.reduceLT, Int.reduceLE, Int.reduceNeg, Bool.not_true, Bool.not_false, Bool.false_eq_true, if_true, if_false, ↓reduceIte, false_and, and_false, List.all_cons, List.all_nil, List.any_cons, List.any_nil, id_eq, Bool.and_true, Bool.true_and, Bool.or_false, Bool.false_or, Bool.and_false, Bool.false_and, gCut, eqD_b, neD_b, giZip, reduceCtorEq, Bool.true_eq_false, Bool.false_eq_true, gRevL, gSl, goNone, goSome, slD_l, ne_eq, not_false_eq_true, not_true_eq_false, gBM, isTy_l, isTy_s, new_at, new_set, isTy_new, cellK_new, append_new, popAt_new, gFrz_eq, frzK_new, fLen_new, fTuple_new, ixD_new, slA_l, slA_t, slA_new, addTD_t, addCD_l, mulCD_l, isbD_b, isnotbD_b, mSplitC_s, gLstC, gTr, ggSub, lstK_l, lstK_r, addLD_eq]
        rw [decS, decide_eq_false (show ¬ ([49] : List Nat) = [48] by decide)]
        simp only [fIntS, sem0, List.map_cons, List.map_nil, List.length_cons, List.length_nil, gSeq, gNext, gRet, gRetN, gIfS, gSet, gPar, gAsg, gDrop, gVar, gC, gBin, gUn, gB, gTru, gAnd, gOr, gNot, gAndV, gOrV, gNotV, gIf, gChain, gaNil, gaCons, DL.gTup, gLst, gCB, gCall0, gAug, addD_i, addD_s, addD_l, addD_t, subD_i, mulD_i, mulD_l, fdivD_i, modD_i, powD_i, ltD_i, ltD_s, leD_i, gtD_i, geD_i, isD_n, isnotD_n, isNonD_non, isNonD_bl, isNonD_int, isNonD_str, isNonD_lst, isNonD_tup, negD_i, iaddD_i, truD_non, truD_bl, truD_int, truD_str, truD_lst, truD_tup, someK_some, ixD_l, ixD_t, fAbs_i, fInt_i, fInt_b, fMin2_i, fLen_l, fLen_t, fLen_s, fList_l, fList_t, fTuple_l, fTuple_t, optBK_some, fIsi_non, fIsi_bl, fIsi_int, fIsi_str, fIsi_lst, fIsi_tup, List.getElem?_cons_zero, List.getElem?_cons_succ, List.set_cons_zero, List.set_cons_succ, DL.ggName, ggNil0, ggCons1, ggTup2, ggTup3, gFor, giSeq, gLc, gYes, wipeR, true_and, and_true, at_0, at_1, at_2, kit_int_int, kit_bool_int, kit_str_int, kit_non_int, kit_list_int, kit_tuple_int, kit_int_bool, kit_bool_bool, kit_str_bool, kit_non_bool, kit_list_bool, kit_tuple_bool, kit_int_str, kit_bool_str, kit_str_str, kit_non_str, kit_list_str, kit_tuple_str, kit_int_list, kit_bool_list, kit_str_list, kit_non_list, kit_list_list, kit_tuple_list, kit_int_tuple, kit_bool_tuple, kit_str_tuple, kit_non_tuple, kit_list_tuple, kit_tuple_tuple, eqD_i, neD_i, eqD_s, neD_s, eqD_f, neD_f, Nat.zero_add, Nat.reduceAdd, nc0, nc1, nc2, nc3, nc4, nc5, nc6, nc7, nc8, nc9, eq_self, decide_true, decide_false, Int.reduceEq, Int.reduceLT, Int.reduceLE, Int.reduceNeg, Bool.not_true, Bool.not_false, Bool.false_eq_true, if_true, if_false, ↓reduceIte, false_and, and_false, List.all_cons, List.all_nil, List.any_cons, List.any_nil, id_eq, Bool.and_true, Bool.true_and, Bool.or_false, Bool.false_or, Bool.and_false, Bool.false_and, gCut, eqD_b, neD_b, giZip, reduceCtorEq, Bool.true_eq_false, Bool.false_eq_true, gRevL, gSl, goNone, goSome, slD_l, ne_eq, not_false_eq_true, not_true_eq_false, gBM, isTy_l, isTy_s, new_at, new_set, isTy_new, cellK_new, append_new, popAt_new, gFrz_eq, frzK_new, fLen_new, fTuple_new, ixD_new, slA_l, slA_t, slA_new, addTD_t, addCD_l, mulCD_l, isbD_b, isnotbD_b, mSplitC_s, gLstC, gTr, ggSub, lstK_l, lstK_r, addLD_eq]
        refine ⟨_, by rw [← hw0]; exact int_sgn ha, by rw [S_len]; exact sl_of (Nat.le_trans (hlen.2 w0 List.mem_cons_self) hl), 1, by decide +kernel, by decide +kernel, by decide, _, _, rfl, ⟨by decide, b1, tbig⟩, ?_⟩
        show eqD (fD _) (fD (sgn (sgB l) a, 1)) w _
        rw [eqD_ff, decide_eq_true (norm_self (x := (sgn (sgB l) a, 1)) fr1)]
        refine hk _ ⟨⟨fr1, ttop, one1000⟩, ?_⟩
        exact (Spl_one_own hw hw0).trans (frL_one zz).symm
    · rw [decide_eq_false ha0]
      have zz : ¬ (a = 0 ∧ sgB l = true) := fun z => ha0 z.1
      simp only [sem0, List.map_cons, List.map_nil, List.length_cons, List.length_nil, gSeq, gNext, gRet, gRetN, gIfS, gSet, gPar, gAsg, gDrop, gVar, gC, gBin, gUn, gB, gTru, gAnd, gOr, gNot, gAndV, gOrV, gNotV, gIf, gChain, gaNil, gaCons, DL.gTup, gLst, gCB, gCall0, gAug, addD_i, addD_s, addD_l, addD_t, subD_i, mulD_i, mulD_l, fdivD_i, modD_i, powD_i, ltD_i, ltD_s, leD_i, gtD_i, geD_i, isD_n, isnotD_n, isNonD_non, isNonD_bl, isNonD_int, isNonD_str, isNonD_lst, isNonD_tup, negD_i, iaddD_i, truD_non, truD_bl, truD_int, truD_str, truD_lst, truD_tup, someK_some, ixD_l, ixD_t, fAbs_i, fInt_i, fInt_b, fMin2_i, fLen_l, fLen_t, fLen_s, fList_l, fList_t, fTuple_l, fTuple_t, optBK_some, fIsi_non, fIsi_bl, fIsi_int, fIsi_str, fIsi_lst, fIsi_tup, List.getElem?_cons_zero, List.getElem?_cons_succ, List.set_cons_zero, List.set_cons_succ, DL.ggName, ggNil0, ggCons1, ggTup2, ggTup3, gFor, giSeq, gLc, gYes, wipeR, true_and, and_true, at_0, at_1, at_2, kit_int_int, kit_bool_int, kit_str_int, kit_non_int, kit_list_int, kit_tuple_int, kit_int_bool, kit_bool_bool, kit_str_bool, kit_non_bool, kit_list_bool, kit_tuple_bool, kit_int_str, kit_bool_str, kit_str_str, kit_non_str, kit_list_str, kit_tuple_str, kit_int_list, kit_bool_list, kit_str_list, kit_non_list, kit_list_list, kit_tuple_list, kit_int_tuple, kit_bool_tuple, kit_str_tuple, kit_non_tuple, kit_list_tuple, kit_tuple_tuple, eqD_i, neD_i, eqD_s, neD_s, eqD_f, neD_f, Nat.zero_add, Nat.reduceAdd, nc0, nc1, nc2, nc3, nc4, nc5, nc6, nc7, nc8, nc9, eq_self, decide_true, decide_false, Int.reduceEq, Int.reduceLT, Int.reduceLE, Int.reduceNeg, Bool.not_true, Bool.not_false, Bool.false_eq_true, if_true, if_false, ↓reduceIte, false_and, and_false, List.all_cons, List.all_nil, List.any_cons, List.any_nil, id_eq, Bool.and_true, Bool.true_and, Bool.or_false, Bool.false_or, Bool.and_false, Bool.false_and, gCut, eqD_b, neD_b, giZip, reduceCtorEq, Bool.true_eq_false, Bool.false_eq_true, gRevL, gSl, goNone, goSome, slD_l, ne_eq, not_false_eq_true, not_true_eq_false, gBM, isTy_l, isTy_s, new_at, new_set, isTy_new, cellK_new, append_new, popAt_new, gFrz_eq, frzK_new, fLen_new, fTuple_new, ixD_new, slA_l, slA_t, slA_new, addTD_t, addCD_l, mulCD_l, isbD_b, isnotbD_b, mSplitC_s, gLstC, gTr, ggSub, lstK_l, lstK_r, addLD_eq]
      rw [decS, decide_eq_false (show ¬ ([49] : List Nat) = [48] by decide)]
      simp only [fIntS, sem0, List.map_cons, List.map_nil, List.length_cons, List.length_nil, gSeq, gNext, gRet, gRetN, gIfS, gSet, gPar, gAsg, gDrop, gVar, gC, gBin, gUn, gB, gTru, gAnd, gOr, gNot, gAndV, gOrV, gNotV, gIf, gChain, gaNil, gaCons, DL.gTup, gLst, gCB, gCall0, gAug, addD_i, addD_s, addD_l, addD_t, subD_i, mulD_i, mulD_l, fdivD_i, modD_i, powD_i, ltD_i, ltD_s, leD_i, gtD_i, geD_i, isD_n, isnotD_n, isNonD_non, isNonD_bl, isNonD_int, isNonD_str, isNonD_lst, isNonD_tup, negD_i, iaddD_i, truD_non, truD_bl, truD_int, truD_str, truD_lst, truD_tup, someK_some, ixD_l, ixD_t, fAbs_i, fInt_i, fInt_b, fMin2_i, fLen_l, fLen_t, fLen_s, fList_l, fList_t, fTuple_l, fTuple_t, optBK_some, fIsi_non, fIsi_bl, fIsi_int, fIsi_str, fIsi_lst, fIsi_tup, List.getElem?_cons_zero, List.getElem?_cons_succ, List.set_cons_zero, List.set_cons_succ, DL.ggName, ggNil0, ggCons1, ggTup2, ggTup3, gFor, giSeq, gLc, gYes, wipeR, true_and, and_true, at_0, at_1, at_2, kit_int_int, kit_bool_int, kit_str_int, kit_non_int, kit_list_int, kit_tuple_int, kit_int_bool, kit_bool_bool, kit_str_bool, kit_non_bool, kit_list_bool, kit_tuple_bool, kit_int_str, kit_bool_str, kit_str_str, kit_non_str, kit_list_str, kit_tuple_str, kit_int_list, kit_bool_list, kit_str_list, kit_non_list, kit_list_list, kit_tuple_list, kit_int_tuple, kit_bool_tuple, kit_str_tuple, kit_non_tuple, kit_list_tuple, kit_tuple_tuple, eqD_i, neD_i, eqD_s, neD_s, eqD_f, neD_f, Nat.zero_add, Nat.reduceAdd, nc0, nc1, nc2, nc3, nc4, nc5, nc6, nc7, nc8, nc9, eq_self, decide_true, decide_false, Int.reduceEq, Int.reduceLT, Int.reduceLE, Int.reduceNeg, Bool.not_true, Bool.not_false, Bool.false_eq_true, if_true, if_false, ↓reduceIte, false_and, and_false, List.all_cons, List.all_nil, List.any_cons, List.any_nil, id_eq, Bool.and_true, Bool.true_and, Bool.or_false, Bool.false_or, Bool.and_false, Bool.false_and, gCut, eqD_b, neD_b, giZip, reduceCtorEq, Bool.true_eq_false, Bool.false_eq_true, gRevL, gSl, goNone, goSome, slD_l, ne_eq, not_false_eq_true, not_true_eq_false, gBM, isTy_l, isTy_s, new_at, new_set, isTy_new, cellK_new, append_new, popAt_new, gFrz_eq, frzK_new, fLen_new, fTuple_new, ixD_new, slA_l, slA_t, slA_new, addTD_t, addCD_l, mulCD_l, isbD_b, isnotbD_b, mSplitC_s, gLstC, gTr, ggSub, lstK_l, lstK_r, addLD_eq]
      refine ⟨_, by rw [← hw0]; exact int_sgn ha, by rw [S_len]; exact sl_of (Nat.le_trans (hlen.2 w0 List.mem_cons_self) hl), 1, by decide +kernel, by decide +kernel, by decide, _, _, rfl, ⟨by decide, b1, tbig⟩, ?_⟩
      show eqD (fD _) (fD (sgn (sgB l) a, 1)) w _
      rw [eqD_ff, decide_eq_true (norm_self (x := (sgn (sgB l) a, 1)) fr1)]
      refine hk _ ⟨⟨fr1, ttop, one1000⟩, ?_⟩
      exact (Spl_one_own hw hw0).trans (frL_one zz).symm
  | [wb], _, hu, hw, hlen, hall =>
    rw [if_neg (fun z => nomatch z)]
    simp only [List.map_cons, List.map_nil, sem0, List.map_cons, List.map_nil, List.length_cons, List.length_nil, gSeq, gNext, gRet, gRetN, gIfS, gSet, gPar, gAsg, gDrop, gVar, gC, gBin, gUn, gB, gTru, gAnd, gOr, gNot, gAndV, gOrV, gNotV, gIf, gChain, gaNil, gaCons, DL.gTup, gLst, gCB, gCall0, gAug, addD_i, addD_s, addD_l, addD_t, subD_i, mulD_i, mulD_l, fdivD_i, modD_i, powD_i, ltD_i, ltD_s, leD_i, gtD_i, geD_i, isD_n, isnotD_n, isNonD_non, isNonD_bl, isNonD_int, isNonD_str, isNonD_lst, isNonD_tup, negD_i, iaddD_i, truD_non, truD_bl, truD_int, truD_str, truD_lst, truD_tup, someK_some, ixD_l, ixD_t, fAbs_i, fInt_i, fInt_b, fMin2_i, fLen_l, fLen_t, fLen_s, fList_l, fList_t, fTuple_l, fTuple_t, optBK_some, fIsi_non, fIsi_bl, fIsi_int, fIsi_str, fIsi_lst, fIsi_tup, List.getElem?_cons_zero, List.getElem?_cons_succ, List.set_cons_zero, List.set_cons_succ, DL.ggName, ggNil0, ggCons1, ggTup2, ggTup3, gFor, giSeq, gLc, gYes, wipeR, true_and, and_true, at_0, at_1, at_2, kit_int_int, kit_bool_int, kit_str_int, kit_non_int, kit_list_int, kit_tuple_int, kit_int_bool, kit_bool_bool, kit_str_bool, kit_non_bool, kit_list_bool, kit_tuple_bool, kit_int_str, kit_bool_str, kit_str_str, kit_non_str, kit_list_str, kit_tuple_str, kit_int_list, kit_bool_list, kit_str_list, kit_non_list, kit_list_list, kit_tuple_list, kit_int_tuple, kit_bool_tuple, kit_str_tuple, kit_non_tuple, kit_list_tuple, kit_tuple_tuple, eqD_i, neD_i, eqD_s, neD_s, eqD_f, neD_f, Nat.zero_add, Nat.reduceAdd, nc0, nc1, nc2, nc3, nc4, nc5, nc6, nc7, nc8, nc9, eq_self, decide_true, decide_false, Int.reduceEq, Int.reduceLT, Int.reduceLE, Int.reduceNeg, Bool.not_true, Bool.not_false, Bool.false_eq_true, if_true, if_false, ↓reduceIte, false_and, and_false, List.all_cons, List.all_nil, List.any_cons, List.any_nil, id_eq, Bool.and_true, Bool.true_and, Bool.or_false, Bool.false_or, Bool.and_false, Bool.false_and, gCut, eqD_b, neD_b, giZip, reduceCtorEq, Bool.true_eq_false, Bool.false_eq_true, gRevL, gSl, goNone, goSome, slD_l, ne_eq, not_false_eq_true, not_true_eq_false, gBM, isTy_l, isTy_s, new_at, new_set, isTy_new, cellK_new, append_new, popAt_new, gFrz_eq, frzK_new, fLen_new, fTuple_new, ixD_new, slA_l, slA_t, slA_new, addTD_t, addCD_l, mulCD_l, isbD_b, isnotbD_b, mSplitC_s, gLstC, gTr, ggSub, lstK_l, lstK_r, addLD_eq]
    refine ⟨wb, rfl, Nat.le_trans (hlen.2 wb (by simp)) hl, ?_⟩
    cases hpb : plainB wb with
    | false =>
      exact hx fun p hp => by
        have := (hall p hp).1
        rw [List.map_cons, List.map_cons, hpb] at this
        simp at this
    | true =>
    obtain ⟨b, rfl, hb⟩ := plainB_num hpb
    simp only [sem0, List.map_cons, List.map_nil, List.length_cons, List.length_nil, gSeq, gNext, gRet, gRetN, gIfS, gSet, gPar, gAsg, gDrop, gVar, gC, gBin, gUn, gB, gTru, gAnd, gOr, gNot, gAndV, gOrV, gNotV, gIf, gChain, gaNil, gaCons, DL.gTup, gLst, gCB, gCall0, gAug, addD_i, addD_s, addD_l, addD_t, subD_i, mulD_i, mulD_l, fdivD_i, modD_i, powD_i, ltD_i, ltD_s, leD_i, gtD_i, geD_i, isD_n, isnotD_n, isNonD_non, isNonD_bl, isNonD_int, isNonD_str, isNonD_lst, isNonD_tup, negD_i, iaddD_i, truD_non, truD_bl, truD_int, truD_str, truD_lst, truD_tup, someK_some, ixD_l, ixD_t, fAbs_i, fInt_i, fInt_b, fMin2_i, fLen_l, fLen_t, fLen_s, fList_l, fList_t, fTuple_l, fTuple_t, optBK_some, fIsi_non, fIsi_bl, fIsi_int, fIsi_str, fIsi_lst, fIsi_tup, List.getElem?_cons_zero, List.getElem?_cons_succ, List.set_cons_zero, List.set_cons_succ, DL.ggName, ggNil0, ggCons1, ggTup2, ggTup3, gFor, giSeq, gLc, gYes, wipeR, true_and, and_true, at_0, at_1, at_2, kit_int_int, kit_bool_int, kit_str_int, kit_non_int, kit_list_int, kit_tuple_int, kit_int_bool, kit_bool_bool, kit_str_bool, kit_non_bool, kit_list_bool, kit_tuple_bool, kit_int_str, kit_bool_str, kit_str_str, kit_non_str, kit_list_str, kit_tuple_str, kit_int_list, kit_bool_list, kit_str_list, kit_non_list, kit_list_list, kit_tuple_list, kit_int_tuple, kit_bool_tuple, kit_str_tuple, kit_non_tuple, kit_list_tuple, kit_tuple_tuple, eqD_i, neD_i, eqD_s, neD_s, eqD_f, neD_f, Nat.zero_add, Nat.reduceAdd, nc0, nc1, nc2, nc3, nc4, nc5, nc6, nc7, nc8, nc9, eq_self, decide_true, decide_false, Int.reduceEq, Int.reduceLT, Int.reduceLE, Int.reduceNeg, Bool.not_true, Bool.not_false, Bool.false_eq_true, if_true, if_false, ↓reduceIte, false_and, and_false, List.all_cons, List.all_nil, List.any_cons, List.any_nil, id_eq, Bool.and_true, Bool.true_and, Bool.or_false, Bool.false_or, Bool.and_false, Bool.false_and, gCut, eqD_b, neD_b, giZip, reduceCtorEq, Bool.true_eq_false, Bool.false_eq_true, gRevL, gSl, goNone, goSome, slD_l, ne_eq, not_false_eq_true, not_true_eq_false, gBM, isTy_l, isTy_s, new_at, new_set, isTy_new, cellK_new, append_new, popAt_new, gFrz_eq, frzK_new, fLen_new, fTuple_new, ixD_new, slA_l, slA_t, slA_new, addTD_t, addCD_l, mulCD_l, isbD_b, isnotbD_b, mSplitC_s, gLstC, gTr, ggSub, lstK_l, lstK_r, addLD_eq]
    rw [show ("0" : Str) = S [48] from zero_S, decS, numL_eq0]
    by_cases ha0 : a = 0
    · rw [decide_eq_true ha0]
      simp only [sem0, List.map_cons, List.map_nil, List.length_cons, List.length_nil, gSeq, gNext, gRet, gRetN, gIfS, gSet, gPar, gAsg, gDrop, gVar, gC, gBin, gUn, gB, gTru, gAnd, gOr, gNot, gAndV, gOrV, gNotV, gIf, gChain, gaNil, gaCons, DL.gTup, gLst, gCB, gCall0, gAug, addD_i, addD_s, addD_l, addD_t, subD_i, mulD_i, mulD_l, fdivD_i, modD_i, powD_i, ltD_i, ltD_s, leD_i, gtD_i, geD_i, isD_n, isnotD_n, isNonD_non, isNonD_bl, isNonD_int, isNonD_str, isNonD_lst, isNonD_tup, negD_i, iaddD_i, truD_non, truD_bl, truD_int, truD_str, truD_lst, truD_tup, someK_some, ixD_l, ixD_t, fAbs_i, fInt_i, fInt_b, fMin2_i, fLen_l, fLen_t, fLen_s, fList_l, fList_t, fTuple_l, fTuple_t, optBK_some, fIsi_non, fIsi_bl, fIsi_int, fIsi_str, fIsi_lst, fIsi_tup, List.getElem?_cons_zero, List.getElem?_cons_succ, List.set_cons_zero, List.set_cons_succ, DL.ggName, ggNil0, ggCons1, ggTup2, ggTup3, gFor, giSeq, gLc, gYes, wipeR, true_and, and_true, at_0, at_1, at_2, kit_int_int, kit_bool_int, kit_str_int, kit_non_int, kit_list_int, kit_tuple_int, kit_int_bool, kit_bool_bool, kit_str_bool, kit_non_bool, kit_list_bool, kit_tuple_bool, kit_int_str, kit_bool_str, kit_str_str, kit_non_str, kit_list_str, kit_tuple_str, kit_int_list, kit_bool_list, kit_str_list, kit_non_list, kit_list_list, kit_tuple_list, kit_int_tuple, kit_bool_tuple, kit_str_tuple, kit_non_tuple, kit_list_tuple, kit_tuple_tuple, eqD_i, neD_i, eqD_s, neD_s, eqD_f, neD_f, Nat.zero_add, Nat.reduceAdd, nc0, nc1, nc2, nc3, nc4, nc5, nc6, nc7, nc8, nc9, eq_self, decide_true, decide_false, Int.reduceEq, Int.reduceLT, Int.reduceLE, Int.reduceNeg, Bool.not_true, Bool.not_false, Bool.false_eq_true, if_true, if_false, ↓reduceIte, false_and, and_false, List.all_cons, List.all_nil, List.any_cons, List.any_nil, id_eq, Bool.and_true, Bool.true_and, Bool.or_false, Bool.false_or, Bool.and_false, Bool.false_and, gCut, eqD_b, neD_b, giZip, reduceCtorEq, Bool.true_eq_false, Bool.false_eq_true, gRevL, gSl, goNone, goSome, slD_l, ne_eq, not_false_eq_true, not_true_eq_false, gBM, isTy_l, isTy_s, new_at, new_set, isTy_new, cellK_new, append_new, popAt_new, gFrz_eq, frzK_new, fLen_new, fTuple_new, ixD_new, slA_l, slA_t, slA_new, addTD_t, addCD_l, mulCD_l, isbD_b, isnotbD_b, mSplitC_s, gLstC, gTr, ggSub, lstK_l, lstK_r, addLD_eq]
      cases hs : sgB l with
      | true =>
        rw [← hw0, hs, if_pos rfl, decS, decide_eq_false (show ¬ 45 :: numL a = [48] from fun z => by injection z with z _; exact absurd z (by decide))]
        exact hx fun p hp => by
          have e1 := (told_two hp hu).1
          have e2 := (told_parts hp).1
          rw [hs, ha0] at e1
          rw [hs, e1] at e2
          exact absurd e2 (show ¬ true = decide (sgn true 0 < 0) by decide)
      | false =>
        have zz : ¬ (a = 0 ∧ sgB l = true) := fun z => by rw [hs] at z; exact absurd z.2 (by decide)
        have e0 : w0 = [48] := by
          rw [← hw0, hs, if_neg (by decide), ha0]
          exact numL_zero
        rw [decS, decide_eq_true e0]
        simp only [sem0, List.map_cons, List.map_nil, List.length_cons, List.length_nil, gSeq, gNext, gRet, gRetN, gIfS, gSet, gPar, gAsg, gDrop, gVar, gC, gBin, gUn, gB, gTru, gAnd, gOr, gNot, gAndV, gOrV, gNotV, gIf, gChain, gaNil, gaCons, DL.gTup, gLst, gCB, gCall0, gAug, addD_i, addD_s, addD_l, addD_t, subD_i, mulD_i, mulD_l, fdivD_i, modD_i, powD_i, ltD_i, ltD_s, leD_i, gtD_i, geD_i, isD_n, isnotD_n, isNonD_non, isNonD_bl, isNonD_int, isNonD_str, isNonD_lst, isNonD_tup, negD_i, iaddD_i, truD_non, truD_bl, truD_int, truD_str, truD_lst, truD_tup, someK_some, ixD_l, ixD_t, fAbs_i, fInt_i, fInt_b, fMin2_i, fLen_l, fLen_t, fLen_s, fList_l, fList_t, fTuple_l, fTuple_t, optBK_some, fIsi_non, fIsi_bl, fIsi_int, fIsi_str, fIsi_lst, fIsi_tup, List.getElem?_cons_zero, List.getElem?_cons_succ, List.set_cons_zero, List.set_cons_succ, DL.ggName, ggNil0, ggCons1, ggTup2, ggTup3, gFor, giSeq, gLc, gYes, wipeR, true_and, and_true, at_0, at_1, at_2, kit_int_int, kit_bool_int, kit_str_int, kit_non_int, kit_list_int, kit_tuple_int, kit_int_bool, kit_bool_bool, kit_str_bool, kit_non_bool, kit_list_bool, kit_tuple_bool, kit_int_str, kit_bool_str, kit_str_str, kit_non_str, kit_list_str, kit_tuple_str, kit_int_list, kit_bool_list, kit_str_list, kit_non_list, kit_list_list, kit_tuple_list, kit_int_tuple, kit_bool_tuple, kit_str_tuple, kit_non_tuple, kit_list_tuple, kit_tuple_tuple, eqD_i, neD_i, eqD_s, neD_s, eqD_f, neD_f, Nat.zero_add, Nat.reduceAdd, nc0, nc1, nc2, nc3, nc4, nc5, nc6, nc7, nc8, nc9, eq_self, decide_true, decide_false, Int.reduceEq, Int.reduceLT, Int.reduceLE, Int.reduceNeg, Bool.not_true, Bool.not_false, Bool.false_eq_true, if_true, if_false, ↓reduceIte, false_and, and_false, List.all_cons, List.all_nil, List.any_cons, List.any_nil, id_eq, Bool.and_true, Bool.true_and, Bool.or_false, Bool.false_or, Bool.and_false, Bool.false_and, gCut, eqD_b, neD_b, giZip, reduceCtorEq, Bool.true_eq_false, Bool.false_eq_true, gRevL, gSl, goNone, goSome, slD_l, ne_eq, not_false_eq_true, not_true_eq_false, gBM, isTy_l, isTy_s, new_at, new_set, isTy_new, cellK_new, append_new, popAt_new, gFrz_eq, frzK_new, fLen_new, fTuple_new, ixD_new, slA_l, slA_t, slA_new, addTD_t, addCD_l, mulCD_l, isbD_b, isnotbD_b, mSplitC_s, gLstC, gTr, ggSub, lstK_l, lstK_r, addLD_eq]
        rw [decS, numL_eq0]
        by_cases hb0 : b = 0
        · rw [decide_eq_true hb0]
          exact hx fun p hp => by
            have e1 := (told_two hp hu).1
            have := hp.1.fr.pos
            rw [e1, hb0] at this
            exact Int.lt_irrefl _ this
        rw [decide_eq_false hb0]
        simp only [sem0, List.map_cons, List.map_nil, List.length_cons, List.length_nil, gSeq, gNext, gRet, gRetN, gIfS, gSet, gPar, gAsg, gDrop, gVar, gC, gBin, gUn, gB, gTru, gAnd, gOr, gNot, gAndV, gOrV, gNotV, gIf, gChain, gaNil, gaCons, DL.gTup, gLst, gCB, gCall0, gAug, addD_i, addD_s, addD_l, addD_t, subD_i, mulD_i, mulD_l, fdivD_i, modD_i, powD_i, ltD_i, ltD_s, leD_i, gtD_i, geD_i, isD_n, isnotD_n, isNonD_non, isNonD_bl, isNonD_int, isNonD_str, isNonD_lst, isNonD_tup, negD_i, iaddD_i, truD_non, truD_bl, truD_int, truD_str, truD_lst, truD_tup, someK_some, ixD_l, ixD_t, fAbs_i, fInt_i, fInt_b, fMin2_i, fLen_l, fLen_t, fLen_s, fList_l, fList_t, fTuple_l, fTuple_t, optBK_some, fIsi_non, fIsi_bl, fIsi_int, fIsi_str, fIsi_lst, fIsi_tup, List.getElem?_cons_zero, List.getElem?_cons_succ, List.set_cons_zero, List.set_cons_succ, DL.ggName, ggNil0, ggCons1, ggTup2, ggTup3, gFor, giSeq, gLc, gYes, wipeR, true_and, and_true, at_0, at_1, at_2, kit_int_int, kit_bool_int, kit_str_int, kit_non_int, kit_list_int, kit_tuple_int, kit_int_bool, kit_bool_bool, kit_str_bool, kit_non_bool, kit_list_bool, kit_tuple_bool, kit_int_str, kit_bool_str, kit_str_str, kit_non_str, kit_list_str, kit_tuple_str, kit_int_list, kit_bool_list, kit_str_list, kit_non_list, kit_list_list, kit_tuple_list, kit_int_tuple, kit_bool_tuple, kit_str_tuple, kit_non_tuple, kit_list_tuple, kit_tuple_tuple, eqD_i, neD_i, eqD_s, neD_s, eqD_f, neD_f, Nat.zero_add, Nat.reduceAdd, nc0, nc1, nc2, nc3, nc4, nc5, nc6, nc7, nc8, nc9, eq_self, decide_true, decide_false, Int.reduceEq, Int.reduceLT, Int.reduceLE, Int.reduceNeg, Bool.not_true, Bool.not_false, Bool.false_eq_true, if_true, if_false, ↓reduceIte, false_and, and_false, List.all_cons, List.all_nil, List.any_cons, List.any_nil, id_eq, Bool.and_true, Bool.true_and, Bool.or_false, Bool.false_or, Bool.and_false, Bool.false_and, gCut, eqD_b, neD_b, giZip, reduceCtorEq, Bool.true_eq_false, Bool.false_eq_true, gRevL, gSl, goNone, goSome, slD_l, ne_eq, not_false_eq_true, not_true_eq_false, gBM, isTy_l, isTy_s, new_at, new_set, isTy_new, cellK_new, append_new, popAt_new, gFrz_eq, frzK_new, fLen_new, fTuple_new, ixD_new, slA_l, slA_t, slA_new, addTD_t, addCD_l, mulCD_l, isbD_b, isnotbD_b, mSplitC_s, gLstC, gTr, ggSub, lstK_l, lstK_r, addLD_eq]
        rw [show ("1" : Str) = S [49] from one_S, decS, numL_eq1]
        by_cases hb1 : b = 1
        · rw [decide_eq_true hb1]
          exact hx fun p hp => by
            have e1 := told_two hp hu
            rw [e1.1, hb1] at e1
            exact e1.2 rfl
        rw [decide_eq_false hb1]
        simp only [fIntS, sem0, List.map_cons, List.map_nil, List.length_cons, List.length_nil, gSeq, gNext, gRet, gRetN, gIfS, gSet, gPar, gAsg, gDrop, gVar, gC, gBin, gUn, gB, gTru, gAnd, gOr, gNot, gAndV, gOrV, gNotV, gIf, gChain, gaNil, gaCons, DL.gTup, gLst, gCB, gCall0, gAug, addD_i, addD_s, addD_l, addD_t, subD_i, mulD_i, mulD_l, fdivD_i, modD_i, powD_i, ltD_i, ltD_s, leD_i, gtD_i, geD_i, isD_n, isnotD_n, isNonD_non, isNonD_bl, isNonD_int, isNonD_str, isNonD_lst, isNonD_tup, negD_i, iaddD_i, truD_non, truD_bl, truD_int, truD_str, truD_lst, truD_tup, someK_some, ixD_l, ixD_t, fAbs_i, fInt_i, fInt_b, fMin2_i, fLen_l, fLen_t, fLen_s, fList_l, fList_t, fTuple_l, fTuple_t, optBK_some, fIsi_non, fIsi_bl, fIsi_int, fIsi_str, fIsi_lst, fIsi_tup, List.getElem?_cons_zero, List.getElem?_cons_succ, List.set_cons_zero, List.set_cons_succ, DL.ggName, ggNil0, ggCons1, ggTup2, ggTup3, gFor, giSeq, gLc, gYes, wipeR, true_and, and_true, at_0, at_1, at_2, kit_int_int, kit_bool_int, kit_str_int, kit_non_int, kit_list_int, kit_tuple_int, kit_int_bool, kit_bool_bool, kit_str_bool, kit_non_bool, kit_list_bool, kit_tuple_bool, kit_int_str, kit_bool_str, kit_str_str, kit_non_str, kit_list_str, kit_tuple_str, kit_int_list, kit_bool_list, kit_str_list, kit_non_list, kit_list_list, kit_tuple_list, kit_int_tuple, kit_bool_tuple, kit_str_tuple, kit_non_tuple, kit_list_tuple, kit_tuple_tuple, eqD_i, neD_i, eqD_s, neD_s, eqD_f, neD_f, Nat.zero_add, Nat.reduceAdd, nc0, nc1, nc2, nc3, nc4, nc5, nc6, nc7, nc8, nc9, eq_self, decide_true, decide_false, Int.reduceEq, Int.reduceLT, Int.reduceLE, Int.reduceNeg, Bool.not_true, Bool.not_false, Bool.false_eq_true, if_true, if_false, ↓reduceIte, false_and, and_false, List.all_cons, List.all_nil, List.any_cons, List.any_nil, id_eq, Bool.and_true, Bool.true_and, Bool.or_false, Bool.false_or, Bool.and_false, Bool.false_and, gCut, eqD_b, neD_b, giZip, reduceCtorEq, Bool.true_eq_false, Bool.false_eq_true, gRevL, gSl, goNone, goSome, slD_l, ne_eq, not_false_eq_true, not_true_eq_false, gBM, isTy_l, isTy_s, new_at, new_set, isTy_new, cellK_new, append_new, popAt_new, gFrz_eq, frzK_new, fLen_new, fTuple_new, ixD_new, slA_l, slA_t, slA_new, addTD_t, addCD_l, mulCD_l, isbD_b, isnotbD_b, mSplitC_s, gLstC, gTr, ggSub, lstK_l, lstK_r, addLD_eq]
        refine ⟨_, by rw [← hw0]; exact int_sgn ha, by rw [S_len]; exact sl_of (Nat.le_trans (hlen.2 w0 List.mem_cons_self) hl), _, int_numL hb, by rw [S_len]; exact sl_of (by omega), by decide, _, _, rfl, ⟨by omega, big_1000 (lt_1000 hb), tbig⟩, ?_⟩
        show eqD (fD _) (fD (sgn (sgB l) a, (b : Int))) w _
        rw [eqD_ff]
        by_cases hn : norm (sgn (sgB l) a) b = (sgn (sgB l) a, (b : Int))
        · rw [decide_eq_true hn]
          have fr2 : Fr (sgn (sgB l) a, (b : Int)) := by
            rw [← hn]
            exact fr_norm (by omega)
          refine hk _ ⟨⟨fr2, ttop, by show (b : Int).natAbs < _; rw [Int.natAbs_natCast]; exact lt_1000 hb⟩, ?_⟩
          exact (Spl_two_own hw hw0).trans (frL_two zz hb0 hb1).symm
        · rw [decide_eq_false hn]
          exact hx fun p hp => hn (by
            have e1 := (told_two hp hu).1
            have := norm_self hp.1.fr
            rwa [e1] at this)
    · rw [decide_eq_false ha0]
      have zz : ¬ (a = 0 ∧ sgB l = true) := fun z => ha0 z.1
      simp only [sem0, List.map_cons, List.map_nil, List.length_cons, List.length_nil, gSeq, gNext, gRet, gRetN, gIfS, gSet, gPar, gAsg, gDrop, gVar, gC, gBin, gUn, gB, gTru, gAnd, gOr, gNot, gAndV, gOrV, gNotV, gIf, gChain, gaNil, gaCons, DL.gTup, gLst, gCB, gCall0, gAug, addD_i, addD_s, addD_l, addD_t, subD_i, mulD_i, mulD_l, fdivD_i, modD_i, powD_i, ltD_i, ltD_s, leD_i, gtD_i, geD_i, isD_n, isnotD_n, isNonD_non, isNonD_bl, isNonD_int, isNonD_str, isNonD_lst, isNonD_tup, negD_i, iaddD_i, truD_non, truD_bl, truD_int, truD_str, truD_lst, truD_tup, someK_some, ixD_l, ixD_t, fAbs_i, fInt_i, fInt_b, fMin2_i, fLen_l, fLen_t, fLen_s, fList_l, fList_t, fTuple_l, fTuple_t, optBK_some, fIsi_non, fIsi_bl, fIsi_int, fIsi_str, fIsi_lst, fIsi_tup, List.getElem?_cons_zero, List.getElem?_cons_succ, List.set_cons_zero, List.set_cons_succ, DL.ggName, ggNil0, ggCons1, ggTup2, ggTup3, gFor, giSeq, gLc, gYes, wipeR, true_and, and_true, at_0, at_1, at_2, kit_int_int, kit_bool_int, kit_str_int, kit_non_int, kit_list_int, kit_tuple_int, kit_int_bool, kit_bool_bool, kit_str_bool, kit_non_bool, kit_list_bool, kit_tuple_bool, kit_int_str, kit_bool_str, kit_str_str, kit_non_str, kit_list_str, kit_tuple_str, kit_int_list, kit_bool_list, kit_str_list, kit_non_list, kit_list_list, kit_tuple_list, kit_int_tuple, kit_bool_tuple, kit_str_tuple, kit_non_tuple, kit_list_tuple, kit_tuple_tuple, eqD_i, neD_i, eqD_s, neD_s, eqD_f, neD_f, Nat.zero_add, Nat.reduceAdd, nc0, nc1, nc2, nc3, nc4, nc5, nc6, nc7, nc8, nc9, eq_self, decide_true, decide_false, Int.reduceEq, Int.reduceLT, Int.reduceLE, Int.reduceNeg, Bool.not_true, Bool.not_false, Bool.false_eq_true, if_true, if_false, ↓reduceIte, false_and, and_false, List.all_cons, List.all_nil, List.any_cons, List.any_nil, id_eq, Bool.and_true, Bool.true_and, Bool.or_false, Bool.false_or, Bool.and_false, Bool.false_and, gCut, eqD_b, neD_b, giZip, reduceCtorEq, Bool.true_eq_false, Bool.false_eq_true, gRevL, gSl, goNone, goSome, slD_l, ne_eq, not_false_eq_true, not_true_eq_false, gBM, isTy_l, isTy_s, new_at, new_set, isTy_new, cellK_new, append_new, popAt_new, gFrz_eq, frzK_new, fLen_new, fTuple_new, ixD_new, slA_l, slA_t, slA_new, addTD_t, addCD_l, mulCD_l, isbD_b, isnotbD_b, mSplitC_s, gLstC, gTr, ggSub, lstK_l, lstK_r, addLD_eq]
      rw [decS, numL_eq0]
      by_cases hb0 : b = 0
      · rw [decide_eq_true hb0]
        exact hx fun p hp => by
          have e1 := (told_two hp hu).1
          have := hp.1.fr.pos
          rw [e1, hb0] at this
          exact Int.lt_irrefl _ this
      rw [decide_eq_false hb0]
      simp only [sem0, List.map_cons, List.map_nil, List.length_cons, List.length_nil, gSeq, gNext, gRet, gRetN, gIfS, gSet, gPar, gAsg, gDrop, gVar, gC, gBin, gUn, gB, gTru, gAnd, gOr, gNot, gAndV, gOrV, gNotV, gIf, gChain, gaNil, gaCons, DL.gTup, gLst, gCB, gCall0, gAug, addD_i, addD_s, addD_l, addD_t, subD_i, mulD_i, mulD_l, fdivD_i, modD_i, powD_i, ltD_i, ltD_s, leD_i, gtD_i, geD_i, isD_n, isnotD_n, isNonD_non, isNonD_bl, isNonD_int, isNonD_str, isNonD_lst, isNonD_tup, negD_i, iaddD_i, truD_non, truD_bl, truD_int, truD_str, truD_lst, truD_tup, someK_some, ixD_l, ixD_t, fAbs_i, fInt_i, fInt_b, fMin2_i, fLen_l, fLen_t, fLen_s, fList_l, fList_t, fTuple_l, fTuple_t, optBK_some, fIsi_non, fIsi_bl, fIsi_int, fIsi_str, fIsi_lst, fIsi_tup, List.getElem?_cons_zero, List.getElem?_cons_succ, List.set_cons_zero, List.set_cons_succ, DL.ggName, ggNil0, ggCons1, ggTup2, ggTup3, gFor, giSeq, gLc, gYes, wipeR, true_and, and_true, at_0, at_1, at_2, kit_int_int, kit_bool_int, kit_str_int, kit_non_int, kit_list_int, kit_tuple_int, kit_int_bool, kit_bool_bool, kit_str_bool, kit_non_bool, kit_list_bool, kit_tuple_bool, kit_int_str, kit_bool_str, kit_str_str, kit_non_str, kit_list_str, kit_tuple_str, kit_int_list, kit_bool_list, kit_str_list, kit_non_list, kit_list_list, kit_tuple_list, kit_int_tuple, kit_bool_tuple, kit_str_tuple, kit_non_tuple, kit_list_tuple, kit_tuple_tuple, eqD_i, neD_i, eqD_s, neD_s, eqD_f, neD_f, Nat.zero_add, Nat.reduceAdd, nc0, nc1, nc2, nc3, nc4, nc5, nc6, nc7, nc8, nc9, eq_self, decide_true, decide_false, Int.reduceEq, Int.reduceLT, Int.reduceLE, Int.reduceNeg, Bool.not_true, Bool.not_false, Bool.false_eq_true, if_true, if_false, ↓reduceIte, false_and, and_false, List.all_cons, List.all_nil, List.any_cons, List.any_nil, id_eq, Bool.and_true, Bool.true_and, Bool.or_false, Bool.false_or, Bool.and_false, Bool.false_and, gCut, eqD_b, neD_b, giZip, reduceCtorEq, Bool.true_eq_false, Bool.false_eq_true, gRevL, gSl, goNone, goSome, slD_l, ne_eq, not_false_eq_true, not_true_eq_false, gBM, isTy_l, isTy_s, new_at, new_set, isTy_new, cellK_new, append_new, popAt_new, gFrz_eq, frzK_new, fLen_new, fTuple_new, ixD_new, slA_l, slA_t, slA_new, addTD_t, addCD_l, mulCD_l, isbD_b, isnotbD_b, mSplitC_s, gLstC, gTr, ggSub, lstK_l, lstK_r, addLD_eq]
      rw [show ("1" : Str) = S [49] from one_S, decS, numL_eq1]
      by_cases hb1 : b = 1
      · rw [decide_eq_true hb1]
        exact hx fun p hp => by
          have e1 := told_two hp hu
          rw [e1.1, hb1] at e1
          exact e1.2 rfl
      rw [decide_eq_false hb1]
      simp only [fIntS, sem0, List.map_cons, List.map_nil, List.length_cons, List.length_nil, gSeq, gNext, gRet, gRetN, gIfS, gSet, gPar, gAsg, gDrop, gVar, gC, gBin, gUn, gB, gTru, gAnd, gOr, gNot, gAndV, gOrV, gNotV, gIf, gChain, gaNil, gaCons, DL.gTup, gLst, gCB, gCall0, gAug, addD_i, addD_s, addD_l, addD_t, subD_i, mulD_i, mulD_l, fdivD_i, modD_i, powD_i, ltD_i, ltD_s, leD_i, gtD_i, geD_i, isD_n, isnotD_n, isNonD_non, isNonD_bl, isNonD_int, isNonD_str, isNonD_lst, isNonD_tup, negD_i, iaddD_i, truD_non, truD_bl, truD_int, truD_str, truD_lst, truD_tup, someK_some, ixD_l, ixD_t, fAbs_i, fInt_i, fInt_b, fMin2_i, fLen_l, fLen_t, fLen_s, fList_l, fList_t, fTuple_l, fTuple_t, optBK_some, fIsi_non, fIsi_bl, fIsi_int, fIsi_str, fIsi_lst, fIsi_tup, List.getElem?_cons_zero, List.getElem?_cons_succ, List.set_cons_zero, List.set_cons_succ, DL.ggName, ggNil0, ggCons1, ggTup2, ggTup3, gFor, giSeq, gLc, gYes, wipeR, true_and, and_true, at_0, at_1, at_2, kit_int_int, kit_bool_int, kit_str_int, kit_non_int, kit_list_int, kit_tuple_int, kit_int_bool, kit_bool_bool, kit_str_bool, kit_non_bool, kit_list_bool, kit_tuple_bool, kit_int_str, kit_bool_str, kit_str_str, kit_non_str, kit_list_str, kit_tuple_str, kit_int_list, kit_bool_list, kit_str_list, kit_non_list, kit_list_list, kit_tuple_list, kit_int_tuple, kit_bool_tuple, kit_str_tuple, kit_non_tuple, kit_list_tuple, kit_tuple_tuple, eqD_i, neD_i, eqD_s, neD_s, eqD_f, neD_f, Nat.zero_add, Nat.reduceAdd, nc0, nc1, nc2, nc3, nc4, nc5, nc6, nc7, nc8, nc9, eq_self, decide_true, decide_false, Int.reduceEq, Int.reduceLT, Int.reduceLE, Int.reduceNeg, Bool.not_true, Bool.not_false, Bool.false_eq_true, if_true, if_false, ↓reduceIte, false_and, and_false, List.all_cons, List.all_nil, List.any_cons, List.any_nil, id_eq, Bool.and_true, Bool.true_and, Bool.or_false, Bool.false_or, Bool.and_false, Bool.false_and, gCut, eqD_b, neD_b, giZip, reduceCtorEq, Bool.true_eq_false, Bool.false_eq_true, gRevL, gSl, goNone, goSome, slD_l, ne_eq, not_false_eq_true, not_true_eq_false, gBM, isTy_l, isTy_s, new_at, new_set, isTy_new, cellK_new, append_new, popAt_new, gFrz_eq, frzK_new, fLen_new, fTuple_new, ixD_new, slA_l, slA_t, slA_new, addTD_t, addCD_l, mulCD_l, isbD_b, isnotbD_b, mSplitC_s, gLstC, gTr, ggSub, lstK_l, lstK_r, addLD_eq]
      refine ⟨_, by rw [← hw0]; exact int_sgn ha, by rw [S_len]; exact sl_of (Nat.le_trans (hlen.2 w0 List.mem_cons_self) hl), _, int_numL hb, by rw [S_len]; exact sl_of (by omega), by decide, _, _, rfl, ⟨by omega, big_1000 (lt_1000 hb), tbig⟩, ?_⟩
      show eqD (fD _) (fD (sgn (sgB l) a, (b : Int))) w _
      rw [eqD_ff]
      by_cases hn : norm (sgn (sgB l) a) b = (sgn (sgB l) a, (b : Int))
      · rw [decide_eq_true hn]
        have fr2 : Fr (sgn (sgB l) a, (b : Int)) := by
          rw [← hn]
          exact fr_norm (by omega)
        refine hk _ ⟨⟨fr2, ttop, by show (b : Int).natAbs < _; rw [Int.natAbs_natCast]; exact lt_1000 hb⟩, ?_⟩
        exact (Spl_two_own hw hw0).trans (frL_two zz hb0 hb1).symm
      · rw [decide_eq_false hn]
        exact hx fun p hp => hn (by
          have e1 := (told_two hp hu).1
          have := norm_self hp.1.fr
          rwa [e1] at this)
  | _ :: _ :: _, h2', _, _, _, _ => exact absurd (by simp) h2'
theorem ok__law_read {P : Program} {w : World} {K : PySem.W.Frag} {mg : Str → Option Value} {base : Heap} (T : DefAt K mg "_law_read" s__law_read ["_law_text"]) (B : Blt mg) (F__law_is_plain : FnAt P w K mg base CX0 1 "_law_is_plain" 1 sp__law_is_plain) (F__law_lowest : FnAt P w K mg base CX0 1 "_law_lowest" 2 sp__law_lowest) (b_NoDg : NoDg K) : FnAt P w K mg base CX0 2 "_law_read" 1 sp__law_read := (w__law_read T B F__law_is_plain F__law_lowest b_NoDg).imp v__law_read


end LW

namespace LW
open PySem PySem.Spec PyProof.Rows L2 RZ DL

open SX (S S_tl S_len S_cat)
open TL (numL)
theorem isNonD_rf {i : Nat} : isNonD (.rf i) = false := rfl
theorem low_fD (n : Nat) (p : Qp) : low n (fD p) = true := rfl
def sp__law_told (X : XF) : GF := fun ds w _ k => ∃ l : List Nat, ds = [.str (S l)] ∧ l.length ≤ 100000 ∧ (∀ p, Told l p → k (fD p) w) ∧ ((∀ p, ¬ Told l p) → k (.str "bad") w)
abbrev s__law_told : Stmt := topS 27
theorem sc__law_told : FnScope ["_law_text", "_law_told_here", "_law_caught", "error"] ["_law_text"] (defScope s__law_told) := ⟨rfl, rfl, rfl, by decide +kernel, rfl, by decide +kernel, by decide +kernel⟩
def g__law_told (X : XF) : GS := (gSeq (gAsg (gTup (gaCons (gC .non) (gaCons (gC .non) gaNil))) (ggTup 2 (ggCons (ggName 1) (ggCons (ggName 2) ggNil))))
  (gCut (gTry 3 2 (· ∈ X.raised) (gSet 1 (gCallX 1 (sp_fraction_in X) (gaCons (gVar 0) gaNil))))
  (gSeq (gIfS (gB (gBin isD (gVar 2) (gC .non))) (gRet (gVar 1)) gNext)
  (gSeq (gIfS (gOr (gNot (gTru (gCB (fIsE X) (gaCons (gVar 2) (gaCons (gC (.ob (.ref X.bf))) gaNil))))) (gNot (gTru (gCB (fIsE X) (gaCons (gVar 2) (gaCons (gC (.ob (.ty "ValueError"))) gaNil)))))) (gRet (gC (.str "other"))) gNext)
  (gSeq (gIfS (gTru (gCB (fIsET X) (gaCons (gVar 2) (gaCons (gTup (gaCons (gC (.ob (.ref X.badrow))) (gaCons (gC (.ob (.ref X.endless))) (gaCons (gC (.ob (.ref X.noname))) (gaCons (gC (.ob (.ref X.noneleft))) (gaCons (gC (.ob (.ref X.norate))) (gaCons (gC (.ob (.ref X.taken))) (gaCons (gC (.ob (.ref X.toomuch))) gaNil)))))))) gaNil)))) (gRet (gC (.str "other"))) gNext)
  (gRet (gC (.str "bad"))))))))
theorem w__law_told {P : Program} {w : World} {K : PySem.W.Frag} {mg : Str → Option Value} {base : Heap} (T : DefAt K mg "_law_told" s__law_told ["_law_text"]) (B : Blt mg) {X : XF} (XX : XFK K mg X) (F_fraction_in : FnAt P w K mg base (L2.CX P w) 3 "fraction_in" 1 (sp_fraction_in X)) (b_ValueError : mg "ValueError" = none) : FnAt P w K mg base CX0 4 "_law_told" 1 (sem0 4 (g__law_told X)) := by
  have nd := sc__law_told.nd
  exact T.fn0 sc__law_told (fun f cdv A outer s H E hr => (dss_cons (ds_asg (de_tup (da_cons de_non (da_cons de_non da_nil))) (dg_tup rfl (dgs_cons (dg_name (i := 1) nd rfl (by first | exact Or.inl rfl | exact Or.inr rfl)) (dgs_cons (dg_name (i := 2) nd rfl (by first | exact Or.inl rfl | exact Or.inr rfl)) dgs_nil))))
  (dss_cut (ds_try (i := 3) (j := 2) (P := (· ∈ X.raised)) rfl rfl rfl nd rfl rfl rfl rfl (by decide) ⟨by rfl, by decide, .inl (XX.own (x := "RoyalError") (C := X.royal) (by simp [XF.all]))⟩ tk0 XX.royal (fun W pn xe tk1 => (dssw_one (dsw_set (i := 1) nd rfl (by first | exact Or.inl rfl | exact Or.inr rfl) (dew_callX F_fraction_in tk1 hr (by rfl) (fun E => (da_cons (de_var 0) da_nil)))))))
  (dss_cons (ds_if (dt_is (de_var 2) de_non) (dss_one (ds_ret (de_var 1))) dss_nil)
  (dss_cons (ds_if (dt_w (dw_or (dt_not (dt_truth (de_isE XX B (by rfl) (da_cons (de_var 2) (da_cons (de_own (by rfl) (XX.own (x := "BadFraction") (C := X.bf) (by simp [XF.all]))) da_nil))))) (dw_or1 (dt_not (dt_truth (de_isE XX B (by rfl) (da_cons (de_var 2) (da_cons (de_type (by rfl) b_ValueError (by decide +kernel)) da_nil)))))))) (dss_one (ds_ret de_str)) dss_nil)
  (dss_cons (ds_if (dt_truth (de_isET XX B (by rfl) (da_cons (de_var 2) (da_cons (de_tup (da_cons (de_own (by rfl) (XX.own (x := "BadRow") (C := X.badrow) (by simp [XF.all]))) (da_cons (de_own (by rfl) (XX.own (x := "Endless") (C := X.endless) (by simp [XF.all]))) (da_cons (de_own (by rfl) (XX.own (x := "NoName") (C := X.noname) (by simp [XF.all]))) (da_cons (de_own (by rfl) (XX.own (x := "NoneLeft") (C := X.noneleft) (by simp [XF.all]))) (da_cons (de_own (by rfl) (XX.own (x := "NoRate") (C := X.norate) (by simp [XF.all]))) (da_cons (de_own (by rfl) (XX.own (x := "Taken") (C := X.taken) (by simp [XF.all]))) (da_cons (de_own (by rfl) (XX.own (x := "TooMuch") (C := X.toomuch) (by simp [XF.all]))) da_nil)))))))) da_nil)))) (dss_one (ds_ret de_str)) dss_nil)
  (dss_one (ds_ret de_str))))))))

theorem v__law_told (X : XF) : ∀ ds w kx k, sp__law_told X ds w kx k → gTr (sem0 4 (g__law_told X)) ds w kx k := by
  rintro ds w kx k ⟨l, rfl, hl, hk, hx⟩
  have e : rho 4 [D.str (S l)] = [some (.str (S l)), none, none, none] := rfl
  simp only [g__law_told, e, gTry, gCallX, sp_fraction_in, sem0, List.map_cons, List.map_nil, List.length_cons, List.length_nil, gSeq, gNext, gRet, gRetN, gIfS, gSet, gPar, gAsg, gDrop, gVar, gC, gBin, gUn, gB, gTru, gAnd, gOr, gNot, gAndV, gOrV, gNotV, gIf, gChain, gaNil, gaCons, DL.gTup, gLst, gCB, gCall0, gAug, addD_i, addD_s, addD_l, addD_t, subD_i, mulD_i, mulD_l, fdivD_i, modD_i, powD_i, ltD_i, ltD_s, leD_i, gtD_i, geD_i, isD_n, isnotD_n, isNonD_non, isNonD_bl, isNonD_int, isNonD_str, isNonD_lst, isNonD_tup, negD_i, iaddD_i, truD_non, truD_bl, truD_int, truD_str, truD_lst, truD_tup, someK_some, ixD_l, ixD_t, fAbs_i, fInt_i, fInt_b, fMin2_i, fLen_l, fLen_t, fLen_s, fList_l, fList_t, fTuple_l, fTuple_t, optBK_some, fIsi_non, fIsi_bl, fIsi_int, fIsi_str, fIsi_lst, fIsi_tup, List.getElem?_cons_zero, List.getElem?_cons_succ, List.set_cons_zero, List.set_cons_succ, DL.ggName, ggNil0, ggCons1, ggTup2, ggTup3, gFor, giSeq, gLc, gYes, wipeR, true_and, and_true, at_0, at_1, at_2, kit_int_int, kit_bool_int, kit_str_int, kit_non_int, kit_list_int, kit_tuple_int, kit_int_bool, kit_bool_bool, kit_str_bool, kit_non_bool, kit_list_bool, kit_tuple_bool, kit_int_str, kit_bool_str, kit_str_str, kit_non_str, kit_list_str, kit_tuple_str, kit_int_list, kit_bool_list, kit_str_list, kit_non_list, kit_list_list, kit_tuple_list, kit_int_tuple, kit_bool_tuple, kit_str_tuple, kit_non_tuple, kit_list_tuple, kit_tuple_tuple, eqD_i, neD_i, eqD_s, neD_s, eqD_f, neD_f, Nat.zero_add, Nat.reduceAdd, nc0, nc1, nc2, nc3, nc4, nc5, nc6, nc7, nc8, nc9, eq_self, decide_true, decide_false, Int.reduceEq, Int.reduceLT, Int.reduceLE, Int.reduceNeg, Bool.not_true, Bool.not_false, Bool.false_eq_true, if_true, if_false, ↓reduceIte, false_and, and_false, List.all_cons, List.all_nil, List.any_cons, List.any_nil, id_eq, Bool.and_true, Bool.true_and, Bool.or_false, Bool.false_or, Bool.and_false, Bool.false_and, gCut, eqD_b, neD_b, giZip, reduceCtorEq, Bool.true_eq_false, Bool.false_eq_true, gRevL, gSl, goNone, goSome, slD_l, ne_eq, not_false_eq_true, not_true_eq_false, gBM, isTy_l, isTy_s, new_at, new_set, isTy_new, cellK_new, append_new, popAt_new, gFrz_eq, frzK_new, fLen_new, fTuple_new, ixD_new, slA_l, slA_t, slA_new, addTD_t, addCD_l, mulCD_l, isbD_b, isnotbD_b, mSplitC_s, gLstC, gTr, ggSub, lstK_l, lstK_r, addLD_eq]
  refine ⟨by decide, fun ρ w' => (∃ p, Told l p ∧ ρ = [some (.str (S l)), some (fD p), some .non, none] ∧ w' = w) ∨ ((∀ p, ¬ Told l p) ∧ ρ = [some (.str (S l)), some .non, some (.rf w.M.length), none] ∧ w' = ⟨w.M ++ [.exc X.bf], w.n⟩), ⟨by decide, l, rfl, hl, fun p hp => .inl ⟨p, hp, rfl, rfl⟩, fun h => ⟨ra_bf X, .inr ⟨h, rfl, rfl⟩⟩⟩, ?_⟩
  rintro _ _ (⟨p, hp, rfl, rfl⟩ | ⟨h, rfl, rfl⟩)
  · simp only [sem0, List.map_cons, List.map_nil, List.length_cons, List.length_nil, gSeq, gNext, gRet, gRetN, gIfS, gSet, gPar, gAsg, gDrop, gVar, gC, gBin, gUn, gB, gTru, gAnd, gOr, gNot, gAndV, gOrV, gNotV, gIf, gChain, gaNil, gaCons, DL.gTup, gLst, gCB, gCall0, gAug, addD_i, addD_s, addD_l, addD_t, subD_i, mulD_i, mulD_l, fdivD_i, modD_i, powD_i, ltD_i, ltD_s, leD_i, gtD_i, geD_i, isD_n, isnotD_n, isNonD_non, isNonD_bl, isNonD_int, isNonD_str, isNonD_lst, isNonD_tup, negD_i, iaddD_i, truD_non, truD_bl, truD_int, truD_str, truD_lst, truD_tup, someK_some, ixD_l, ixD_t, fAbs_i, fInt_i, fInt_b, fMin2_i, fLen_l, fLen_t, fLen_s, fList_l, fList_t, fTuple_l, fTuple_t, optBK_some, fIsi_non, fIsi_bl, fIsi_int, fIsi_str, fIsi_lst, fIsi_tup, List.getElem?_cons_zero, List.getElem?_cons_succ, List.set_cons_zero, List.set_cons_succ, DL.ggName, ggNil0, ggCons1, ggTup2, ggTup3, gFor, giSeq, gLc, gYes, wipeR, true_and, and_true, at_0, at_1, at_2, kit_int_int, kit_bool_int, kit_str_int, kit_non_int, kit_list_int, kit_tuple_int, kit_int_bool, kit_bool_bool, kit_str_bool, kit_non_bool, kit_list_bool, kit_tuple_bool, kit_int_str, kit_bool_str, kit_str_str, kit_non_str, kit_list_str, kit_tuple_str, kit_int_list, kit_bool_list, kit_str_list, kit_non_list, kit_list_list, kit_tuple_list, kit_int_tuple, kit_bool_tuple, kit_str_tuple, kit_non_tuple, kit_list_tuple, kit_tuple_tuple, eqD_i, neD_i, eqD_s, neD_s, eqD_f, neD_f, Nat.zero_add, Nat.reduceAdd, nc0, nc1, nc2, nc3, nc4, nc5, nc6, nc7, nc8, nc9, eq_self, decide_true, decide_false, Int.reduceEq, Int.reduceLT, Int.reduceLE, Int.reduceNeg, Bool.not_true, Bool.not_false, Bool.false_eq_true, if_true, if_false, ↓reduceIte, false_and, and_false, List.all_cons, List.all_nil, List.any_cons, List.any_nil, id_eq, Bool.and_true, Bool.true_and, Bool.or_false, Bool.false_or, Bool.and_false, Bool.false_and, gCut, eqD_b, neD_b, giZip, reduceCtorEq, Bool.true_eq_false, Bool.false_eq_true, gRevL, gSl, goNone, goSome, slD_l, ne_eq, not_false_eq_true, not_true_eq_false, gBM, isTy_l, isTy_s, new_at, new_set, isTy_new, cellK_new, append_new, popAt_new, gFrz_eq, frzK_new, fLen_new, fTuple_new, ixD_new, slA_l, slA_t, slA_new, addTD_t, addCD_l, mulCD_l, isbD_b, isnotbD_b, mSplitC_s, gLstC, gTr, ggSub, lstK_l, lstK_r, addLD_eq]
    exact ⟨⟨[], (List.append_nil _).symm⟩, low_fD _ p, hk p hp⟩
  · simp only [isNonD_rf, fIsE, fIsET, isEVs, is_ve, optK_some, excK_new, Bool.or_false, Bool.or_true, Bool.false_or, Bool.true_or, is_bf_bf, is_bf_taken, is_bf_noname, is_bf_toomuch, is_bf_norate, is_bf_noneleft, is_bf_endless, is_bf_badrow, is_bf_royal, ra_bf, is_taken_bf, is_taken_taken, is_taken_noname, is_taken_toomuch, is_taken_norate, is_taken_noneleft, is_taken_endless, is_taken_badrow, is_taken_royal, ra_taken, is_noname_bf, is_noname_taken, is_noname_noname, is_noname_toomuch, is_noname_norate, is_noname_noneleft, is_noname_endless, is_noname_badrow, is_noname_royal, ra_noname, is_toomuch_bf, is_toomuch_taken, is_toomuch_noname, is_toomuch_toomuch, is_toomuch_norate, is_toomuch_noneleft, is_toomuch_endless, is_toomuch_badrow, is_toomuch_royal, ra_toomuch, is_norate_bf, is_norate_taken, is_norate_noname, is_norate_toomuch, is_norate_norate, is_norate_noneleft, is_norate_endless, is_norate_badrow, is_norate_royal, ra_norate, is_noneleft_bf, is_noneleft_taken, is_noneleft_noname, is_noneleft_toomuch, is_noneleft_norate, is_noneleft_noneleft, is_noneleft_endless, is_noneleft_badrow, is_noneleft_royal, ra_noneleft, sem0, List.map_cons, List.map_nil, List.length_cons, List.length_nil, gSeq, gNext, gRet, gRetN, gIfS, gSet, gPar, gAsg, gDrop, gVar, gC, gBin, gUn, gB, gTru, gAnd, gOr, gNot, gAndV, gOrV, gNotV, gIf, gChain, gaNil, gaCons, DL.gTup, gLst, gCB, gCall0, gAug, addD_i, addD_s, addD_l, addD_t, subD_i, mulD_i, mulD_l, fdivD_i, modD_i, powD_i, ltD_i, ltD_s, leD_i, gtD_i, geD_i, isD_n, isnotD_n, isNonD_non, isNonD_bl, isNonD_int, isNonD_str, isNonD_lst, isNonD_tup, negD_i, iaddD_i, truD_non, truD_bl, truD_int, truD_str, truD_lst, truD_tup, someK_some, ixD_l, ixD_t, fAbs_i, fInt_i, fInt_b, fMin2_i, fLen_l, fLen_t, fLen_s, fList_l, fList_t, fTuple_l, fTuple_t, optBK_some, fIsi_non, fIsi_bl, fIsi_int, fIsi_str, fIsi_lst, fIsi_tup, List.getElem?_cons_zero, List.getElem?_cons_succ, List.set_cons_zero, List.set_cons_succ, DL.ggName, ggNil0, ggCons1, ggTup2, ggTup3, gFor, giSeq, gLc, gYes, wipeR, true_and, and_true, at_0, at_1, at_2, kit_int_int, kit_bool_int, kit_str_int, kit_non_int, kit_list_int, kit_tuple_int, kit_int_bool, kit_bool_bool, kit_str_bool, kit_non_bool, kit_list_bool, kit_tuple_bool, kit_int_str, kit_bool_str, kit_str_str, kit_non_str, kit_list_str, kit_tuple_str, kit_int_list, kit_bool_list, kit_str_list, kit_non_list, kit_list_list, kit_tuple_list, kit_int_tuple, kit_bool_tuple, kit_str_tuple, kit_non_tuple, kit_list_tuple, kit_tuple_tuple, eqD_i, neD_i, eqD_s, neD_s, eqD_f, neD_f, Nat.zero_add, Nat.reduceAdd, nc0, nc1, nc2, nc3, nc4, nc5, nc6, nc7, nc8, nc9, eq_self, decide_true, decide_false, Int.reduceEq, Int.reduceLT, Int.reduceLE, Int.reduceNeg, Bool.not_true, Bool.not_false, Bool.false_eq_true, if_true, if_false, ↓reduceIte, false_and, and_false, List.all_cons, List.all_nil, List.any_cons, List.any_nil, id_eq, Bool.and_true, Bool.true_and, Bool.or_false, Bool.false_or, Bool.and_false, Bool.false_and, gCut, eqD_b, neD_b, giZip, reduceCtorEq, Bool.true_eq_false, Bool.false_eq_true, gRevL, gSl, goNone, goSome, slD_l, ne_eq, not_false_eq_true, not_true_eq_false, gBM, isTy_l, isTy_s, new_at, new_set, isTy_new, cellK_new, append_new, popAt_new, gFrz_eq, frzK_new, fLen_new, fTuple_new, ixD_new, slA_l, slA_t, slA_new, addTD_t, addCD_l, mulCD_l, isbD_b, isnotbD_b, mSplitC_s, gLstC, gTr, ggSub, lstK_l, lstK_r, addLD_eq]

    exact ⟨by decide, ⟨_, rfl⟩, rfl, hx h⟩
theorem ok__law_told {P : Program} {w : World} {K : PySem.W.Frag} {mg : Str → Option Value} {base : Heap} (T : DefAt K mg "_law_told" s__law_told ["_law_text"]) (B : Blt mg) {X : XF} (XX : XFK K mg X) (F_fraction_in : FnAt P w K mg base (L2.CX P w) 3 "fraction_in" 1 (sp_fraction_in X)) (b_ValueError : mg "ValueError" = none) : FnAt P w K mg base CX0 4 "_law_told" 1 (sp__law_told X) := (w__law_told T B XX F_fraction_in b_ValueError).trunc.imp (v__law_told X)


def ShortD (d : D) : Prop := ∃ z : Str, d = .str z ∧ z.length ≤ 20000
theorem str_len (a b : Str) : (a ++ b).length = a.length + b.length := by rw [TL.len_tl, TL.len_tl, TL.len_tl, TL.tl_append, List.length_append]
theorem cut_lenS (z : Str) (lo hi : Option Int) : (L2.cutS z lo hi).length ≤ z.length := by
  rw [TL.len_tl z]
  unfold L2.cutS
  rw [show (⟨((z.cps.toList.drop (HT.sIx z.length 0 lo)).take (HT.sIx z.length z.length hi - HT.sIx z.length 0 lo)).toArray⟩ : Str) = S ((z.cps.toList.drop (HT.sIx z.length 0 lo)).take (HT.sIx z.length z.length hi - HT.sIx z.length 0 lo)) from rfl, S_len, List.length_take, List.length_drop]
  show _ ≤ z.cps.toList.length
  omega
theorem ix_str {z : Str} {r : Int} {w : Wd} {k : KD} (h0 : 0 ≤ r) (h1 : r < (z.length : Int)) (hz : z.length ≤ 100000) (hk : ∀ c, k (.str ⟨#[c]⟩) w) : ixD (.str z) (.int r) w k := by
  obtain ⟨x, hx, e⟩ := at_some (xs := z.cps.toList) h0 (by rw [TL.len_tl] at h1; exact h1)
  refine ⟨sl_of hz, ?_⟩
  rw [e]
  exact hk x
theorem one_len (c : Nat) : (⟨#[c]⟩ : Str).length = 1 := rfl
def sp__law_bent : GF := fun ds w _ k => ∃ (c n : Nat) (l : List Nat), ds = [.st, .str (S l)] ∧ (w.n = some c ∧ n + 5 ≤ c) ∧ l.length ≤ 2003 ∧ ∀ l' c', l'.length ≤ 20000 → n ≤ c' → k (.str (S l')) ⟨w.M, some c'⟩
abbrev s__law_bent : Stmt := topS 28
theorem sc__law_bent : FnScope ["_law_state", "_law_text", "_law_at", "_law_some", "_law_every", "_law_sign"] ["_law_state", "_law_text"] (defScope s__law_bent) := ⟨rfl, rfl, rfl, by decide +kernel, rfl, by decide +kernel, by decide +kernel⟩
def g__law_bent : GS := (gSeq (gSet 2 (gCall0 2 sp__law_take (gaCons (gVar 0) (gaCons (gBin addD (gCB fLen (gaCons (gVar 1) gaNil)) (gC (.int 1))) gaNil))))
  (gSeq (gSet 3 (gLst (gaCons (gBin addD (gSl slS (gVar 1) goNone (goSome (gVar 2))) (gSl slS (gVar 1) (goSome (gBin addD (gVar 2) (gC (.int 1)))) goNone)) (gaCons (gBin addD (gBin addD (gSl slS (gVar 1) goNone (goSome (gVar 2))) (gSl slS (gVar 1) (goSome (gVar 2)) (goSome (gBin addD (gVar 2) (gC (.int 1)))))) (gSl slS (gVar 1) (goSome (gVar 2)) goNone)) (gaCons (gBin addD (gC (.str "0")) (gVar 1)) (gaCons (gBin addD (gC (.str "-")) (gVar 1)) (gaCons (gBin addD (gC (.str "+")) (gVar 1)) gaNil)))))))
  (gSeq (gSet 3 (gBin addD (gVar 3) (gLst (gaCons (gBin addD (gVar 1) (gC (.str "/1"))) (gaCons (gBin addD (gVar 1) (gC (.str "/"))) (gaCons (gBin addD (gC (.str "/")) (gVar 1)) (gaCons (gBin addD (gVar 1) (gC (.str " "))) (gaCons (gBin addD (gC (.str " ")) (gVar 1)) (gaCons (gBin addD (gVar 1) (gC (.str "/0"))) (gaCons (gBin addD (gVar 1) (gC (.str "0"))) (gaCons (gBM "str" mUpper (gVar 1) gaNil) gaNil)))))))))))
  (gSeq (gSet 4 (gC (.str " !\"#$&'()*+,-./0123456789:;<=>?@ABCDEFGHIJKLMNOPQRSTUVWXYZ[\\]^_`abcdefghijklmnopqrstuvwxyz{|}~")))
  (gSeq (gSet 5 (gBin ixD (gLst (gaCons (gBin ixD (gC (.str "0123456789/-+ ._eE'x")) (gCall0 2 sp__law_take (gaCons (gVar 0) (gaCons (gC (.int 20)) gaNil)))) (gaCons (gBin ixD (gVar 4) (gCall0 2 sp__law_take (gaCons (gVar 0) (gaCons (gCB fLen (gaCons (gVar 4) gaNil)) gaNil)))) gaNil))) (gCall0 2 sp__law_take (gaCons (gVar 0) (gaCons (gC (.int 2)) gaNil)))))
  (gSeq (gSet 3 (gBin addD (gVar 3) (gLst (gaCons (gBin addD (gBin addD (gSl slS (gVar 1) goNone (goSome (gVar 2))) (gVar 5)) (gSl slS (gVar 1) (goSome (gVar 2)) goNone)) (gaCons (gBin addD (gBin addD (gSl slS (gVar 1) goNone (goSome (gVar 2))) (gVar 5)) (gSl slS (gVar 1) (goSome (gBin addD (gVar 2) (gC (.int 1)))) goNone)) (gaCons (gRepl "/" "//" (gVar 1)) gaNil))))))
  (gSeq (gSet 3 (gBin addD (gVar 3) (gLst (gaCons (gRepl "/" "/-" (gVar 1)) (gaCons (gRepl "/" "/0" (gVar 1)) (gaCons (gRepl "/" " / " (gVar 1)) (gaCons (gVar 1) gaNil)))))))
  (gRet (gBin ixD (gVar 3) (gCall0 2 sp__law_take (gaCons (gVar 0) (gaCons (gCB fLen (gaCons (gVar 3) gaNil)) gaNil))))))))))))
theorem w__law_bent {P : Program} {w : World} {K : PySem.W.Frag} {mg : Str → Option Value} {base : Heap} (T : DefAt K mg "_law_bent" s__law_bent ["_law_state", "_law_text"]) (B : Blt mg) (F__law_take : FnAt P w K mg base CX0 1 "_law_take" 2 sp__law_take) : FnAt P w K mg base CX0 2 "_law_bent" 2 (sem0 6 g__law_bent) := by
  have nd := sc__law_bent.nd
  exact T.fn0 sc__law_bent (fun f cdv A outer s H E hr => (dss_cons (ds_set (i := 2) nd rfl (by first | exact Or.inl rfl | exact Or.inr rfl) (de_call0 F__law_take hr (by rfl) (da_cons (de_var 0) (da_cons (de_add (de_len B (by rfl) (da_cons (de_var 1) da_nil)) de_int) da_nil))))
  (dss_tok (ds1_set (i := 3) nd rfl (by first | exact Or.inl rfl | exact Or.inr rfl) (de1_lst (da1_skip (de_add (de_slS (de_var 1) do_none (do_some (de_var 2))) (de_slS (de_var 1) (do_some (de_add (de_var 2) de_int)) do_none)) (da1_skip (de_add (de_add (de_slS (de_var 1) do_none (do_some (de_var 2))) (de_slS (de_var 1) (do_some (de_var 2)) (do_some (de_add (de_var 2) de_int)))) (de_slS (de_var 1) (do_some (de_var 2)) do_none)) (da1_here (de1_add de1_str (de_var 1)) (da_cons (de_add de_str (de_var 1)) (da_cons (de_add de_str (de_var 1)) da_nil)))))))
  (dsst_cons (dst_of (ds_set (i := 3) nd rfl (by first | exact Or.inl rfl | exact Or.inr rfl) (de_add (de_var 3) (de_lst (da_cons (de_add (de_var 1) de_str) (da_cons (de_add (de_var 1) de_str) (da_cons (de_add de_str (de_var 1)) (da_cons (de_add (de_var 1) de_str) (da_cons (de_add de_str (de_var 1)) (da_cons (de_add (de_var 1) de_str) (da_cons (de_add (de_var 1) de_str) (da_cons (de_bm0 PySem.F.plainAttrs_str PySem.F.slot_str_upper (by rfl) mt_upper ok_upper (de_var 1) (by rfl) (by rfl)) da_nil))))))))))))
  (dsst_cons (dst_of (ds_set (i := 4) nd rfl (by first | exact Or.inl rfl | exact Or.inr rfl) de_str))
  (dsst_cons (dst_of (ds_set (i := 5) nd rfl (by first | exact Or.inl rfl | exact Or.inr rfl) (de_ix (de_lst (da_cons (de_ix de_str (de_call0 F__law_take hr (by rfl) (da_cons (de_var 0) (da_cons de_int da_nil)))) (da_cons (de_ix (de_var 4) (de_call0 F__law_take hr (by rfl) (da_cons (de_var 0) (da_cons (de_len B (by rfl) (da_cons (de_var 4) da_nil)) da_nil)))) da_nil))) (de_call0 F__law_take hr (by rfl) (da_cons (de_var 0) (da_cons de_int da_nil))))))
  (dsst_cons (dst_set (i := 3) nd rfl (by first | exact Or.inl rfl | exact Or.inr rfl) (det_add (det_of (de_var 3)) (det_lst (dat_cons (det_of (de_add (de_add (de_slS (de_var 1) do_none (do_some (de_var 2))) (de_var 5)) (de_slS (de_var 1) (do_some (de_var 2)) do_none))) (dat_cons (det_of (de_add (de_add (de_slS (de_var 1) do_none (do_some (de_var 2))) (de_var 5)) (de_slS (de_var 1) (do_some (de_add (de_var 2) de_int)) do_none))) (dat_cons (det_repl (y := "/") (z := "//") (de_var 1) (by decide +kernel) (by rfl) (by rfl) (by rfl)) dat_nil))))))
  (dsst_cons (dst_set (i := 3) nd rfl (by first | exact Or.inl rfl | exact Or.inr rfl) (det_add (det_of (de_var 3)) (det_lst (dat_cons (det_repl (y := "/") (z := "/-") (de_var 1) (by decide +kernel) (by rfl) (by rfl) (by rfl)) (dat_cons (det_repl (y := "/") (z := "/0") (de_var 1) (by decide +kernel) (by rfl) (by rfl) (by rfl)) (dat_cons (det_repl (y := "/") (z := " / ") (de_var 1) (by decide +kernel) (by rfl) (by rfl) (by rfl)) (dat_cons (det_of (de_var 1)) dat_nil)))))))
  (dsst_of (dss_one (ds_ret (de_ix (de_var 3) (de_call0 F__law_take hr (by rfl) (da_cons (de_var 0) (da_cons (de_len B (by rfl) (da_cons (de_var 3) da_nil)) da_nil)))))))))))))))

theorem v__law_bent : ∀ ds w kx k, sp__law_bent ds w kx k → sem0 6 g__law_bent ds w kx k := by
  rintro ds w kx k ⟨c, n, l, rfl, ⟨hn, hc⟩, hl, hk⟩
  have e : rho 6 [D.st, D.str (S l)] = [some .st, some (.str (S l)), none, none, none, none] := rfl
  simp only [g__law_bent, e, slS, gRepl, sp__law_take, sem0, List.map_cons, List.map_nil, List.length_cons, List.length_nil, gSeq, gNext, gRet, gRetN, gIfS, gSet, gPar, gAsg, gDrop, gVar, gC, gBin, gUn, gB, gTru, gAnd, gOr, gNot, gAndV, gOrV, gNotV, gIf, gChain, gaNil, gaCons, DL.gTup, gLst, gCB, gCall0, gAug, addD_i, addD_s, addD_l, addD_t, subD_i, mulD_i, mulD_l, fdivD_i, modD_i, powD_i, ltD_i, ltD_s, leD_i, gtD_i, geD_i, isD_n, isnotD_n, isNonD_non, isNonD_bl, isNonD_int, isNonD_str, isNonD_lst, isNonD_tup, negD_i, iaddD_i, truD_non, truD_bl, truD_int, truD_str, truD_lst, truD_tup, someK_some, ixD_l, ixD_t, fAbs_i, fInt_i, fInt_b, fMin2_i, fLen_l, fLen_t, fLen_s, fList_l, fList_t, fTuple_l, fTuple_t, optBK_some, fIsi_non, fIsi_bl, fIsi_int, fIsi_str, fIsi_lst, fIsi_tup, List.getElem?_cons_zero, List.getElem?_cons_succ, List.set_cons_zero, List.set_cons_succ, DL.ggName, ggNil0, ggCons1, ggTup2, ggTup3, gFor, giSeq, gLc, gYes, wipeR, true_and, and_true, at_0, at_1, at_2, kit_int_int, kit_bool_int, kit_str_int, kit_non_int, kit_list_int, kit_tuple_int, kit_int_bool, kit_bool_bool, kit_str_bool, kit_non_bool, kit_list_bool, kit_tuple_bool, kit_int_str, kit_bool_str, kit_str_str, kit_non_str, kit_list_str, kit_tuple_str, kit_int_list, kit_bool_list, kit_str_list, kit_non_list, kit_list_list, kit_tuple_list, kit_int_tuple, kit_bool_tuple, kit_str_tuple, kit_non_tuple, kit_list_tuple, kit_tuple_tuple, eqD_i, neD_i, eqD_s, neD_s, eqD_f, neD_f, Nat.zero_add, Nat.reduceAdd, nc0, nc1, nc2, nc3, nc4, nc5, nc6, nc7, nc8, nc9, eq_self, decide_true, decide_false, Int.reduceEq, Int.reduceLT, Int.reduceLE, Int.reduceNeg, Bool.not_true, Bool.not_false, Bool.false_eq_true, if_true, if_false, ↓reduceIte, false_and, and_false, List.all_cons, List.all_nil, List.any_cons, List.any_nil, id_eq, Bool.and_true, Bool.true_and, Bool.or_false, Bool.false_or, Bool.and_false, Bool.false_and, gCut, eqD_b, neD_b, giZip, reduceCtorEq, Bool.true_eq_false, Bool.false_eq_true, gRevL, gSl, goNone, goSome, slD_l, ne_eq, not_false_eq_true, not_true_eq_false, gBM, isTy_l, isTy_s, new_at, new_set, isTy_new, cellK_new, append_new, popAt_new, gFrz_eq, frzK_new, fLen_new, fTuple_new, ixD_new, slA_l, slA_t, slA_new, addTD_t, addCD_l, mulCD_l, isbD_b, isnotbD_b, mSplitC_s, gLstC, gTr, ggSub, lstK_l, lstK_r, addLD_eq]
  have hsl : (S l).length ≤ 2003 := by rw [S_len]; exact hl
  have hss : (S l).length ≤ sizeLine := sl_of (by omega)
  have z1 : ("0" : Str).length = 1 := by decide +kernel
  have z2 : ("-" : Str).length = 1 := by decide +kernel
  have z3 : ("+" : Str).length = 1 := by decide +kernel
  have z4 : ("/1" : Str).length = 2 := by decide +kernel
  have z5 : ("/" : Str).length = 1 := by decide +kernel
  have z6 : (" " : Str).length = 1 := by decide +kernel
  have z7 : ("/0" : Str).length = 2 := by decide +kernel
  have z8 : ("//" : Str).length = 2 := by decide +kernel
  have z9 : ("/-" : Str).length = 2 := by decide +kernel
  have z10 : (" / " : Str).length = 3 := by decide +kernel
  have hcut := fun lo hi => cut_lenS (S l) lo hi
  have hup := PyProof.Rows.len_upper (S l)
  have hr1 := TK.replace_len (S l) "/" "//"
  have hr2 := TK.replace_len (S l) "/" "/-"
  have hr3 := TK.replace_len (S l) "/" "/0"
  have hr4 := TK.replace_len (S l) "/" " / "
  rw [z8] at hr1
  rw [z9] at hr2
  rw [z7] at hr3
  rw [z10] at hr4
  refine ⟨hss, take_use (n + 4) hn (by omega) ⟨by omega, log_of (by omega)⟩ fun r1 c1 h0 h1 hc1 => ?_⟩
  have k1 := hcut none (some r1)
  have k2 := hcut (some (r1 + 1)) none
  have k3 := hcut (some r1) (some (r1 + 1))
  have k4 := hcut (some r1) none
  simp only [str_len, z1, z2, z3, z4, z5, z6, z7, z8, z9, z10, mUpper, sem0, List.map_cons, List.map_nil, List.length_cons, List.length_nil, gSeq, gNext, gRet, gRetN, gIfS, gSet, gPar, gAsg, gDrop, gVar, gC, gBin, gUn, gB, gTru, gAnd, gOr, gNot, gAndV, gOrV, gNotV, gIf, gChain, gaNil, gaCons, DL.gTup, gLst, gCB, gCall0, gAug, addD_i, addD_s, addD_l, addD_t, subD_i, mulD_i, mulD_l, fdivD_i, modD_i, powD_i, ltD_i, ltD_s, leD_i, gtD_i, geD_i, isD_n, isnotD_n, isNonD_non, isNonD_bl, isNonD_int, isNonD_str, isNonD_lst, isNonD_tup, negD_i, iaddD_i, truD_non, truD_bl, truD_int, truD_str, truD_lst, truD_tup, someK_some, ixD_l, ixD_t, fAbs_i, fInt_i, fInt_b, fMin2_i, fLen_l, fLen_t, fLen_s, fList_l, fList_t, fTuple_l, fTuple_t, optBK_some, fIsi_non, fIsi_bl, fIsi_int, fIsi_str, fIsi_lst, fIsi_tup, List.getElem?_cons_zero, List.getElem?_cons_succ, List.set_cons_zero, List.set_cons_succ, DL.ggName, ggNil0, ggCons1, ggTup2, ggTup3, gFor, giSeq, gLc, gYes, wipeR, true_and, and_true, at_0, at_1, at_2, kit_int_int, kit_bool_int, kit_str_int, kit_non_int, kit_list_int, kit_tuple_int, kit_int_bool, kit_bool_bool, kit_str_bool, kit_non_bool, kit_list_bool, kit_tuple_bool, kit_int_str, kit_bool_str, kit_str_str, kit_non_str, kit_list_str, kit_tuple_str, kit_int_list, kit_bool_list, kit_str_list, kit_non_list, kit_list_list, kit_tuple_list, kit_int_tuple, kit_bool_tuple, kit_str_tuple, kit_non_tuple, kit_list_tuple, kit_tuple_tuple, eqD_i, neD_i, eqD_s, neD_s, eqD_f, neD_f, Nat.zero_add, Nat.reduceAdd, nc0, nc1, nc2, nc3, nc4, nc5, nc6, nc7, nc8, nc9, eq_self, decide_true, decide_false, Int.reduceEq, Int.reduceLT, Int.reduceLE, Int.reduceNeg, Bool.not_true, Bool.not_false, Bool.false_eq_true, if_true, if_false, ↓reduceIte, false_and, and_false, List.all_cons, List.all_nil, List.any_cons, List.any_nil, id_eq, Bool.and_true, Bool.true_and, Bool.or_false, Bool.false_or, Bool.and_false, Bool.false_and, gCut, eqD_b, neD_b, giZip, reduceCtorEq, Bool.true_eq_false, Bool.false_eq_true, gRevL, gSl, goNone, goSome, slD_l, ne_eq, not_false_eq_true, not_true_eq_false, gBM, isTy_l, isTy_s, new_at, new_set, isTy_new, cellK_new, append_new, popAt_new, gFrz_eq, frzK_new, fLen_new, fTuple_new, ixD_new, slA_l, slA_t, slA_new, addTD_t, addCD_l, mulCD_l, isbD_b, isnotbD_b, mSplitC_s, gLstC, gTr, ggSub, lstK_l, lstK_r, addLD_eq]
  repeat (refine And.intro (by first | assumption | exact sl_of (by omega) | omega | decide) ?_)
  have y1 : ("0123456789/-+ ._eE'x" : Str).length = 20 := by decide +kernel
  obtain ⟨ev, hev⟩ : ∃ ev : Str, (" !\"#$&'()*+,-./0123456789:;<=>?@ABCDEFGHIJKLMNOPQRSTUVWXYZ[\\]^_`abcdefghijklmnopqrstuvwxyz{|}~" : Str) = ev := ⟨_, rfl⟩
  have y2 : ev.length = 94 := by rw [← hev]; decide +kernel
  rw [hev, y2]
  refine take_use (n + 3) rfl (by omega) ⟨by decide, log_of (by decide)⟩ fun r2 c2 h2 h3 hc2 => ?_
  refine ix_str h2 (by rw [y1]; exact h3) (by rw [y1]; decide) fun a => ?_
  refine ⟨by decide, take_use (n + 2) rfl (by omega) ⟨by decide, log_of (by decide)⟩ fun r3 c3 h4 h5 hc3 => ?_⟩
  refine ix_str h4 (by rw [y2]; exact h5) (by rw [y2]; decide) fun b => ?_
  refine ⟨by decide, take_use (n + 1) rfl (by omega) ⟨by decide, log_of (by decide)⟩ fun r4 c4 h6 h7 hc4 => ?_⟩
  refine ix_all (fun d => ∃ x : Nat, d = .str ⟨#[x]⟩) h6 h7 (all_cons ⟨_, rfl⟩ (all_cons ⟨_, rfl⟩ all_nil)) ?_
  rintro d ⟨x, rfl⟩
  simp only [str_len, one_len, List.cons_append, List.nil_append, sem0, List.map_cons, List.map_nil, List.length_cons, List.length_nil, gSeq, gNext, gRet, gRetN, gIfS, gSet, gPar, gAsg, gDrop, gVar, gC, gBin, gUn, gB, gTru, gAnd, gOr, gNot, gAndV, gOrV, gNotV, gIf, gChain, gaNil, gaCons, DL.gTup, gLst, gCB, gCall0, gAug, addD_i, addD_s, addD_l, addD_t, subD_i, mulD_i, mulD_l, fdivD_i, modD_i, powD_i, ltD_i, ltD_s, leD_i, gtD_i, geD_i, isD_n, isnotD_n, isNonD_non, isNonD_bl, isNonD_int, isNonD_str, isNonD_lst, isNonD_tup, negD_i, iaddD_i, truD_non, truD_bl, truD_int, truD_str, truD_lst, truD_tup, someK_some, ixD_l, ixD_t, fAbs_i, fInt_i, fInt_b, fMin2_i, fLen_l, fLen_t, fLen_s, fList_l, fList_t, fTuple_l, fTuple_t, optBK_some, fIsi_non, fIsi_bl, fIsi_int, fIsi_str, fIsi_lst, fIsi_tup, List.getElem?_cons_zero, List.getElem?_cons_succ, List.set_cons_zero, List.set_cons_succ, DL.ggName, ggNil0, ggCons1, ggTup2, ggTup3, gFor, giSeq, gLc, gYes, wipeR, true_and, and_true, at_0, at_1, at_2, kit_int_int, kit_bool_int, kit_str_int, kit_non_int, kit_list_int, kit_tuple_int, kit_int_bool, kit_bool_bool, kit_str_bool, kit_non_bool, kit_list_bool, kit_tuple_bool, kit_int_str, kit_bool_str, kit_str_str, kit_non_str, kit_list_str, kit_tuple_str, kit_int_list, kit_bool_list, kit_str_list, kit_non_list, kit_list_list, kit_tuple_list, kit_int_tuple, kit_bool_tuple, kit_str_tuple, kit_non_tuple, kit_list_tuple, kit_tuple_tuple, eqD_i, neD_i, eqD_s, neD_s, eqD_f, neD_f, Nat.zero_add, Nat.reduceAdd, nc0, nc1, nc2, nc3, nc4, nc5, nc6, nc7, nc8, nc9, eq_self, decide_true, decide_false, Int.reduceEq, Int.reduceLT, Int.reduceLE, Int.reduceNeg, Bool.not_true, Bool.not_false, Bool.false_eq_true, if_true, if_false, ↓reduceIte, false_and, and_false, List.all_cons, List.all_nil, List.any_cons, List.any_nil, id_eq, Bool.and_true, Bool.true_and, Bool.or_false, Bool.false_or, Bool.and_false, Bool.false_and, gCut, eqD_b, neD_b, giZip, reduceCtorEq, Bool.true_eq_false, Bool.false_eq_true, gRevL, gSl, goNone, goSome, slD_l, ne_eq, not_false_eq_true, not_true_eq_false, gBM, isTy_l, isTy_s, new_at, new_set, isTy_new, cellK_new, append_new, popAt_new, gFrz_eq, frzK_new, fLen_new, fTuple_new, ixD_new, slA_l, slA_t, slA_new, addTD_t, addCD_l, mulCD_l, isbD_b, isnotbD_b, mSplitC_s, gLstC, gTr, ggSub, lstK_l, lstK_r, addLD_eq]
  repeat (refine And.intro (by first | assumption | exact sl_of (by omega) | omega | decide) ?_)
  refine take_use n rfl (by omega) ⟨by decide, log_of (by decide)⟩ fun r5 c5 h8 h9 hc5 => ?_
  refine ix_all ShortD h8 h9 (fun x hx => ?_) ?_
  · simp only [List.mem_cons, List.not_mem_nil, or_false] at hx
    rcases hx with rfl | rfl | rfl | rfl | rfl | rfl | rfl | rfl | rfl | rfl | rfl | rfl | rfl | rfl | rfl | rfl | rfl | rfl | rfl | rfl
    all_goals exact ⟨_, rfl, by (try simp only [str_len, one_len, z1, z2, z3, z4, z5, z6, z7]); omega⟩
  rintro d ⟨z, rfl, hz⟩
  have := hk z.cps.toList c5 (by rw [TL.len_tl] at hz; exact hz) hc5
  rw [S_tl] at this
  exact this
theorem ok__law_bent {P : Program} {w : World} {K : PySem.W.Frag} {mg : Str → Option Value} {base : Heap} (T : DefAt K mg "_law_bent" s__law_bent ["_law_state", "_law_text"]) (B : Blt mg) (F__law_take : FnAt P w K mg base CX0 1 "_law_take" 2 sp__law_take) : FnAt P w K mg base CX0 2 "_law_bent" 2 sp__law_bent := (w__law_bent T B F__law_take).imp v__law_bent


end LW

namespace LW
open PySem PySem.Spec PyProof.Rows L2 RZ DL

open SX (S S_tl S_len S_cat)
open TL (numL)
theorem pow_1000 {n : Nat} (h : n ≤ 10 ^ 31) : n < 10 ^ 1000 := Nat.lt_of_le_of_lt h (Nat.pow_lt_pow_right (by decide) (by decide))
theorem fig_frac {p : Qp} (h : Frac p) : FigOk p := by
  have h1 : p.1.natAbs ≤ 10 ^ 30 := h.num
  have h2 := h.bel
  have h3 := h.fr.pos
  exact ⟨h.fr, pow_1000 (by omega), pow_1000 (by omega)⟩
theorem seqset_use {i : Nat} {ge : GE} {b : GS} {F : DEnds} {ρ : Rho} {w : Wd} (h : ge ρ w F.ex fun d w1 => b F (ρ.set i (some d)) w1) : gSeq (gSet i ge) b F ρ w := h
/-- a display of texts -/
def EvS (ga : GA) (n : Nat) : Prop := ∀ ρ w kx (k : List D → Wd → Prop), (∀ xs : List D, xs.length = n → (∀ d ∈ xs, ShortD d) → k xs w) → ga ρ w kx k
theorem evs_nil : EvS gaNil 0 := fun ρ w kx k h => h [] rfl fun _ h => nomatch h
theorem evs_cons {ge : GE} {ga : GA} {n : Nat} {z : Str} (hz : z.length ≤ 20000) (he : ∀ ρ w kx k, k (.str z) w → ge ρ w kx k) (h : EvS ga n) : EvS (gaCons ge ga) (n + 1) := fun ρ w kx k hk =>
  he _ _ _ _ (h _ _ _ _ fun xs hl hx => hk _ (by rw [List.length_cons, hl]) fun d hd => by
    rcases List.mem_cons.mp hd with rfl | hd
    · exact ⟨z, rfl, hz⟩
    · exact hx d hd)
theorem evs_c {ga : GA} {n : Nat} {z : Str} (h : EvS ga n) (hz : z.length ≤ 20000) : EvS (gaCons (gC (.str z)) ga) (n + 1) := evs_cons hz (fun _ _ _ _ h => h) h
theorem rep_len (z : Str) (n : Nat) : (⟨(List.replicate n z.cps).foldl (· ++ ·) #[]⟩ : Str).length = z.length * n := by
  have fl : ∀ n (a : Array Nat), ((List.replicate n z.cps).foldl (· ++ ·) a).size = a.size + z.length * n := fun n => by
    induction n with
    | zero => intro a; rfl
    | succ n ih => intro a; rw [List.replicate_succ, List.foldl_cons, ih, Array.size_append, Nat.mul_succ]; show _ + z.length + _ = _; omega
  show ((List.replicate n z.cps).foldl (· ++ ·) #[]).size = _
  rw [fl]
  show 0 + _ = _
  omega
theorem evs_m {ga : GA} {n : Nat} {z : Str} {i : Int} (h : EvS ga n) (hi : 0 ≤ i ∧ i ≤ 10000) (hz : z.length = 1) : EvS (gaCons (gBin mulTD (gC (.str z)) (gC (.int i))) ga) (n + 1) := by
  have e := rep_len z i.toNat
  rw [hz] at e
  exact evs_cons (by rw [e]; omega) (fun ρ w kx k hk => ⟨⟨hi.1, by omega, by rw [hz]; omega⟩, hk⟩) h
theorem evs_am {ga : GA} {n : Nat} {y z : Str} {i : Int} (h : EvS ga n) (hi : 0 ≤ i ∧ i ≤ 10000) (hz : z.length = 1) (hy : y.length ≤ 100) : EvS (gaCons (gBin addD (gC (.str y)) (gBin mulTD (gC (.str z)) (gC (.int i)))) ga) (n + 1) := by
  have e := rep_len z i.toNat
  rw [hz] at e
  exact evs_cons (z := y ++ _) (by rw [str_len, e]; omega) (fun ρ w kx k hk => ⟨⟨hi.1, by omega, by rw [hz]; omega⟩, sl_of (by rw [e]; omega), hk⟩) h
theorem lst_use {ga : GA} {n : Nat} (h : EvS ga n) (hn : n ≤ 100) {ρ : Rho} {w : Wd} {kx : KX} {k : KD} (hk : ∀ xs : List D, xs.length = n → (∀ d ∈ xs, ShortD d) → k (.lst xs) w) : gLst ga ρ w kx k :=
  h _ _ _ _ fun xs hl hx => ⟨by rw [hl]; exact sl_of (by omega), hk xs hl hx⟩
theorem app_use {i n : Nat} {ys : List D} {ga : GA} (h : EvS ga n) (hn : n ≤ 100) {ρ : Rho} {w : Wd} {kx : KX} {k : KD} (hi : ρ[i]? = some (some (.lst ys))) (hy : (∀ d ∈ ys, ShortD d) ∧ ys.length ≤ 1000)
    (hk : ∀ xs : List D, xs.length = ys.length + n → (∀ d ∈ xs, ShortD d) → k (.lst xs) w) : gBin addD (gVar i) (gLst ga) ρ w kx k := by
  show gVar i ρ w kx _
  unfold gVar
  rw [hi]
  refine lst_use h hn fun xs hl hx => ?_
  show addD (.lst ys) (.lst xs) w k
  rw [addD_l]
  refine ⟨sl_of (by omega), hk _ (by rw [List.length_append, hl]) fun d hd => ?_⟩
  rcases List.mem_append.mp hd with hd | hd
  · exact hy.1 d hd
  · exact hx d hd
def sp_law : GF := gLaw
abbrev s_law : Stmt := topS 29
theorem sc_law : FnScope ["_law_script", "_law_state", "_law_some", "_law_turn", "_law_text", "_law_part", "_law_due"] ["_law_script"] (defScope s_law) := ⟨rfl, rfl, rfl, by decide +kernel, rfl, by decide +kernel, by decide +kernel⟩
def g_law_b4 (X : XF) : GS := (gSeq (gFor (giRange1 (gaCons (gC (.int 12)) gaNil)) (ggName 3) (gSeq (gSet 5 (gCall0 1 sp__law_fraction (gaCons (gVar 1) gaNil)))
  (gCut (gSet 4 (gBin addD (gCB fStrI (gaCons (gBin ixD (gVar 5) (gC (.int 0))) gaNil)) (gIf (gB (gBin eqD (gBin ixD (gVar 5) (gC (.int 1))) (gC (.int 1)))) (gC (.str "")) (gBin addD (gC (.str "/")) (gCB fStrI (gaCons (gBin ixD (gVar 5) (gC (.int 1))) gaNil))))))
  (gSet 2 (gBin addD (gVar 2) (gLst (gaCons (gVar 4) (gaCons (gCall0 2 sp__law_bent (gaCons (gVar 1) (gaCons (gVar 4) gaNil))) (gaCons (gCall0 2 sp__law_bent (gaCons (gVar 1) (gaCons (gVar 4) gaNil))) gaNil)))))))))
  (gSeq (gFor (giSeq (gVar 2)) (ggName 4) (gSeq (gSet 6 (gCall0 1 sp__law_read (gaCons (gVar 4) gaNil)))
  (gIfS (gNot (gTru (gCall0 2 sp__law_same (gaCons (gCall0 1 (sp__law_told X) (gaCons (gVar 4) gaNil)) (gaCons (gIf (gB (gBin isD (gVar 6) (gC .non))) (gC (.str "bad")) (gVar 6)) gaNil))))) (gRet (gC (.bl false))) gNext)))
  (gRet (gC (.bl true)))))
def g_law_b3 (X : XF) : GS := (gSeq (gSet 2 (gBin addD (gVar 2) (gLst (gaCons (gBin mulTD (gC (.str "1")) (gC (.int 1000))) (gaCons (gBin mulTD (gC (.str "1")) (gC (.int 1001))) (gaCons (gBin mulTD (gC (.str "7")) (gC (.int 5000))) (gaCons (gBin addD (gC (.str "1/")) (gBin mulTD (gC (.str "3")) (gC (.int 1000)))) (gaCons (gBin addD (gC (.str "1/")) (gBin mulTD (gC (.str "3")) (gC (.int 1001)))) (gaCons (gBin addD (gC (.str "-")) (gBin mulTD (gC (.str "9")) (gC (.int 1000)))) gaNil)))))))))
  (g_law_b4 X))
def g_law_b2 (X : XF) : GS := (gSeq (gSet 2 (gBin addD (gVar 2) (gLst (gaCons (gC (.str "3/4\n")) (gaCons (gC (.str "1\n")) (gaCons (gC (.str "\n1")) (gaCons (gC (.str "-0/3")) (gaCons (gC (.str "6/3")) (gaCons (gC (.str " 1")) (gaCons (gC (.str "1 ")) (gaCons (gC (.str "1.5")) (gaCons (gC (.str "half")) (gaCons (gC (.str "-1/2")) (gaCons (gC (.str "0")) (gaCons (gC (.str "1/2/3")) (gaCons (gC (.str "0x1")) gaNil))))))))))))))))
  (g_law_b3 X))
def g_law_b1 (X : XF) : GS := (gSeq (gSet 2 (gLst (gaCons (gC (.str "")) (gaCons (gC (.str "-")) (gaCons (gC (.str "/")) (gaCons (gC (.str "1/")) (gaCons (gC (.str "/1")) (gaCons (gC (.str "3/1")) (gaCons (gC (.str "0/5")) (gaCons (gC (.str "2/4")) (gaCons (gC (.str "-0")) (gaCons (gC (.str "+1")) (gaCons (gC (.str "01")) (gaCons (gC (.str "1/02")) (gaCons (gC (.str "--1")) (gaCons (gC (.str "1/-2")) (gaCons (gC (.str "1_0")) (gaCons (gC (.str "1e3")) (gaCons (gC (.str "0/1")) gaNil)))))))))))))))))))
  (g_law_b2 X))
def g_law (X : XF) : GS := (gSeq (gSet 1 (gCall0 1 sp__law_begin (gaCons (gVar 0) gaNil)))
  (g_law_b1 X))
theorem w_law {P : Program} {w : World} {K : PySem.W.Frag} {mg : Str → Option Value} {base : Heap} {f : Addr} {fd : FuncData} (T : Fun K "law" "law" s_law f fd) (B : Blt mg) {X : XF} (XX : XFK K mg X) (F__law_begin : FnAt P w K mg base CX0 1 "_law_begin" 1 sp__law_begin) (F__law_fraction : FnAt P w K mg base CX0 3 "_law_fraction" 1 sp__law_fraction) (F__law_read : FnAt P w K mg base CX0 2 "_law_read" 1 sp__law_read) (F__law_same : FnAt P w K mg base CX0 6 "_law_same" 2 sp__law_same) (F__law_bent : FnAt P w K mg base CX0 2 "_law_bent" 2 sp__law_bent) (F__law_told : FnAt P w K mg base CX0 4 "_law_told" 1 (sp__law_told X)) (b_NoDg : NoDg K) : FnOk P w K mg base CX0 7 f fd ["_law_script"] (upF 1 K (sem0 7 (g_law X))) := by
  have nd := sc_law.nd
  exact fun_fn0 T sc_law (fun f cdv A outer s H E hr => (dss_cons (ds_set (i := 1) nd rfl (by first | exact Or.inl rfl | exact Or.inr rfl) (de_call0 F__law_begin hr (by rfl) (da_cons (de_var 0) da_nil)))
  (dss_cons (ds_set (i := 2) nd rfl (by first | exact Or.inl rfl | exact Or.inr rfl) (de_lst (da_cons de_str (da_cons de_str (da_cons de_str (da_cons de_str (da_cons de_str (da_cons de_str (da_cons de_str (da_cons de_str (da_cons de_str (da_cons de_str (da_cons de_str (da_cons de_str (da_cons de_str (da_cons de_str (da_cons de_str (da_cons de_str (da_cons de_str da_nil)))))))))))))))))))
  (dss_cons (ds_set (i := 2) nd rfl (by first | exact Or.inl rfl | exact Or.inr rfl) (de_add (de_var 2) (de_lst (da_cons de_str (da_cons de_str (da_cons de_str (da_cons de_str (da_cons de_str (da_cons de_str (da_cons de_str (da_cons de_str (da_cons de_str (da_cons de_str (da_cons de_str (da_cons de_str (da_cons de_str da_nil))))))))))))))))
  (dss_cons (ds_set (i := 2) nd rfl (by first | exact Or.inl rfl | exact Or.inr rfl) (de_add (de_var 2) (de_lst (da_cons (de_mulT de_str de_int) (da_cons (de_mulT de_str de_int) (da_cons (de_mulT de_str de_int) (da_cons (de_add de_str (de_mulT de_str de_int)) (da_cons (de_add de_str (de_mulT de_str de_int)) (da_cons (de_add de_str (de_mulT de_str de_int)) da_nil)))))))))
  (dss_cons (ds_for PassesOwn.never rfl (di_range1 B (by rfl) (da_cons de_int da_nil)) (dg_name (i := 3) nd rfl (by first | exact Or.inl rfl | exact Or.inr rfl)) (dss_cons (ds_set (i := 5) nd rfl (by first | exact Or.inl rfl | exact Or.inr rfl) (de_call0 F__law_fraction hr (by rfl) (da_cons (de_var 1) da_nil)))
  (dss_cut (ds_set (i := 4) nd rfl (by first | exact Or.inl rfl | exact Or.inr rfl) (de_add (de_strI B b_NoDg rfl (by rfl) (da_cons (de_ix (de_var 5) de_int) da_nil)) (de_ifExp (dt_eq hr (de_ix (de_var 5) de_int) de_int) de_str (de_add de_str (de_strI B b_NoDg rfl (by rfl) (da_cons (de_ix (de_var 5) de_int) da_nil))))))
  (dss_one (ds_set (i := 2) nd rfl (by first | exact Or.inl rfl | exact Or.inr rfl) (de_add (de_var 2) (de_lst (da_cons (de_var 4) (da_cons (de_call0 F__law_bent hr (by rfl) (da_cons (de_var 1) (da_cons (de_var 4) da_nil))) (da_cons (de_call0 F__law_bent hr (by rfl) (da_cons (de_var 1) (da_cons (de_var 4) da_nil))) da_nil))))))))))
  (dss_cons (ds_for PassesOwn.never rfl (di_seq (de_var 2)) (dg_name (i := 4) nd rfl (by first | exact Or.inl rfl | exact Or.inr rfl)) (dss_cons (ds_set (i := 6) nd rfl (by first | exact Or.inl rfl | exact Or.inr rfl) (de_call0 F__law_read hr (by rfl) (da_cons (de_var 4) da_nil)))
  (dss_one (ds_if (dt_not (dt_truth (de_call0 F__law_same hr (by rfl) (da_cons (de_call0 F__law_told hr (by rfl) (da_cons (de_var 4) da_nil)) (da_cons (de_ifExp (dt_is (de_var 6) de_non) de_str (de_var 6)) da_nil))))) (dss_one (ds_ret de_bl)) dss_nil))))
  (dss_one (ds_ret de_bl)))))))))

theorem v_law_b4 (X : XF) {F : DEnds} {ns : List Int} {xs : List D} {w : Wd} (hx : ∀ d ∈ xs, ShortD d) (hl : xs.length = 36) (hw : w = ⟨[], some 1000000000⟩) (hk : ∀ w', F.rt (.bl true) w') : g_law_b4 X F [some (.scr ns), some .st, some (.lst xs), none, none, none, none] w := by
  subst hw
  simp only [g_law_b4, giRange1, sp__law_take, sem0, List.map_cons, List.map_nil, List.length_cons, List.length_nil, gSeq, gNext, gRet, gRetN, gIfS, gSet, gPar, gAsg, gDrop, gVar, gC, gBin, gUn, gB, gTru, gAnd, gOr, gNot, gAndV, gOrV, gNotV, gIf, gChain, gaNil, gaCons, DL.gTup, gLst, gCB, gCall0, gAug, addD_i, addD_s, addD_l, addD_t, subD_i, mulD_i, mulD_l, fdivD_i, modD_i, powD_i, ltD_i, ltD_s, leD_i, gtD_i, geD_i, isD_n, isnotD_n, isNonD_non, isNonD_bl, isNonD_int, isNonD_str, isNonD_lst, isNonD_tup, negD_i, iaddD_i, truD_non, truD_bl, truD_int, truD_str, truD_lst, truD_tup, someK_some, ixD_l, ixD_t, fAbs_i, fInt_i, fInt_b, fMin2_i, fLen_l, fLen_t, fLen_s, fList_l, fList_t, fTuple_l, fTuple_t, optBK_some, fIsi_non, fIsi_bl, fIsi_int, fIsi_str, fIsi_lst, fIsi_tup, List.getElem?_cons_zero, List.getElem?_cons_succ, List.set_cons_zero, List.set_cons_succ, DL.ggName, ggNil0, ggCons1, ggTup2, ggTup3, gFor, giSeq, gLc, gYes, wipeR, true_and, and_true, at_0, at_1, at_2, kit_int_int, kit_bool_int, kit_str_int, kit_non_int, kit_list_int, kit_tuple_int, kit_int_bool, kit_bool_bool, kit_str_bool, kit_non_bool, kit_list_bool, kit_tuple_bool, kit_int_str, kit_bool_str, kit_str_str, kit_non_str, kit_list_str, kit_tuple_str, kit_int_list, kit_bool_list, kit_str_list, kit_non_list, kit_list_list, kit_tuple_list, kit_int_tuple, kit_bool_tuple, kit_str_tuple, kit_non_tuple, kit_list_tuple, kit_tuple_tuple, eqD_i, neD_i, eqD_s, neD_s, eqD_f, neD_f, Nat.zero_add, Nat.reduceAdd, nc0, nc1, nc2, nc3, nc4, nc5, nc6, nc7, nc8, nc9, eq_self, decide_true, decide_false, Int.reduceEq, Int.reduceLT, Int.reduceLE, Int.reduceNeg, Bool.not_true, Bool.not_false, Bool.false_eq_true, if_true, if_false, ↓reduceIte, false_and, and_false, List.all_cons, List.all_nil, List.any_cons, List.any_nil, id_eq, Bool.and_true, Bool.true_and, Bool.or_false, Bool.false_or, Bool.and_false, Bool.false_and, gCut, eqD_b, neD_b, giZip, reduceCtorEq, Bool.true_eq_false, Bool.false_eq_true, gRevL, gSl, goNone, goSome, slD_l, ne_eq, not_false_eq_true, not_true_eq_false, gBM, isTy_l, isTy_s, new_at, new_set, isTy_new, cellK_new, append_new, popAt_new, gFrz_eq, frzK_new, fLen_new, fTuple_new, ixD_new, slA_l, slA_t, slA_new, addTD_t, addCD_l, mulCD_l, isbD_b, isnotbD_b, mSplitC_s, gLstC, gTr, ggSub, lstK_l, lstK_r, addLD_eq]
  refine ⟨by decide, fun rem ρ w' => ∃ (xs : List D) (c : Nat) (a3 a4 a5 : Option D), (∀ d ∈ xs, ShortD d) ∧ xs.length + 3 * rem.length ≤ 72 ∧ ρ = [some (.scr ns), some .st, some (.lst xs), a3, a4, a5, none] ∧ w' = ⟨[], some c⟩ ∧ 100 + 20 * rem.length ≤ c, ⟨xs, _, none, none, none, hx, by rw [range_len]; show _ + 3 * 12 ≤ _; omega, rfl, rfl, by rw [range_len]; decide⟩, ?_, ?_⟩
  · rintro ρ w' ⟨xs, c, a3, a4, a5, hx, hl, rfl, rfl, hc⟩
    refine ⟨trivial, ?_⟩
    simp only [sem0, List.map_cons, List.map_nil, List.length_cons, List.length_nil, gSeq, gNext, gRet, gRetN, gIfS, gSet, gPar, gAsg, gDrop, gVar, gC, gBin, gUn, gB, gTru, gAnd, gOr, gNot, gAndV, gOrV, gNotV, gIf, gChain, gaNil, gaCons, DL.gTup, gLst, gCB, gCall0, gAug, addD_i, addD_s, addD_l, addD_t, subD_i, mulD_i, mulD_l, fdivD_i, modD_i, powD_i, ltD_i, ltD_s, leD_i, gtD_i, geD_i, isD_n, isnotD_n, isNonD_non, isNonD_bl, isNonD_int, isNonD_str, isNonD_lst, isNonD_tup, negD_i, iaddD_i, truD_non, truD_bl, truD_int, truD_str, truD_lst, truD_tup, someK_some, ixD_l, ixD_t, fAbs_i, fInt_i, fInt_b, fMin2_i, fLen_l, fLen_t, fLen_s, fList_l, fList_t, fTuple_l, fTuple_t, optBK_some, fIsi_non, fIsi_bl, fIsi_int, fIsi_str, fIsi_lst, fIsi_tup, List.getElem?_cons_zero, List.getElem?_cons_succ, List.set_cons_zero, List.set_cons_succ, DL.ggName, ggNil0, ggCons1, ggTup2, ggTup3, gFor, giSeq, gLc, gYes, wipeR, true_and, and_true, at_0, at_1, at_2, kit_int_int, kit_bool_int, kit_str_int, kit_non_int, kit_list_int, kit_tuple_int, kit_int_bool, kit_bool_bool, kit_str_bool, kit_non_bool, kit_list_bool, kit_tuple_bool, kit_int_str, kit_bool_str, kit_str_str, kit_non_str, kit_list_str, kit_tuple_str, kit_int_list, kit_bool_list, kit_str_list, kit_non_list, kit_list_list, kit_tuple_list, kit_int_tuple, kit_bool_tuple, kit_str_tuple, kit_non_tuple, kit_list_tuple, kit_tuple_tuple, eqD_i, neD_i, eqD_s, neD_s, eqD_f, neD_f, Nat.zero_add, Nat.reduceAdd, nc0, nc1, nc2, nc3, nc4, nc5, nc6, nc7, nc8, nc9, eq_self, decide_true, decide_false, Int.reduceEq, Int.reduceLT, Int.reduceLE, Int.reduceNeg, Bool.not_true, Bool.not_false, Bool.false_eq_true, if_true, if_false, ↓reduceIte, false_and, and_false, List.all_cons, List.all_nil, List.any_cons, List.any_nil, id_eq, Bool.and_true, Bool.true_and, Bool.or_false, Bool.false_or, Bool.and_false, Bool.false_and, gCut, eqD_b, neD_b, giZip, reduceCtorEq, Bool.true_eq_false, Bool.false_eq_true, gRevL, gSl, goNone, goSome, slD_l, ne_eq, not_false_eq_true, not_true_eq_false, gBM, isTy_l, isTy_s, new_at, new_set, isTy_new, cellK_new, append_new, popAt_new, gFrz_eq, frzK_new, fLen_new, fTuple_new, ixD_new, slA_l, slA_t, slA_new, addTD_t, addCD_l, mulCD_l, isbD_b, isnotbD_b, mSplitC_s, gLstC, gTr, ggSub, lstK_l, lstK_r, addLD_eq]
    refine ⟨fun rem ρ w => ∃ (ts : List D) (a3 a4 a5 a6 : Option D), rem = ts ∧ (∀ d ∈ ts, ShortD d) ∧ ρ = [some (.scr ns), some .st, some (.lst xs), a3, a4, a5, a6], ⟨xs, _, _, _, _, rfl, hx, rfl⟩, ?_, ?_⟩
    · rintro ρ w ⟨ts, a3, a4, a5, a6, _, _, rfl⟩
      refine ⟨trivial, ?_⟩
      simp only [sem0, List.map_cons, List.map_nil, List.length_cons, List.length_nil, gSeq, gNext, gRet, gRetN, gIfS, gSet, gPar, gAsg, gDrop, gVar, gC, gBin, gUn, gB, gTru, gAnd, gOr, gNot, gAndV, gOrV, gNotV, gIf, gChain, gaNil, gaCons, DL.gTup, gLst, gCB, gCall0, gAug, addD_i, addD_s, addD_l, addD_t, subD_i, mulD_i, mulD_l, fdivD_i, modD_i, powD_i, ltD_i, ltD_s, leD_i, gtD_i, geD_i, isD_n, isnotD_n, isNonD_non, isNonD_bl, isNonD_int, isNonD_str, isNonD_lst, isNonD_tup, negD_i, iaddD_i, truD_non, truD_bl, truD_int, truD_str, truD_lst, truD_tup, someK_some, ixD_l, ixD_t, fAbs_i, fInt_i, fInt_b, fMin2_i, fLen_l, fLen_t, fLen_s, fList_l, fList_t, fTuple_l, fTuple_t, optBK_some, fIsi_non, fIsi_bl, fIsi_int, fIsi_str, fIsi_lst, fIsi_tup, List.getElem?_cons_zero, List.getElem?_cons_succ, List.set_cons_zero, List.set_cons_succ, DL.ggName, ggNil0, ggCons1, ggTup2, ggTup3, gFor, giSeq, gLc, gYes, wipeR, true_and, and_true, at_0, at_1, at_2, kit_int_int, kit_bool_int, kit_str_int, kit_non_int, kit_list_int, kit_tuple_int, kit_int_bool, kit_bool_bool, kit_str_bool, kit_non_bool, kit_list_bool, kit_tuple_bool, kit_int_str, kit_bool_str, kit_str_str, kit_non_str, kit_list_str, kit_tuple_str, kit_int_list, kit_bool_list, kit_str_list, kit_non_list, kit_list_list, kit_tuple_list, kit_int_tuple, kit_bool_tuple, kit_str_tuple, kit_non_tuple, kit_list_tuple, kit_tuple_tuple, eqD_i, neD_i, eqD_s, neD_s, eqD_f, neD_f, Nat.zero_add, Nat.reduceAdd, nc0, nc1, nc2, nc3, nc4, nc5, nc6, nc7, nc8, nc9, eq_self, decide_true, decide_false, Int.reduceEq, Int.reduceLT, Int.reduceLE, Int.reduceNeg, Bool.not_true, Bool.not_false, Bool.false_eq_true, if_true, if_false, ↓reduceIte, false_and, and_false, List.all_cons, List.all_nil, List.any_cons, List.any_nil, id_eq, Bool.and_true, Bool.true_and, Bool.or_false, Bool.false_or, Bool.and_false, Bool.false_and, gCut, eqD_b, neD_b, giZip, reduceCtorEq, Bool.true_eq_false, Bool.false_eq_true, gRevL, gSl, goNone, goSome, slD_l, ne_eq, not_false_eq_true, not_true_eq_false, gBM, isTy_l, isTy_s, new_at, new_set, isTy_new, cellK_new, append_new, popAt_new, gFrz_eq, frzK_new, fLen_new, fTuple_new, ixD_new, slA_l, slA_t, slA_new, addTD_t, addCD_l, mulCD_l, isbD_b, isnotbD_b, mSplitC_s, gLstC, gTr, ggSub, lstK_l, lstK_r, addLD_eq]
      exact hk _
    · rintro x rem ρ w ⟨ts, a3, a4, a5, a6, h4, h5, rfl⟩
      cases ts with
      | nil => cases h4
      | cons q ts =>
        injection h4 with h4 h4'
        subst h4
        subst h4'
        obtain ⟨z, rfl, hz⟩ := h5 x List.mem_cons_self
        have h5' : ∀ d ∈ rem, ShortD d := fun d hd => h5 d (List.mem_cons_of_mem _ hd)
        obtain ⟨l, hll, rfl⟩ : ∃ l : List Nat, l.length ≤ 20000 ∧ S l = z := ⟨z.cps.toList, by rw [TL.len_tl] at hz; exact hz, S_tl z⟩
        refine ⟨trivial, ?_⟩
        simp only [sp__law_read, sp__law_told, sem0, List.map_cons, List.map_nil, List.length_cons, List.length_nil, gSeq, gNext, gRet, gRetN, gIfS, gSet, gPar, gAsg, gDrop, gVar, gC, gBin, gUn, gB, gTru, gAnd, gOr, gNot, gAndV, gOrV, gNotV, gIf, gChain, gaNil, gaCons, DL.gTup, gLst, gCB, gCall0, gAug, addD_i, addD_s, addD_l, addD_t, subD_i, mulD_i, mulD_l, fdivD_i, modD_i, powD_i, ltD_i, ltD_s, leD_i, gtD_i, geD_i, isD_n, isnotD_n, isNonD_non, isNonD_bl, isNonD_int, isNonD_str, isNonD_lst, isNonD_tup, negD_i, iaddD_i, truD_non, truD_bl, truD_int, truD_str, truD_lst, truD_tup, someK_some, ixD_l, ixD_t, fAbs_i, fInt_i, fInt_b, fMin2_i, fLen_l, fLen_t, fLen_s, fList_l, fList_t, fTuple_l, fTuple_t, optBK_some, fIsi_non, fIsi_bl, fIsi_int, fIsi_str, fIsi_lst, fIsi_tup, List.getElem?_cons_zero, List.getElem?_cons_succ, List.set_cons_zero, List.set_cons_succ, DL.ggName, ggNil0, ggCons1, ggTup2, ggTup3, gFor, giSeq, gLc, gYes, wipeR, true_and, and_true, at_0, at_1, at_2, kit_int_int, kit_bool_int, kit_str_int, kit_non_int, kit_list_int, kit_tuple_int, kit_int_bool, kit_bool_bool, kit_str_bool, kit_non_bool, kit_list_bool, kit_tuple_bool, kit_int_str, kit_bool_str, kit_str_str, kit_non_str, kit_list_str, kit_tuple_str, kit_int_list, kit_bool_list, kit_str_list, kit_non_list, kit_list_list, kit_tuple_list, kit_int_tuple, kit_bool_tuple, kit_str_tuple, kit_non_tuple, kit_list_tuple, kit_tuple_tuple, eqD_i, neD_i, eqD_s, neD_s, eqD_f, neD_f, Nat.zero_add, Nat.reduceAdd, nc0, nc1, nc2, nc3, nc4, nc5, nc6, nc7, nc8, nc9, eq_self, decide_true, decide_false, Int.reduceEq, Int.reduceLT, Int.reduceLE, Int.reduceNeg, Bool.not_true, Bool.not_false, Bool.false_eq_true, if_true, if_false, ↓reduceIte, false_and, and_false, List.all_cons, List.all_nil, List.any_cons, List.any_nil, id_eq, Bool.and_true, Bool.true_and, Bool.or_false, Bool.false_or, Bool.and_false, Bool.false_and, gCut, eqD_b, neD_b, giZip, reduceCtorEq, Bool.true_eq_false, Bool.false_eq_true, gRevL, gSl, goNone, goSome, slD_l, ne_eq, not_false_eq_true, not_true_eq_false, gBM, isTy_l, isTy_s, new_at, new_set, isTy_new, cellK_new, append_new, popAt_new, gFrz_eq, frzK_new, fLen_new, fTuple_new, ixD_new, slA_l, slA_t, slA_new, addTD_t, addCD_l, mulCD_l, isbD_b, isnotbD_b, mSplitC_s, gLstC, gTr, ggSub, lstK_l, lstK_r, addLD_eq]
        by_cases hT : ∃ p, Told l p
        · obtain ⟨p, hp⟩ := hT
          refine ⟨l, rfl, by omega, fun p' hp' => ?_, fun h => absurd hp (h p)⟩
          have e1 := told_same hp hp'
          subst e1
          refine ⟨l, rfl, by omega, fun p' hp' => ?_, fun h => absurd hp (h p)⟩
          have e1 := told_same hp hp'
          subst e1
          rw [show isNonD (fD p) = false from rfl]
          simp only [sem0, List.map_cons, List.map_nil, List.length_cons, List.length_nil, gSeq, gNext, gRet, gRetN, gIfS, gSet, gPar, gAsg, gDrop, gVar, gC, gBin, gUn, gB, gTru, gAnd, gOr, gNot, gAndV, gOrV, gNotV, gIf, gChain, gaNil, gaCons, DL.gTup, gLst, gCB, gCall0, gAug, addD_i, addD_s, addD_l, addD_t, subD_i, mulD_i, mulD_l, fdivD_i, modD_i, powD_i, ltD_i, ltD_s, leD_i, gtD_i, geD_i, isD_n, isnotD_n, isNonD_non, isNonD_bl, isNonD_int, isNonD_str, isNonD_lst, isNonD_tup, negD_i, iaddD_i, truD_non, truD_bl, truD_int, truD_str, truD_lst, truD_tup, someK_some, ixD_l, ixD_t, fAbs_i, fInt_i, fInt_b, fMin2_i, fLen_l, fLen_t, fLen_s, fList_l, fList_t, fTuple_l, fTuple_t, optBK_some, fIsi_non, fIsi_bl, fIsi_int, fIsi_str, fIsi_lst, fIsi_tup, List.getElem?_cons_zero, List.getElem?_cons_succ, List.set_cons_zero, List.set_cons_succ, DL.ggName, ggNil0, ggCons1, ggTup2, ggTup3, gFor, giSeq, gLc, gYes, wipeR, true_and, and_true, at_0, at_1, at_2, kit_int_int, kit_bool_int, kit_str_int, kit_non_int, kit_list_int, kit_tuple_int, kit_int_bool, kit_bool_bool, kit_str_bool, kit_non_bool, kit_list_bool, kit_tuple_bool, kit_int_str, kit_bool_str, kit_str_str, kit_non_str, kit_list_str, kit_tuple_str, kit_int_list, kit_bool_list, kit_str_list, kit_non_list, kit_list_list, kit_tuple_list, kit_int_tuple, kit_bool_tuple, kit_str_tuple, kit_non_tuple, kit_list_tuple, kit_tuple_tuple, eqD_i, neD_i, eqD_s, neD_s, eqD_f, neD_f, Nat.zero_add, Nat.reduceAdd, nc0, nc1, nc2, nc3, nc4, nc5, nc6, nc7, nc8, nc9, eq_self, decide_true, decide_false, Int.reduceEq, Int.reduceLT, Int.reduceLE, Int.reduceNeg, Bool.not_true, Bool.not_false, Bool.false_eq_true, if_true, if_false, ↓reduceIte, false_and, and_false, List.all_cons, List.all_nil, List.any_cons, List.any_nil, id_eq, Bool.and_true, Bool.true_and, Bool.or_false, Bool.false_or, Bool.and_false, Bool.false_and, gCut, eqD_b, neD_b, giZip, reduceCtorEq, Bool.true_eq_false, Bool.false_eq_true, gRevL, gSl, goNone, goSome, slD_l, ne_eq, not_false_eq_true, not_true_eq_false, gBM, isTy_l, isTy_s, new_at, new_set, isTy_new, cellK_new, append_new, popAt_new, gFrz_eq, frzK_new, fLen_new, fTuple_new, ixD_new, slA_l, slA_t, slA_new, addTD_t, addCD_l, mulCD_l, isbD_b, isnotbD_b, mSplitC_s, gLstC, gTr, ggSub, lstK_l, lstK_r, addLD_eq]
          refine same_yes rfl (by rw [dep_f]; decide) (by rw [wid_f]) ?_
          simp only [sem0, List.map_cons, List.map_nil, List.length_cons, List.length_nil, gSeq, gNext, gRet, gRetN, gIfS, gSet, gPar, gAsg, gDrop, gVar, gC, gBin, gUn, gB, gTru, gAnd, gOr, gNot, gAndV, gOrV, gNotV, gIf, gChain, gaNil, gaCons, DL.gTup, gLst, gCB, gCall0, gAug, addD_i, addD_s, addD_l, addD_t, subD_i, mulD_i, mulD_l, fdivD_i, modD_i, powD_i, ltD_i, ltD_s, leD_i, gtD_i, geD_i, isD_n, isnotD_n, isNonD_non, isNonD_bl, isNonD_int, isNonD_str, isNonD_lst, isNonD_tup, negD_i, iaddD_i, truD_non, truD_bl, truD_int, truD_str, truD_lst, truD_tup, someK_some, ixD_l, ixD_t, fAbs_i, fInt_i, fInt_b, fMin2_i, fLen_l, fLen_t, fLen_s, fList_l, fList_t, fTuple_l, fTuple_t, optBK_some, fIsi_non, fIsi_bl, fIsi_int, fIsi_str, fIsi_lst, fIsi_tup, List.getElem?_cons_zero, List.getElem?_cons_succ, List.set_cons_zero, List.set_cons_succ, DL.ggName, ggNil0, ggCons1, ggTup2, ggTup3, gFor, giSeq, gLc, gYes, wipeR, true_and, and_true, at_0, at_1, at_2, kit_int_int, kit_bool_int, kit_str_int, kit_non_int, kit_list_int, kit_tuple_int, kit_int_bool, kit_bool_bool, kit_str_bool, kit_non_bool, kit_list_bool, kit_tuple_bool, kit_int_str, kit_bool_str, kit_str_str, kit_non_str, kit_list_str, kit_tuple_str, kit_int_list, kit_bool_list, kit_str_list, kit_non_list, kit_list_list, kit_tuple_list, kit_int_tuple, kit_bool_tuple, kit_str_tuple, kit_non_tuple, kit_list_tuple, kit_tuple_tuple, eqD_i, neD_i, eqD_s, neD_s, eqD_f, neD_f, Nat.zero_add, Nat.reduceAdd, nc0, nc1, nc2, nc3, nc4, nc5, nc6, nc7, nc8, nc9, eq_self, decide_true, decide_false, Int.reduceEq, Int.reduceLT, Int.reduceLE, Int.reduceNeg, Bool.not_true, Bool.not_false, Bool.false_eq_true, if_true, if_false, ↓reduceIte, false_and, and_false, List.all_cons, List.all_nil, List.any_cons, List.any_nil, id_eq, Bool.and_true, Bool.true_and, Bool.or_false, Bool.false_or, Bool.and_false, Bool.false_and, gCut, eqD_b, neD_b, giZip, reduceCtorEq, Bool.true_eq_false, Bool.false_eq_true, gRevL, gSl, goNone, goSome, slD_l, ne_eq, not_false_eq_true, not_true_eq_false, gBM, isTy_l, isTy_s, new_at, new_set, isTy_new, cellK_new, append_new, popAt_new, gFrz_eq, frzK_new, fLen_new, fTuple_new, ixD_new, slA_l, slA_t, slA_new, addTD_t, addCD_l, mulCD_l, isbD_b, isnotbD_b, mSplitC_s, gLstC, gTr, ggSub, lstK_l, lstK_r, addLD_eq]
          exact ⟨rem, _, _, _, _, rfl, h5', rfl⟩
        · have hN : ∀ p, ¬ Told l p := fun p hp => hT ⟨p, hp⟩
          refine ⟨l, rfl, by omega, fun p' hp' => absurd hp' (hN p'), fun _ => ?_⟩
          refine ⟨l, rfl, by omega, fun p' hp' => absurd hp' (hN p'), fun _ => ?_⟩
          refine same_yes (a := .str "bad") rfl (Nat.zero_le _) rfl ?_
          simp only [sem0, List.map_cons, List.map_nil, List.length_cons, List.length_nil, gSeq, gNext, gRet, gRetN, gIfS, gSet, gPar, gAsg, gDrop, gVar, gC, gBin, gUn, gB, gTru, gAnd, gOr, gNot, gAndV, gOrV, gNotV, gIf, gChain, gaNil, gaCons, DL.gTup, gLst, gCB, gCall0, gAug, addD_i, addD_s, addD_l, addD_t, subD_i, mulD_i, mulD_l, fdivD_i, modD_i, powD_i, ltD_i, ltD_s, leD_i, gtD_i, geD_i, isD_n, isnotD_n, isNonD_non, isNonD_bl, isNonD_int, isNonD_str, isNonD_lst, isNonD_tup, negD_i, iaddD_i, truD_non, truD_bl, truD_int, truD_str, truD_lst, truD_tup, someK_some, ixD_l, ixD_t, fAbs_i, fInt_i, fInt_b, fMin2_i, fLen_l, fLen_t, fLen_s, fList_l, fList_t, fTuple_l, fTuple_t, optBK_some, fIsi_non, fIsi_bl, fIsi_int, fIsi_str, fIsi_lst, fIsi_tup, List.getElem?_cons_zero, List.getElem?_cons_succ, List.set_cons_zero, List.set_cons_succ, DL.ggName, ggNil0, ggCons1, ggTup2, ggTup3, gFor, giSeq, gLc, gYes, wipeR, true_and, and_true, at_0, at_1, at_2, kit_int_int, kit_bool_int, kit_str_int, kit_non_int, kit_list_int, kit_tuple_int, kit_int_bool, kit_bool_bool, kit_str_bool, kit_non_bool, kit_list_bool, kit_tuple_bool, kit_int_str, kit_bool_str, kit_str_str, kit_non_str, kit_list_str, kit_tuple_str, kit_int_list, kit_bool_list, kit_str_list, kit_non_list, kit_list_list, kit_tuple_list, kit_int_tuple, kit_bool_tuple, kit_str_tuple, kit_non_tuple, kit_list_tuple, kit_tuple_tuple, eqD_i, neD_i, eqD_s, neD_s, eqD_f, neD_f, Nat.zero_add, Nat.reduceAdd, nc0, nc1, nc2, nc3, nc4, nc5, nc6, nc7, nc8, nc9, eq_self, decide_true, decide_false, Int.reduceEq, Int.reduceLT, Int.reduceLE, Int.reduceNeg, Bool.not_true, Bool.not_false, Bool.false_eq_true, if_true, if_false, ↓reduceIte, false_and, and_false, List.all_cons, List.all_nil, List.any_cons, List.any_nil, id_eq, Bool.and_true, Bool.true_and, Bool.or_false, Bool.false_or, Bool.and_false, Bool.false_and, gCut, eqD_b, neD_b, giZip, reduceCtorEq, Bool.true_eq_false, Bool.false_eq_true, gRevL, gSl, goNone, goSome, slD_l, ne_eq, not_false_eq_true, not_true_eq_false, gBM, isTy_l, isTy_s, new_at, new_set, isTy_new, cellK_new, append_new, popAt_new, gFrz_eq, frzK_new, fLen_new, fTuple_new, ixD_new, slA_l, slA_t, slA_new, addTD_t, addCD_l, mulCD_l, isbD_b, isnotbD_b, mSplitC_s, gLstC, gTr, ggSub, lstK_l, lstK_r, addLD_eq]
          exact ⟨rem, _, _, _, _, rfl, h5', rfl⟩
  · rintro x rem ρ w' ⟨xs, c, a3, a4, a5, hx, hl, rfl, rfl, hc⟩
    rw [List.length_cons] at hl hc
    refine ⟨trivial, ?_⟩
    simp only [sp__law_fraction, sp__law_bent, fStrI, sem0, List.map_cons, List.map_nil, List.length_cons, List.length_nil, gSeq, gNext, gRet, gRetN, gIfS, gSet, gPar, gAsg, gDrop, gVar, gC, gBin, gUn, gB, gTru, gAnd, gOr, gNot, gAndV, gOrV, gNotV, gIf, gChain, gaNil, gaCons, DL.gTup, gLst, gCB, gCall0, gAug, addD_i, addD_s, addD_l, addD_t, subD_i, mulD_i, mulD_l, fdivD_i, modD_i, powD_i, ltD_i, ltD_s, leD_i, gtD_i, geD_i, isD_n, isnotD_n, isNonD_non, isNonD_bl, isNonD_int, isNonD_str, isNonD_lst, isNonD_tup, negD_i, iaddD_i, truD_non, truD_bl, truD_int, truD_str, truD_lst, truD_tup, someK_some, ixD_l, ixD_t, fAbs_i, fInt_i, fInt_b, fMin2_i, fLen_l, fLen_t, fLen_s, fList_l, fList_t, fTuple_l, fTuple_t, optBK_some, fIsi_non, fIsi_bl, fIsi_int, fIsi_str, fIsi_lst, fIsi_tup, List.getElem?_cons_zero, List.getElem?_cons_succ, List.set_cons_zero, List.set_cons_succ, DL.ggName, ggNil0, ggCons1, ggTup2, ggTup3, gFor, giSeq, gLc, gYes, wipeR, true_and, and_true, at_0, at_1, at_2, kit_int_int, kit_bool_int, kit_str_int, kit_non_int, kit_list_int, kit_tuple_int, kit_int_bool, kit_bool_bool, kit_str_bool, kit_non_bool, kit_list_bool, kit_tuple_bool, kit_int_str, kit_bool_str, kit_str_str, kit_non_str, kit_list_str, kit_tuple_str, kit_int_list, kit_bool_list, kit_str_list, kit_non_list, kit_list_list, kit_tuple_list, kit_int_tuple, kit_bool_tuple, kit_str_tuple, kit_non_tuple, kit_list_tuple, kit_tuple_tuple, eqD_i, neD_i, eqD_s, neD_s, eqD_f, neD_f, Nat.zero_add, Nat.reduceAdd, nc0, nc1, nc2, nc3, nc4, nc5, nc6, nc7, nc8, nc9, eq_self, decide_true, decide_false, Int.reduceEq, Int.reduceLT, Int.reduceLE, Int.reduceNeg, Bool.not_true, Bool.not_false, Bool.false_eq_true, if_true, if_false, ↓reduceIte, false_and, and_false, List.all_cons, List.all_nil, List.any_cons, List.any_nil, id_eq, Bool.and_true, Bool.true_and, Bool.or_false, Bool.false_or, Bool.and_false, Bool.false_and, gCut, eqD_b, neD_b, giZip, reduceCtorEq, Bool.true_eq_false, Bool.false_eq_true, gRevL, gSl, goNone, goSome, slD_l, ne_eq, not_false_eq_true, not_true_eq_false, gBM, isTy_l, isTy_s, new_at, new_set, isTy_new, cellK_new, append_new, popAt_new, gFrz_eq, frzK_new, fLen_new, fTuple_new, ixD_new, slA_l, slA_t, slA_new, addTD_t, addCD_l, mulCD_l, isbD_b, isnotbD_b, mSplitC_s, gLstC, gTr, ggSub, lstK_l, lstK_r, addLD_eq]
    refine ⟨c, 100 + 20 * rem.length + 12, ⟨rfl, by omega⟩, fun p c' hp hc' => ?_⟩
    have hf := fig_frac hp
    have l1 := txt_len hf.top
    have l2 := txt_len hf.bel
    refine ⟨fun ρ w' => ρ = [some (.scr ns), some .st, some (.lst xs), some x, some (.str (S (frL p))), some (fD p), none] ∧ w' = ⟨[], some c'⟩, ?_, ?_⟩
    · simp only [ixD_f0, ixD_f1, ggTup_f, fIsi_f, fLen_f, eqD_ff, neD_ff, sem0, List.map_cons, List.map_nil, List.length_cons, List.length_nil, gSeq, gNext, gRet, gRetN, gIfS, gSet, gPar, gAsg, gDrop, gVar, gC, gBin, gUn, gB, gTru, gAnd, gOr, gNot, gAndV, gOrV, gNotV, gIf, gChain, gaNil, gaCons, DL.gTup, gLst, gCB, gCall0, gAug, addD_i, addD_s, addD_l, addD_t, subD_i, mulD_i, mulD_l, fdivD_i, modD_i, powD_i, ltD_i, ltD_s, leD_i, gtD_i, geD_i, isD_n, isnotD_n, isNonD_non, isNonD_bl, isNonD_int, isNonD_str, isNonD_lst, isNonD_tup, negD_i, iaddD_i, truD_non, truD_bl, truD_int, truD_str, truD_lst, truD_tup, someK_some, ixD_l, ixD_t, fAbs_i, fInt_i, fInt_b, fMin2_i, fLen_l, fLen_t, fLen_s, fList_l, fList_t, fTuple_l, fTuple_t, optBK_some, fIsi_non, fIsi_bl, fIsi_int, fIsi_str, fIsi_lst, fIsi_tup, List.getElem?_cons_zero, List.getElem?_cons_succ, List.set_cons_zero, List.set_cons_succ, DL.ggName, ggNil0, ggCons1, ggTup2, ggTup3, gFor, giSeq, gLc, gYes, wipeR, true_and, and_true, at_0, at_1, at_2, kit_int_int, kit_bool_int, kit_str_int, kit_non_int, kit_list_int, kit_tuple_int, kit_int_bool, kit_bool_bool, kit_str_bool, kit_non_bool, kit_list_bool, kit_tuple_bool, kit_int_str, kit_bool_str, kit_str_str, kit_non_str, kit_list_str, kit_tuple_str, kit_int_list, kit_bool_list, kit_str_list, kit_non_list, kit_list_list, kit_tuple_list, kit_int_tuple, kit_bool_tuple, kit_str_tuple, kit_non_tuple, kit_list_tuple, kit_tuple_tuple, eqD_i, neD_i, eqD_s, neD_s, eqD_f, neD_f, Nat.zero_add, Nat.reduceAdd, nc0, nc1, nc2, nc3, nc4, nc5, nc6, nc7, nc8, nc9, eq_self, decide_true, decide_false, Int.reduceEq, Int.reduceLT, Int.reduceLE, Int.reduceNeg, Bool.not_true, Bool.not_false, Bool.false_eq_true, if_true, if_false, ↓reduceIte, false_and, and_false, List.all_cons, List.all_nil, List.any_cons, List.any_nil, id_eq, Bool.and_true, Bool.true_and, Bool.or_false, Bool.false_or, Bool.and_false, Bool.false_and, gCut, eqD_b, neD_b, giZip, reduceCtorEq, Bool.true_eq_false, Bool.false_eq_true, gRevL, gSl, goNone, goSome, slD_l, ne_eq, not_false_eq_true, not_true_eq_false, gBM, isTy_l, isTy_s, new_at, new_set, isTy_new, cellK_new, append_new, popAt_new, gFrz_eq, frzK_new, fLen_new, fTuple_new, ixD_new, slA_l, slA_t, slA_new, addTD_t, addCD_l, mulCD_l, isbD_b, isnotbD_b, mSplitC_s, gLstC, gTr, ggSub, lstK_l, lstK_r, addLD_eq]
      refine ⟨fig_long hf.top, ?_⟩
      unfold frL
      by_cases h1 : p.2 = 1
      · rw [decide_eq_true h1, if_pos h1, if_pos rfl, txt_str, nil_S, S_cat, List.append_nil, S_len, S_len]
        exact ⟨sl_of (by simp; omega), rfl⟩
      · rw [decide_eq_false h1, if_neg h1, if_neg (by decide), txt_str, txt_str, slash_S, S_cat, S_cat, S_len, S_len, S_len, S_len]
        exact ⟨fig_long hf.bel, sl_of (by simp; omega), sl_of (by simp; omega), rfl⟩
    · rintro ρ w' ⟨rfl, rfl⟩
      have h3 := frL_len hf
      simp only [sem0, List.map_cons, List.map_nil, List.length_cons, List.length_nil, gSeq, gNext, gRet, gRetN, gIfS, gSet, gPar, gAsg, gDrop, gVar, gC, gBin, gUn, gB, gTru, gAnd, gOr, gNot, gAndV, gOrV, gNotV, gIf, gChain, gaNil, gaCons, DL.gTup, gLst, gCB, gCall0, gAug, addD_i, addD_s, addD_l, addD_t, subD_i, mulD_i, mulD_l, fdivD_i, modD_i, powD_i, ltD_i, ltD_s, leD_i, gtD_i, geD_i, isD_n, isnotD_n, isNonD_non, isNonD_bl, isNonD_int, isNonD_str, isNonD_lst, isNonD_tup, negD_i, iaddD_i, truD_non, truD_bl, truD_int, truD_str, truD_lst, truD_tup, someK_some, ixD_l, ixD_t, fAbs_i, fInt_i, fInt_b, fMin2_i, fLen_l, fLen_t, fLen_s, fList_l, fList_t, fTuple_l, fTuple_t, optBK_some, fIsi_non, fIsi_bl, fIsi_int, fIsi_str, fIsi_lst, fIsi_tup, List.getElem?_cons_zero, List.getElem?_cons_succ, List.set_cons_zero, List.set_cons_succ, DL.ggName, ggNil0, ggCons1, ggTup2, ggTup3, gFor, giSeq, gLc, gYes, wipeR, true_and, and_true, at_0, at_1, at_2, kit_int_int, kit_bool_int, kit_str_int, kit_non_int, kit_list_int, kit_tuple_int, kit_int_bool, kit_bool_bool, kit_str_bool, kit_non_bool, kit_list_bool, kit_tuple_bool, kit_int_str, kit_bool_str, kit_str_str, kit_non_str, kit_list_str, kit_tuple_str, kit_int_list, kit_bool_list, kit_str_list, kit_non_list, kit_list_list, kit_tuple_list, kit_int_tuple, kit_bool_tuple, kit_str_tuple, kit_non_tuple, kit_list_tuple, kit_tuple_tuple, eqD_i, neD_i, eqD_s, neD_s, eqD_f, neD_f, Nat.zero_add, Nat.reduceAdd, nc0, nc1, nc2, nc3, nc4, nc5, nc6, nc7, nc8, nc9, eq_self, decide_true, decide_false, Int.reduceEq, Int.reduceLT, Int.reduceLE, Int.reduceNeg, Bool.not_true, Bool.not_false, Bool.false_eq_true, if_true, if_false, ↓reduceIte, false_and, and_false, List.all_cons, List.all_nil, List.any_cons, List.any_nil, id_eq, Bool.and_true, Bool.true_and, Bool.or_false, Bool.false_or, Bool.and_false, Bool.false_and, gCut, eqD_b, neD_b, giZip, reduceCtorEq, Bool.true_eq_false, Bool.false_eq_true, gRevL, gSl, goNone, goSome, slD_l, ne_eq, not_false_eq_true, not_true_eq_false, gBM, isTy_l, isTy_s, new_at, new_set, isTy_new, cellK_new, append_new, popAt_new, gFrz_eq, frzK_new, fLen_new, fTuple_new, ixD_new, slA_l, slA_t, slA_new, addTD_t, addCD_l, mulCD_l, isbD_b, isnotbD_b, mSplitC_s, gLstC, gTr, ggSub, lstK_l, lstK_r, addLD_eq]
      refine ⟨c', 100 + 20 * rem.length + 6, _, rfl, ⟨rfl, by omega⟩, h3, fun b1 c1 hb1 hc1 => ?_⟩
      refine ⟨c1, 100 + 20 * rem.length, _, rfl, ⟨rfl, by omega⟩, h3, fun b2 c2 hb2 hc2 => ?_⟩
      refine ⟨by decide, sl_of (by omega), _, c2, _, _, _, fun d hd => ?_, ?_, rfl, rfl, hc2⟩
      · rcases List.mem_append.mp hd with hd | hd
        · exact hx d hd
        · simp only [List.mem_cons, List.not_mem_nil, or_false] at hd
          rcases hd with rfl | rfl | rfl
          · exact ⟨_, rfl, by rw [S_len]; omega⟩
          · exact ⟨_, rfl, by rw [S_len]; omega⟩
          · exact ⟨_, rfl, by rw [S_len]; omega⟩
      · rw [List.length_append]
        show _ + 3 + _ ≤ _
        omega
theorem v_law (X : XF) : ∀ ds w kx k, sp_law ds w kx k → sem0 7 (g_law X) ds w kx k := by
  rintro ds w kx k ⟨ns, rfl, hl, rfl, hk⟩
  have e : rho 7 [D.scr ns] = [some (.scr ns), none, none, none, none, none, none] := rfl
  simp only [g_law, e, sp__law_begin, sem0, List.map_cons, List.map_nil, List.length_cons, List.length_nil, gSeq, gNext, gRet, gRetN, gIfS, gSet, gPar, gAsg, gDrop, gVar, gC, gBin, gUn, gB, gTru, gAnd, gOr, gNot, gAndV, gOrV, gNotV, gIf, gChain, gaNil, gaCons, DL.gTup, gLst, gCB, gCall0, gAug, addD_i, addD_s, addD_l, addD_t, subD_i, mulD_i, mulD_l, fdivD_i, modD_i, powD_i, ltD_i, ltD_s, leD_i, gtD_i, geD_i, isD_n, isnotD_n, isNonD_non, isNonD_bl, isNonD_int, isNonD_str, isNonD_lst, isNonD_tup, negD_i, iaddD_i, truD_non, truD_bl, truD_int, truD_str, truD_lst, truD_tup, someK_some, ixD_l, ixD_t, fAbs_i, fInt_i, fInt_b, fMin2_i, fLen_l, fLen_t, fLen_s, fList_l, fList_t, fTuple_l, fTuple_t, optBK_some, fIsi_non, fIsi_bl, fIsi_int, fIsi_str, fIsi_lst, fIsi_tup, List.getElem?_cons_zero, List.getElem?_cons_succ, List.set_cons_zero, List.set_cons_succ, DL.ggName, ggNil0, ggCons1, ggTup2, ggTup3, gFor, giSeq, gLc, gYes, wipeR, true_and, and_true, at_0, at_1, at_2, kit_int_int, kit_bool_int, kit_str_int, kit_non_int, kit_list_int, kit_tuple_int, kit_int_bool, kit_bool_bool, kit_str_bool, kit_non_bool, kit_list_bool, kit_tuple_bool, kit_int_str, kit_bool_str, kit_str_str, kit_non_str, kit_list_str, kit_tuple_str, kit_int_list, kit_bool_list, kit_str_list, kit_non_list, kit_list_list, kit_tuple_list, kit_int_tuple, kit_bool_tuple, kit_str_tuple, kit_non_tuple, kit_list_tuple, kit_tuple_tuple, eqD_i, neD_i, eqD_s, neD_s, eqD_f, neD_f, Nat.zero_add, Nat.reduceAdd, nc0, nc1, nc2, nc3, nc4, nc5, nc6, nc7, nc8, nc9, eq_self, decide_true, decide_false, Int.reduceEq, Int.reduceLT, Int.reduceLE, Int.reduceNeg, Bool.not_true, Bool.not_false, Bool.false_eq_true, if_true, if_false, ↓reduceIte, false_and, and_false, List.all_cons, List.all_nil, List.any_cons, List.any_nil, id_eq, Bool.and_true, Bool.true_and, Bool.or_false, Bool.false_or, Bool.and_false, Bool.false_and, gCut, eqD_b, neD_b, giZip, reduceCtorEq, Bool.true_eq_false, Bool.false_eq_true, gRevL, gSl, goNone, goSome, slD_l, ne_eq, not_false_eq_true, not_true_eq_false, gBM, isTy_l, isTy_s, new_at, new_set, isTy_new, cellK_new, append_new, popAt_new, gFrz_eq, frzK_new, fLen_new, fTuple_new, ixD_new, slA_l, slA_t, slA_new, addTD_t, addCD_l, mulCD_l, isbD_b, isnotbD_b, mSplitC_s, gLstC, gTr, ggSub, lstK_l, lstK_r, addLD_eq]
  refine ⟨ns, rfl, rfl, ?_⟩
  refine seqset_use (lst_use (n := 17) ?_ (by decide) fun xs hl hx => ?_)
  · iterate 17 (refine evs_c ?_ (by decide +kernel))
    exact evs_nil
  refine seqset_use (app_use (n := 13) ?_ (by decide) rfl ⟨hx, by omega⟩ fun ys hl2 hy => ?_)
  · iterate 13 (refine evs_c ?_ (by decide +kernel))
    exact evs_nil
  refine seqset_use (app_use (n := 6) ?_ (by decide) rfl ⟨hy, by omega⟩ fun zs hl3 hz => ?_)
  · refine evs_m (evs_m (evs_m (evs_am (evs_am (evs_am evs_nil ?_ ?_ ?_) ?_ ?_ ?_) ?_ ?_ ?_) ?_ ?_) ?_ ?_) ?_ ?_
    all_goals decide +kernel
  exact v_law_b4 X hz (by omega) rfl hk
theorem ok_law {P : Program} {w : World} {K : PySem.W.Frag} {mg : Str → Option Value} {base : Heap} {f : Addr} {fd : FuncData} (T : Fun K "law" "law" s_law f fd) (B : Blt mg) {X : XF} (XX : XFK K mg X) (F__law_begin : FnAt P w K mg base CX0 1 "_law_begin" 1 sp__law_begin) (F__law_fraction : FnAt P w K mg base CX0 3 "_law_fraction" 1 sp__law_fraction) (F__law_read : FnAt P w K mg base CX0 2 "_law_read" 1 sp__law_read) (F__law_same : FnAt P w K mg base CX0 6 "_law_same" 2 sp__law_same) (F__law_bent : FnAt P w K mg base CX0 2 "_law_bent" 2 sp__law_bent) (F__law_told : FnAt P w K mg base CX0 4 "_law_told" 1 (sp__law_told X)) (b_NoDg : NoDg K) : FnOk P w K mg base CX0 7 f fd ["_law_script"] (upF 1 K sp_law) := (w_law T B XX F__law_begin F__law_fraction F__law_read F__law_same F__law_bent F__law_told b_NoDg).imp (up_imp (v_law X))

theorem all_mk {l : PySem.W.OpenLaw} {w : World} {K : PySem.W.Frag} {h : Heap} {mg : Str → Option Value} {fa : Addr} (X : K.In h) (G : h.Ns mainGlobals mg) (hfa : mg "law" = some (.ref fa))
    {f0 : Addr} {od0 an0 : Option Addr} {sl0 : Array (Option Value)} {oc0 kV0 dc0 pm0 cd0 ct0 : Value}
    (a0 : PySem.W.nsIn K mainGlobals "_law_begin" = some (some (.ref f0)))
    (l0 : K.lookup f0 = some ⟨oc0, od0, .func (PySem.W.fnOf "_law_begin" "_law_begin" (defArgs s__law_begin) (defBody s__law_begin) (defScope s__law_begin) .none kV0 dc0 pm0 an0 cd0 ct0), sl0⟩) (c0 : PySem.W.codeIn K cd0 "_law_begin" = true) (k0 : PySem.W.keepIn K (.ref f0) = true)
    {f1 : Addr} {od1 an1 : Option Addr} {sl1 : Array (Option Value)} {oc1 kV1 dc1 pm1 cd1 ct1 : Value}
    (a1 : PySem.W.nsIn K mainGlobals "_law_lowest" = some (some (.ref f1)))
    (l1 : K.lookup f1 = some ⟨oc1, od1, .func (PySem.W.fnOf "_law_lowest" "_law_lowest" (defArgs s__law_lowest) (defBody s__law_lowest) (defScope s__law_lowest) .none kV1 dc1 pm1 an1 cd1 ct1), sl1⟩) (c1 : PySem.W.codeIn K cd1 "_law_lowest" = true) (k1 : PySem.W.keepIn K (.ref f1) = true)
    {f2 : Addr} {od2 an2 : Option Addr} {sl2 : Array (Option Value)} {oc2 kV2 dc2 pm2 cd2 ct2 : Value}
    (a2 : PySem.W.nsIn K mainGlobals "_law_take" = some (some (.ref f2)))
    (l2 : K.lookup f2 = some ⟨oc2, od2, .func (PySem.W.fnOf "_law_take" "_law_take" (defArgs s__law_take) (defBody s__law_take) (defScope s__law_take) .none kV2 dc2 pm2 an2 cd2 ct2), sl2⟩) (c2 : PySem.W.codeIn K cd2 "_law_take" = true) (k2 : PySem.W.keepIn K (.ref f2) = true)
    {f3 : Addr} {od3 an3 : Option Addr} {sl3 : Array (Option Value)} {oc3 kV3 dc3 pm3 cd3 ct3 : Value}
    (a3 : PySem.W.nsIn K mainGlobals "_law_number" = some (some (.ref f3)))
    (l3 : K.lookup f3 = some ⟨oc3, od3, .func (PySem.W.fnOf "_law_number" "_law_number" (defArgs s__law_number) (defBody s__law_number) (defScope s__law_number) .none kV3 dc3 pm3 an3 cd3 ct3), sl3⟩) (c3 : PySem.W.codeIn K cd3 "_law_number" = true) (k3 : PySem.W.keepIn K (.ref f3) = true)
    {f4 : Addr} {od4 an4 : Option Addr} {sl4 : Array (Option Value)} {oc4 kV4 dc4 pm4 cd4 ct4 : Value}
    (a4 : PySem.W.nsIn K mainGlobals "_law_fraction" = some (some (.ref f4)))
    (l4 : K.lookup f4 = some ⟨oc4, od4, .func (PySem.W.fnOf "_law_fraction" "_law_fraction" (defArgs s__law_fraction) (defBody s__law_fraction) (defScope s__law_fraction) .none kV4 dc4 pm4 an4 cd4 ct4), sl4⟩) (c4 : PySem.W.codeIn K cd4 "_law_fraction" = true) (k4 : PySem.W.keepIn K (.ref f4) = true)
    {f5 : Addr} {od5 an5 : Option Addr} {sl5 : Array (Option Value)} {oc5 kV5 dc5 pm5 cd5 ct5 : Value}
    (a5 : PySem.W.nsIn K mainGlobals "_law_is_plain" = some (some (.ref f5)))
    (l5 : K.lookup f5 = some ⟨oc5, od5, .func (PySem.W.fnOf "_law_is_plain" "_law_is_plain" (defArgs s__law_is_plain) (defBody s__law_is_plain) (defScope s__law_is_plain) .none kV5 dc5 pm5 an5 cd5 ct5), sl5⟩) (c5 : PySem.W.codeIn K cd5 "_law_is_plain" = true) (k5 : PySem.W.keepIn K (.ref f5) = true)
    {f6 : Addr} {od6 an6 : Option Addr} {sl6 : Array (Option Value)} {oc6 kV6 dc6 pm6 cd6 ct6 : Value}
    (a6 : PySem.W.nsIn K mainGlobals "_law_read" = some (some (.ref f6)))
    (l6 : K.lookup f6 = some ⟨oc6, od6, .func (PySem.W.fnOf "_law_read" "_law_read" (defArgs s__law_read) (defBody s__law_read) (defScope s__law_read) .none kV6 dc6 pm6 an6 cd6 ct6), sl6⟩) (c6 : PySem.W.codeIn K cd6 "_law_read" = true) (k6 : PySem.W.keepIn K (.ref f6) = true)
    {f7 : Addr} {od7 an7 : Option Addr} {sl7 : Array (Option Value)} {oc7 kV7 dc7 pm7 cd7 ct7 : Value}
    (a7 : PySem.W.nsIn K mainGlobals "_law_same" = some (some (.ref f7)))
    (l7 : K.lookup f7 = some ⟨oc7, od7, .func (PySem.W.fnOf "_law_same" "_law_same" (defArgs s__law_same) (defBody s__law_same) (defScope s__law_same) .none kV7 dc7 pm7 an7 cd7 ct7), sl7⟩) (c7 : PySem.W.codeIn K cd7 "_law_same" = true) (k7 : PySem.W.keepIn K (.ref f7) = true)
    {f8 : Addr} {od8 an8 : Option Addr} {sl8 : Array (Option Value)} {oc8 kV8 dc8 pm8 cd8 ct8 : Value}
    (a8 : PySem.W.nsIn K mainGlobals "_law_bent" = some (some (.ref f8)))
    (l8 : K.lookup f8 = some ⟨oc8, od8, .func (PySem.W.fnOf "_law_bent" "_law_bent" (defArgs s__law_bent) (defBody s__law_bent) (defScope s__law_bent) .none kV8 dc8 pm8 an8 cd8 ct8), sl8⟩) (c8 : PySem.W.codeIn K cd8 "_law_bent" = true) (k8 : PySem.W.keepIn K (.ref f8) = true)
    {f9 : Addr} {od9 an9 : Option Addr} {sl9 : Array (Option Value)} {oc9 kV9 dc9 pm9 cd9 ct9 : Value}
    (a9 : PySem.W.nsIn K mainGlobals "divisor_of" = some (some (.ref f9)))
    (l9 : K.lookup f9 = some ⟨oc9, od9, .func (PySem.W.fnOf "divisor_of" "divisor_of" (defArgs s_divisor_of) (defBody s_divisor_of) (defScope s_divisor_of) .none kV9 dc9 pm9 an9 cd9 ct9), sl9⟩) (c9 : PySem.W.codeIn K cd9 "divisor_of" = true) (k9 : PySem.W.keepIn K (.ref f9) = true)
    {f10 : Addr} {od10 an10 : Option Addr} {sl10 : Array (Option Value)} {oc10 kV10 dc10 pm10 cd10 ct10 : Value}
    (a10 : PySem.W.nsIn K mainGlobals "fraction_of" = some (some (.ref f10)))
    (l10 : K.lookup f10 = some ⟨oc10, od10, .func (PySem.W.fnOf "fraction_of" "fraction_of" (defArgs s_fraction_of) (defBody s_fraction_of) (defScope s_fraction_of) .none kV10 dc10 pm10 an10 cd10 ct10), sl10⟩) (c10 : PySem.W.codeIn K cd10 "fraction_of" = true) (k10 : PySem.W.keepIn K (.ref f10) = true)
    {f11 : Addr} {od11 an11 : Option Addr} {sl11 : Array (Option Value)} {oc11 kV11 dc11 pm11 cd11 ct11 : Value}
    (a11 : PySem.W.nsIn K mainGlobals "fraction_text" = some (some (.ref f11)))
    (l11 : K.lookup f11 = some ⟨oc11, od11, .func (PySem.W.fnOf "fraction_text" "fraction_text" (defArgs s_fraction_text) (defBody s_fraction_text) (defScope s_fraction_text) .none kV11 dc11 pm11 an11 cd11 ct11), sl11⟩) (c11 : PySem.W.codeIn K cd11 "fraction_text" = true) (k11 : PySem.W.keepIn K (.ref f11) = true)
    {f12 : Addr} {od12 an12 : Option Addr} {sl12 : Array (Option Value)} {oc12 kV12 dc12 pm12 cd12 ct12 : Value}
    (a12 : PySem.W.nsIn K mainGlobals "is_plain" = some (some (.ref f12)))
    (l12 : K.lookup f12 = some ⟨oc12, od12, .func (PySem.W.fnOf "is_plain" "is_plain" (defArgs s_is_plain) (defBody s_is_plain) (defScope s_is_plain) .none kV12 dc12 pm12 an12 cd12 ct12), sl12⟩) (c12 : PySem.W.codeIn K cd12 "is_plain" = true) (k12 : PySem.W.keepIn K (.ref f12) = true)
    {f13 : Addr} {od13 an13 : Option Addr} {sl13 : Array (Option Value)} {oc13 kV13 dc13 pm13 cd13 ct13 : Value}
    (a13 : PySem.W.nsIn K mainGlobals "fraction_in" = some (some (.ref f13)))
    (l13 : K.lookup f13 = some ⟨oc13, od13, .func (PySem.W.fnOf "fraction_in" "fraction_in" (defArgs s_fraction_in) (defBody s_fraction_in) (defScope s_fraction_in) .none kV13 dc13 pm13 an13 cd13 ct13), sl13⟩) (c13 : PySem.W.codeIn K cd13 "fraction_in" = true) (k13 : PySem.W.keepIn K (.ref f13) = true)
    {f14 : Addr} {od14 an14 : Option Addr} {sl14 : Array (Option Value)} {oc14 kV14 dc14 pm14 cd14 ct14 : Value}
    (a14 : PySem.W.nsIn K mainGlobals "_law_told" = some (some (.ref f14)))
    (l14 : K.lookup f14 = some ⟨oc14, od14, .func (PySem.W.fnOf "_law_told" "_law_told" (defArgs s__law_told) (defBody s__law_told) (defScope s__law_told) .none kV14 dc14 pm14 an14 cd14 ct14), sl14⟩) (c14 : PySem.W.codeIn K cd14 "_law_told" = true) (k14 : PySem.W.keepIn K (.ref f14) = true)
    {f15 : Addr} {od15 an15 : Option Addr} {sl15 : Array (Option Value)} {oc15 kV15 dc15 pm15 cd15 ct15 : Value}
    (a15 : PySem.W.nsIn K mainGlobals "law" = some (some (.ref f15)))
    (l15 : K.lookup f15 = some ⟨oc15, od15, .func (PySem.W.fnOf "law" "law" (defArgs s_law) (defBody s_law) (defScope s_law) .none kV15 dc15 pm15 an15 cd15 ct15), sl15⟩) (c15 : PySem.W.codeIn K cd15 "law" = true) (k15 : PySem.W.keepIn K (.ref f15) = true)
    (z0 : PySem.W.nsIn K mainGlobals "abs" = some none)
    (z1 : PySem.W.nsIn K mainGlobals "len" = some none)
    (z2 : PySem.W.nsIn K mainGlobals "isinstance" = some none)
    (z3 : PySem.W.nsIn K mainGlobals "all" = some none)
    (z4 : PySem.W.nsIn K mainGlobals "any" = some none)
    (z5 : PySem.W.nsIn K mainGlobals "sum" = some none)
    (z6 : PySem.W.nsIn K mainGlobals "list" = some none)
    (z7 : PySem.W.nsIn K mainGlobals "tuple" = some none)
    (z8 : PySem.W.nsIn K mainGlobals "int" = some none)
    (z9 : PySem.W.nsIn K mainGlobals "bool" = some none)
    (z10 : PySem.W.nsIn K mainGlobals "str" = some none)
    (z11 : PySem.W.nsIn K mainGlobals "min" = some none)
    (z12 : PySem.W.nsIn K mainGlobals "max" = some none)
    (z13 : PySem.W.nsIn K mainGlobals "range" = some none)
    (z14 : PySem.W.nsIn K mainGlobals "zip" = some none)
    (z15 : PySem.W.nsIn K mainGlobals "sorted" = some none)
    (z16 : PySem.W.nsIn K mainGlobals "enumerate" = some none)
    (z17 : PySem.W.nsIn K mainGlobals "divmod" = some none)
    {tk0 : Tok} (m0 : PySem.W.nsIn K mainGlobals "MOST_FIGURES" = some (some (.int (1000) tk0)))
    {tk1 : Tok} (m1 : PySem.W.nsIn K mainGlobals "FIGURES" = some (some (.str "0123456789" tk1)))
    (yA0 : PySem.W.nsOkIn K cStatics = true) (yB0 : PySem.W.nsIn K cStatics "sys.int_max_str_digits" = some none)
    (y1 : PySem.W.nsIn K mainGlobals "ValueError" = some none)
    {C_bf C_taken C_noname C_toomuch C_norate C_noneleft C_endless C_badrow C_royal : Addr}
    (xa_bf : PySem.W.nsIn K mainGlobals "BadFraction" = some (some (.ref C_bf)))
    (xk_bf : PySem.W.keepIn K (.ref C_bf) = true)
    (xd_bf : PySem.W.hasDictIn K C_bf = true)
    (xt_bf : PySem.W.typeIn K (.ref C_bf) = some (.type "type"))
    (xb_bf : PySem.W.subIn K (.ref C_bf) (.type "BaseException") = some true)
    (xa_taken : PySem.W.nsIn K mainGlobals "Taken" = some (some (.ref C_taken)))
    (xk_taken : PySem.W.keepIn K (.ref C_taken) = true)
    (xd_taken : PySem.W.hasDictIn K C_taken = true)
    (xt_taken : PySem.W.typeIn K (.ref C_taken) = some (.type "type"))
    (xb_taken : PySem.W.subIn K (.ref C_taken) (.type "BaseException") = some true)
    (xa_noname : PySem.W.nsIn K mainGlobals "NoName" = some (some (.ref C_noname)))
    (xk_noname : PySem.W.keepIn K (.ref C_noname) = true)
    (xd_noname : PySem.W.hasDictIn K C_noname = true)
    (xt_noname : PySem.W.typeIn K (.ref C_noname) = some (.type "type"))
    (xb_noname : PySem.W.subIn K (.ref C_noname) (.type "BaseException") = some true)
    (xa_toomuch : PySem.W.nsIn K mainGlobals "TooMuch" = some (some (.ref C_toomuch)))
    (xk_toomuch : PySem.W.keepIn K (.ref C_toomuch) = true)
    (xd_toomuch : PySem.W.hasDictIn K C_toomuch = true)
    (xt_toomuch : PySem.W.typeIn K (.ref C_toomuch) = some (.type "type"))
    (xb_toomuch : PySem.W.subIn K (.ref C_toomuch) (.type "BaseException") = some true)
    (xa_norate : PySem.W.nsIn K mainGlobals "NoRate" = some (some (.ref C_norate)))
    (xk_norate : PySem.W.keepIn K (.ref C_norate) = true)
    (xd_norate : PySem.W.hasDictIn K C_norate = true)
    (xt_norate : PySem.W.typeIn K (.ref C_norate) = some (.type "type"))
    (xb_norate : PySem.W.subIn K (.ref C_norate) (.type "BaseException") = some true)
    (xa_noneleft : PySem.W.nsIn K mainGlobals "NoneLeft" = some (some (.ref C_noneleft)))
    (xk_noneleft : PySem.W.keepIn K (.ref C_noneleft) = true)
    (xd_noneleft : PySem.W.hasDictIn K C_noneleft = true)
    (xt_noneleft : PySem.W.typeIn K (.ref C_noneleft) = some (.type "type"))
    (xb_noneleft : PySem.W.subIn K (.ref C_noneleft) (.type "BaseException") = some true)
    (xa_endless : PySem.W.nsIn K mainGlobals "Endless" = some (some (.ref C_endless)))
    (xk_endless : PySem.W.keepIn K (.ref C_endless) = true)
    (xd_endless : PySem.W.hasDictIn K C_endless = true)
    (xt_endless : PySem.W.typeIn K (.ref C_endless) = some (.type "type"))
    (xb_endless : PySem.W.subIn K (.ref C_endless) (.type "BaseException") = some true)
    (xa_badrow : PySem.W.nsIn K mainGlobals "BadRow" = some (some (.ref C_badrow)))
    (xk_badrow : PySem.W.keepIn K (.ref C_badrow) = true)
    (xd_badrow : PySem.W.hasDictIn K C_badrow = true)
    (xt_badrow : PySem.W.typeIn K (.ref C_badrow) = some (.type "type"))
    (xb_badrow : PySem.W.subIn K (.ref C_badrow) (.type "BaseException") = some true)
    (xa_royal : PySem.W.nsIn K mainGlobals "RoyalError" = some (some (.ref C_royal)))
    (xk_royal : PySem.W.keepIn K (.ref C_royal) = true)
    (xd_royal : PySem.W.hasDictIn K C_royal = true)
    (xt_royal : PySem.W.typeIn K (.ref C_royal) = some (.type "type"))
    (xb_royal : PySem.W.subIn K (.ref C_royal) (.type "BaseException") = some true)
    (xe_bf : PySem.W.excIn K C_bf [.type "ValueError", .type "Exception", .type "BaseException", .type "object"] "ValueError.__new__" = true)
    (xv_bf : PySem.W.subIn K (.ref C_bf) (.type "ValueError") = some true)
    (xg_bf : PySem.W.findIn K (.ref C_bf) "__getattribute__" = some (some (.builtin "BaseException.__getattribute__")))
    (xh_bf : PySem.W.findIn K (.ref C_bf) "__getattr__" = some none)
    (xc_bf : PySem.W.findIn K (.ref C_bf) "__class__" = some (some (.builtin "object.__class__")))
    (xm_bf : PySem.W.mroIn K C_bf (.type "object") = some true)
    (xs_bf_bf : PySem.W.subIn K (.ref C_bf) (.ref C_bf) = some true)
    (xs_bf_taken : PySem.W.subIn K (.ref C_bf) (.ref C_taken) = some false)
    (xs_bf_noname : PySem.W.subIn K (.ref C_bf) (.ref C_noname) = some false)
    (xs_bf_toomuch : PySem.W.subIn K (.ref C_bf) (.ref C_toomuch) = some false)
    (xs_bf_norate : PySem.W.subIn K (.ref C_bf) (.ref C_norate) = some false)
    (xs_bf_noneleft : PySem.W.subIn K (.ref C_bf) (.ref C_noneleft) = some false)
    (xs_bf_endless : PySem.W.subIn K (.ref C_bf) (.ref C_endless) = some false)
    (xs_bf_badrow : PySem.W.subIn K (.ref C_bf) (.ref C_badrow) = some false)
    (xs_bf_royal : PySem.W.subIn K (.ref C_bf) (.ref C_royal) = some true)
    (xe_taken : PySem.W.excIn K C_taken [.type "ValueError", .type "Exception", .type "BaseException", .type "object"] "ValueError.__new__" = true)
    (xv_taken : PySem.W.subIn K (.ref C_taken) (.type "ValueError") = some true)
    (xg_taken : PySem.W.findIn K (.ref C_taken) "__getattribute__" = some (some (.builtin "BaseException.__getattribute__")))
    (xh_taken : PySem.W.findIn K (.ref C_taken) "__getattr__" = some none)
    (xc_taken : PySem.W.findIn K (.ref C_taken) "__class__" = some (some (.builtin "object.__class__")))
    (xm_taken : PySem.W.mroIn K C_taken (.type "object") = some true)
    (xs_taken_bf : PySem.W.subIn K (.ref C_taken) (.ref C_bf) = some false)
    (xs_taken_taken : PySem.W.subIn K (.ref C_taken) (.ref C_taken) = some true)
    (xs_taken_noname : PySem.W.subIn K (.ref C_taken) (.ref C_noname) = some false)
    (xs_taken_toomuch : PySem.W.subIn K (.ref C_taken) (.ref C_toomuch) = some false)
    (xs_taken_norate : PySem.W.subIn K (.ref C_taken) (.ref C_norate) = some false)
    (xs_taken_noneleft : PySem.W.subIn K (.ref C_taken) (.ref C_noneleft) = some false)
    (xs_taken_endless : PySem.W.subIn K (.ref C_taken) (.ref C_endless) = some false)
    (xs_taken_badrow : PySem.W.subIn K (.ref C_taken) (.ref C_badrow) = some false)
    (xs_taken_royal : PySem.W.subIn K (.ref C_taken) (.ref C_royal) = some true)
    (xe_noname : PySem.W.excIn K C_noname [.type "ValueError", .type "Exception", .type "BaseException", .type "object"] "ValueError.__new__" = true)
    (xv_noname : PySem.W.subIn K (.ref C_noname) (.type "ValueError") = some true)
    (xg_noname : PySem.W.findIn K (.ref C_noname) "__getattribute__" = some (some (.builtin "BaseException.__getattribute__")))
    (xh_noname : PySem.W.findIn K (.ref C_noname) "__getattr__" = some none)
    (xc_noname : PySem.W.findIn K (.ref C_noname) "__class__" = some (some (.builtin "object.__class__")))
    (xm_noname : PySem.W.mroIn K C_noname (.type "object") = some true)
    (xs_noname_bf : PySem.W.subIn K (.ref C_noname) (.ref C_bf) = some false)
    (xs_noname_taken : PySem.W.subIn K (.ref C_noname) (.ref C_taken) = some false)
    (xs_noname_noname : PySem.W.subIn K (.ref C_noname) (.ref C_noname) = some true)
    (xs_noname_toomuch : PySem.W.subIn K (.ref C_noname) (.ref C_toomuch) = some false)
    (xs_noname_norate : PySem.W.subIn K (.ref C_noname) (.ref C_norate) = some false)
    (xs_noname_noneleft : PySem.W.subIn K (.ref C_noname) (.ref C_noneleft) = some false)
    (xs_noname_endless : PySem.W.subIn K (.ref C_noname) (.ref C_endless) = some false)
    (xs_noname_badrow : PySem.W.subIn K (.ref C_noname) (.ref C_badrow) = some false)
    (xs_noname_royal : PySem.W.subIn K (.ref C_noname) (.ref C_royal) = some true)
    (xe_toomuch : PySem.W.excIn K C_toomuch [.type "ValueError", .type "Exception", .type "BaseException", .type "object"] "ValueError.__new__" = true)
    (xv_toomuch : PySem.W.subIn K (.ref C_toomuch) (.type "ValueError") = some true)
    (xg_toomuch : PySem.W.findIn K (.ref C_toomuch) "__getattribute__" = some (some (.builtin "BaseException.__getattribute__")))
    (xh_toomuch : PySem.W.findIn K (.ref C_toomuch) "__getattr__" = some none)
    (xc_toomuch : PySem.W.findIn K (.ref C_toomuch) "__class__" = some (some (.builtin "object.__class__")))
    (xm_toomuch : PySem.W.mroIn K C_toomuch (.type "object") = some true)
    (xs_toomuch_bf : PySem.W.subIn K (.ref C_toomuch) (.ref C_bf) = some false)
    (xs_toomuch_taken : PySem.W.subIn K (.ref C_toomuch) (.ref C_taken) = some false)
    (xs_toomuch_noname : PySem.W.subIn K (.ref C_toomuch) (.ref C_noname) = some false)
    (xs_toomuch_toomuch : PySem.W.subIn K (.ref C_toomuch) (.ref C_toomuch) = some true)
    (xs_toomuch_norate : PySem.W.subIn K (.ref C_toomuch) (.ref C_norate) = some false)
    (xs_toomuch_noneleft : PySem.W.subIn K (.ref C_toomuch) (.ref C_noneleft) = some false)
    (xs_toomuch_endless : PySem.W.subIn K (.ref C_toomuch) (.ref C_endless) = some false)
    (xs_toomuch_badrow : PySem.W.subIn K (.ref C_toomuch) (.ref C_badrow) = some false)
    (xs_toomuch_royal : PySem.W.subIn K (.ref C_toomuch) (.ref C_royal) = some true)
    (xe_norate : PySem.W.excIn K C_norate [.type "ValueError", .type "Exception", .type "BaseException", .type "object"] "ValueError.__new__" = true)
    (xv_norate : PySem.W.subIn K (.ref C_norate) (.type "ValueError") = some true)
    (xg_norate : PySem.W.findIn K (.ref C_norate) "__getattribute__" = some (some (.builtin "BaseException.__getattribute__")))
    (xh_norate : PySem.W.findIn K (.ref C_norate) "__getattr__" = some none)
    (xc_norate : PySem.W.findIn K (.ref C_norate) "__class__" = some (some (.builtin "object.__class__")))
    (xm_norate : PySem.W.mroIn K C_norate (.type "object") = some true)
    (xs_norate_bf : PySem.W.subIn K (.ref C_norate) (.ref C_bf) = some false)
    (xs_norate_taken : PySem.W.subIn K (.ref C_norate) (.ref C_taken) = some false)
    (xs_norate_noname : PySem.W.subIn K (.ref C_norate) (.ref C_noname) = some false)
    (xs_norate_toomuch : PySem.W.subIn K (.ref C_norate) (.ref C_toomuch) = some false)
    (xs_norate_norate : PySem.W.subIn K (.ref C_norate) (.ref C_norate) = some true)
    (xs_norate_noneleft : PySem.W.subIn K (.ref C_norate) (.ref C_noneleft) = some false)
    (xs_norate_endless : PySem.W.subIn K (.ref C_norate) (.ref C_endless) = some false)
    (xs_norate_badrow : PySem.W.subIn K (.ref C_norate) (.ref C_badrow) = some false)
    (xs_norate_royal : PySem.W.subIn K (.ref C_norate) (.ref C_royal) = some true)
    (xe_noneleft : PySem.W.excIn K C_noneleft [.type "ValueError", .type "Exception", .type "BaseException", .type "object"] "ValueError.__new__" = true)
    (xv_noneleft : PySem.W.subIn K (.ref C_noneleft) (.type "ValueError") = some true)
    (xg_noneleft : PySem.W.findIn K (.ref C_noneleft) "__getattribute__" = some (some (.builtin "BaseException.__getattribute__")))
    (xh_noneleft : PySem.W.findIn K (.ref C_noneleft) "__getattr__" = some none)
    (xc_noneleft : PySem.W.findIn K (.ref C_noneleft) "__class__" = some (some (.builtin "object.__class__")))
    (xm_noneleft : PySem.W.mroIn K C_noneleft (.type "object") = some true)
    (xs_noneleft_bf : PySem.W.subIn K (.ref C_noneleft) (.ref C_bf) = some false)
    (xs_noneleft_taken : PySem.W.subIn K (.ref C_noneleft) (.ref C_taken) = some false)
    (xs_noneleft_noname : PySem.W.subIn K (.ref C_noneleft) (.ref C_noname) = some false)
    (xs_noneleft_toomuch : PySem.W.subIn K (.ref C_noneleft) (.ref C_toomuch) = some false)
    (xs_noneleft_norate : PySem.W.subIn K (.ref C_noneleft) (.ref C_norate) = some false)
    (xs_noneleft_noneleft : PySem.W.subIn K (.ref C_noneleft) (.ref C_noneleft) = some true)
    (xs_noneleft_endless : PySem.W.subIn K (.ref C_noneleft) (.ref C_endless) = some false)
    (xs_noneleft_badrow : PySem.W.subIn K (.ref C_noneleft) (.ref C_badrow) = some false)
    (xs_noneleft_royal : PySem.W.subIn K (.ref C_noneleft) (.ref C_royal) = some true)
    (xn : PySem.W.specialIn K (.builtin "object.__class__") "__get__" = some (some (.builtin "getset_descriptor.__get__")))
    (xq : PySem.W.takesIn K (.builtin "object.__class__") = some true)
    : ∃ fd : FuncData, (∀ (s : Shared) (v : Value), BindsTo s fd ⟨[v], []⟩ [("_law_script", v)]) ∧ ∀ base : Heap, K.In base → base.Ns mainGlobals mg → FnOk l.prog w K mg base CX0 7 fa fd ["_law_script"] (upF 1 K sp_law) := by
  have e := hfa.symm.trans (PySem.W.mg_of X G a15)
  cases e
  have B : Blt mg := ⟨PySem.W.mg_none_of X G z0, PySem.W.mg_none_of X G z1, PySem.W.mg_none_of X G z2, PySem.W.mg_none_of X G z3, PySem.W.mg_none_of X G z4, PySem.W.mg_none_of X G z5, PySem.W.mg_none_of X G z6, PySem.W.mg_none_of X G z7, PySem.W.mg_none_of X G z8, PySem.W.mg_none_of X G z9, PySem.W.mg_none_of X G z10, PySem.W.mg_none_of X G z11, PySem.W.mg_none_of X G z12, PySem.W.mg_none_of X G z13, PySem.W.mg_none_of X G z14, PySem.W.mg_none_of X G z15, PySem.W.mg_none_of X G z16, PySem.W.mg_none_of X G z17⟩
  obtain ⟨Xf, XX⟩ := xfk_mk (PySem.W.mg_of X G xa_bf) xk_bf xd_bf xt_bf xb_bf (PySem.W.mg_of X G xa_taken) xk_taken xd_taken xt_taken xb_taken (PySem.W.mg_of X G xa_noname) xk_noname xd_noname xt_noname xb_noname (PySem.W.mg_of X G xa_toomuch) xk_toomuch xd_toomuch xt_toomuch xb_toomuch (PySem.W.mg_of X G xa_norate) xk_norate xd_norate xt_norate xb_norate (PySem.W.mg_of X G xa_noneleft) xk_noneleft xd_noneleft xt_noneleft xb_noneleft (PySem.W.mg_of X G xa_endless) xk_endless xd_endless xt_endless xb_endless (PySem.W.mg_of X G xa_badrow) xk_badrow xd_badrow xt_badrow xb_badrow (PySem.W.mg_of X G xa_royal) xk_royal xd_royal xt_royal xb_royal xe_bf xv_bf xg_bf xh_bf xc_bf xm_bf xs_bf_bf xs_bf_taken xs_bf_noname xs_bf_toomuch xs_bf_norate xs_bf_noneleft xs_bf_endless xs_bf_badrow xs_bf_royal xe_taken xv_taken xg_taken xh_taken xc_taken xm_taken xs_taken_bf xs_taken_taken xs_taken_noname xs_taken_toomuch xs_taken_norate xs_taken_noneleft xs_taken_endless xs_taken_badrow xs_taken_royal xe_noname xv_noname xg_noname xh_noname xc_noname xm_noname xs_noname_bf xs_noname_taken xs_noname_noname xs_noname_toomuch xs_noname_norate xs_noname_noneleft xs_noname_endless xs_noname_badrow xs_noname_royal xe_toomuch xv_toomuch xg_toomuch xh_toomuch xc_toomuch xm_toomuch xs_toomuch_bf xs_toomuch_taken xs_toomuch_noname xs_toomuch_toomuch xs_toomuch_norate xs_toomuch_noneleft xs_toomuch_endless xs_toomuch_badrow xs_toomuch_royal xe_norate xv_norate xg_norate xh_norate xc_norate xm_norate xs_norate_bf xs_norate_taken xs_norate_noname xs_norate_toomuch xs_norate_norate xs_norate_noneleft xs_norate_endless xs_norate_badrow xs_norate_royal xe_noneleft xv_noneleft xg_noneleft xh_noneleft xc_noneleft xm_noneleft xs_noneleft_bf xs_noneleft_taken xs_noneleft_noname xs_noneleft_toomuch xs_noneleft_norate xs_noneleft_noneleft xs_noneleft_endless xs_noneleft_badrow xs_noneleft_royal xn xq
  have U0 := fun_mk (st := s__law_begin) l0 c0 k0
  have T0 : DefAt K mg "_law_begin" s__law_begin ["_law_script"] := ⟨_, _, U0, PySem.W.mg_of X G a0, U0.binds (ps := ["_law_script"]) fun _ _ _ _ _ _ us hl => match us, hl with | [_], _ => rfl⟩
  have U1 := fun_mk (st := s__law_lowest) l1 c1 k1
  have T1 : DefAt K mg "_law_lowest" s__law_lowest ["_law_top", "_law_below"] := ⟨_, _, U1, PySem.W.mg_of X G a1, U1.binds (ps := ["_law_top", "_law_below"]) fun _ _ _ _ _ _ us hl => match us, hl with | [_, _], _ => rfl⟩
  have U2 := fun_mk (st := s__law_take) l2 c2 k2
  have T2 : DefAt K mg "_law_take" s__law_take ["_law_state", "_law_many"] := ⟨_, _, U2, PySem.W.mg_of X G a2, U2.binds (ps := ["_law_state", "_law_many"]) fun _ _ _ _ _ _ us hl => match us, hl with | [_, _], _ => rfl⟩
  have U3 := fun_mk (st := s__law_number) l3 c3 k3
  have T3 : DefAt K mg "_law_number" s__law_number ["_law_state"] := ⟨_, _, U3, PySem.W.mg_of X G a3, U3.binds (ps := ["_law_state"]) fun _ _ _ _ _ _ us hl => match us, hl with | [_], _ => rfl⟩
  have U4 := fun_mk (st := s__law_fraction) l4 c4 k4
  have T4 : DefAt K mg "_law_fraction" s__law_fraction ["_law_state"] := ⟨_, _, U4, PySem.W.mg_of X G a4, U4.binds (ps := ["_law_state"]) fun _ _ _ _ _ _ us hl => match us, hl with | [_], _ => rfl⟩
  have U5 := fun_mk (st := s__law_is_plain) l5 c5 k5
  have T5 : DefAt K mg "_law_is_plain" s__law_is_plain ["_law_word"] := ⟨_, _, U5, PySem.W.mg_of X G a5, U5.binds (ps := ["_law_word"]) fun _ _ _ _ _ _ us hl => match us, hl with | [_], _ => rfl⟩
  have U6 := fun_mk (st := s__law_read) l6 c6 k6
  have T6 : DefAt K mg "_law_read" s__law_read ["_law_text"] := ⟨_, _, U6, PySem.W.mg_of X G a6, U6.binds (ps := ["_law_text"]) fun _ _ _ _ _ _ us hl => match us, hl with | [_], _ => rfl⟩
  have U7 := fun_mk (st := s__law_same) l7 c7 k7
  have T7 : DefAt K mg "_law_same" s__law_same ["_law_found", "_law_due"] := ⟨_, _, U7, PySem.W.mg_of X G a7, U7.binds (ps := ["_law_found", "_law_due"]) fun _ _ _ _ _ _ us hl => match us, hl with | [_, _], _ => rfl⟩
  have U8 := fun_mk (st := s__law_bent) l8 c8 k8
  have T8 : DefAt K mg "_law_bent" s__law_bent ["_law_state", "_law_text"] := ⟨_, _, U8, PySem.W.mg_of X G a8, U8.binds (ps := ["_law_state", "_law_text"]) fun _ _ _ _ _ _ us hl => match us, hl with | [_, _], _ => rfl⟩
  have U9 := fun_mk (st := s_divisor_of) l9 c9 k9
  have T9 : DefAt K mg "divisor_of" s_divisor_of ["one", "other"] := ⟨_, _, U9, PySem.W.mg_of X G a9, U9.binds (ps := ["one", "other"]) fun _ _ _ _ _ _ us hl => match us, hl with | [_, _], _ => rfl⟩
  have U10 := fun_mk (st := s_fraction_of) l10 c10 k10
  have T10 : DefAt K mg "fraction_of" s_fraction_of ["top", "below"] := ⟨_, _, U10, PySem.W.mg_of X G a10, U10.binds (ps := ["top", "below"]) fun _ _ _ _ _ _ us hl => match us, hl with | [_, _], _ => rfl⟩
  have U11 := fun_mk (st := s_fraction_text) l11 c11 k11
  have T11 : DefAt K mg "fraction_text" s_fraction_text ["one"] := ⟨_, _, U11, PySem.W.mg_of X G a11, U11.binds (ps := ["one"]) fun _ _ _ _ _ _ us hl => match us, hl with | [_], _ => rfl⟩
  have U12 := fun_mk (st := s_is_plain) l12 c12 k12
  have T12 : DefAt K mg "is_plain" s_is_plain ["text"] := ⟨_, _, U12, PySem.W.mg_of X G a12, U12.binds (ps := ["text"]) fun _ _ _ _ _ _ us hl => match us, hl with | [_], _ => rfl⟩
  have U13 := fun_mk (st := s_fraction_in) l13 c13 k13
  have T13 : DefAt K mg "fraction_in" s_fraction_in ["text"] := ⟨_, _, U13, PySem.W.mg_of X G a13, U13.binds (ps := ["text"]) fun _ _ _ _ _ _ us hl => match us, hl with | [_], _ => rfl⟩
  have U14 := fun_mk (st := s__law_told) l14 c14 k14
  have T14 : DefAt K mg "_law_told" s__law_told ["_law_text"] := ⟨_, _, U14, PySem.W.mg_of X G a14, U14.binds (ps := ["_law_text"]) fun _ _ _ _ _ _ us hl => match us, hl with | [_], _ => rfl⟩
  have U15 := fun_mk (st := s_law) l15 c15 k15
  refine ⟨PySem.W.fnOf "law" "law" (defArgs s_law) (defBody s_law) (defScope s_law) .none kV15 dc15 pm15 an15 cd15 ct15, fun s v => .of_eq rfl, fun base _ _ => ?_⟩
  have R0 : FnAt l.prog w K mg base CX0 1 "_law_begin" 1 sp__law_begin := ok__law_begin T0 B 
  have R1 : FnAt l.prog w K mg base CX0 1 "_law_lowest" 2 sp__law_lowest := ok__law_lowest T1 B 
  have R2 : FnAt l.prog w K mg base CX0 1 "_law_take" 2 sp__law_take := ok__law_take T2 B 
  have R3 : FnAt l.prog w K mg base CX0 2 "_law_number" 1 sp__law_number := ok__law_number T3 B R2
  have R4 : FnAt l.prog w K mg base CX0 3 "_law_fraction" 1 sp__law_fraction := ok__law_fraction T4 B R1 R2 R3
  have R5 : FnAt l.prog w K mg base CX0 1 "_law_is_plain" 1 sp__law_is_plain := ok__law_is_plain T5 B 
  have R6 : FnAt l.prog w K mg base CX0 2 "_law_read" 1 sp__law_read := ok__law_read T6 B R5 R1 ⟨yA0, yB0⟩
  have R7 : FnAt l.prog w K mg base CX0 6 "_law_same" 2 sp__law_same := ok__law_same T7 B 
  have R8 : FnAt l.prog w K mg base CX0 2 "_law_bent" 2 sp__law_bent := ok__law_bent T8 B R2
  have R9 : FnAt l.prog w K mg base CX0 1 "divisor_of" 2 sp_divisor_of := ok_divisor_of T9 B 
  have R10 : FnAt l.prog w K mg base CX0 2 "fraction_of" 2 sp_fraction_of := ok_fraction_of T10 B R9
  have R11 : FnAt l.prog w K mg base CX0 1 "fraction_text" 1 sp_fraction_text := ok_fraction_text T11 B  ⟨yA0, yB0⟩
  have R12 : FnAt l.prog w K mg base CX0 1 "is_plain" 1 sp_is_plain := ok_is_plain T12 B  (PySem.W.mg_of X G m0) (PySem.W.mg_of X G m1)
  have R13 : FnAt l.prog w K mg base (L2.CX l.prog w) 3 "fraction_in" 1 (sp_fraction_in Xf) := ok_fraction_in T13 B XX R10 R11 R12 ⟨yA0, yB0⟩
  have R14 : FnAt l.prog w K mg base CX0 4 "_law_told" 1 (sp__law_told Xf) := ok__law_told T14 B XX R13 (PySem.W.mg_none_of X G y1)
  exact ok_law U15 B XX R0 R4 R6 R7 R8 R14 ⟨yA0, yB0⟩
end LW

open PySem PySem.W PyProof.Rows
set_option maxHeartbeats 0 in
theorem PySem.Challenge.cw_royaltree_k05_texts_that_are_no_fraction_holds : PySem.Challenge.rw_royaltree_k05_texts_that_are_no_fraction.Holds := by
  w_on; o_law; k_head; (case hw => w_witness2)
  k_fill
  refine L2.walk_of (l := PySem.Challenge.rw_royaltree_k05_texts_that_are_no_fraction) (n := 63) (k := 7) (x := "_law_script") (CX := fun _ => L2.CX0) (sp := fun w => DL.upF 1 _ LW.sp_law) rfl (by decide) rfl ⟨rfl, by decide, by decide⟩ (fun w h Y => PySem.W.kIn_of Y) ?F (fun _ _ a ns hl _ hS => DL.law_start hl hS) (fun _ _ _ _ _ h => h)
  case F =>
    intro w mg fa h KX G hmg
    refine' LW.all_mk KX G hmg ?a0 ?l0 ?c0 ?k0 ?a1 ?l1 ?c1 ?k1 ?a2 ?l2 ?c2 ?k2 ?a3 ?l3 ?c3 ?k3 ?a4 ?l4 ?c4 ?k4 ?a5 ?l5 ?c5 ?k5 ?a6 ?l6 ?c6 ?k6 ?a7 ?l7 ?c7 ?k7 ?a8 ?l8 ?c8 ?k8 ?a9 ?l9 ?c9 ?k9 ?a10 ?l10 ?c10 ?k10 ?a11 ?l11 ?c11 ?k11 ?a12 ?l12 ?c12 ?k12 ?a13 ?l13 ?c13 ?k13 ?a14 ?l14 ?c14 ?k14 ?a15 ?l15 ?c15 ?k15 ?z0 ?z1 ?z2 ?z3 ?z4 ?z5 ?z6 ?z7 ?z8 ?z9 ?z10 ?z11 ?z12 ?z13 ?z14 ?z15 ?z16 ?z17 ?m0 ?m1 ?yA0 ?yB0 ?y1 ?xa_bf ?xk_bf ?xd_bf ?xt_bf ?xb_bf ?xa_taken ?xk_taken ?xd_taken ?xt_taken ?xb_taken ?xa_noname ?xk_noname ?xd_noname ?xt_noname ?xb_noname ?xa_toomuch ?xk_toomuch ?xd_toomuch ?xt_toomuch ?xb_toomuch ?xa_norate ?xk_norate ?xd_norate ?xt_norate ?xb_norate ?xa_noneleft ?xk_noneleft ?xd_noneleft ?xt_noneleft ?xb_noneleft ?xa_endless ?xk_endless ?xd_endless ?xt_endless ?xb_endless ?xa_badrow ?xk_badrow ?xd_badrow ?xt_badrow ?xb_badrow ?xa_royal ?xk_royal ?xd_royal ?xt_royal ?xb_royal ?xe_bf ?xv_bf ?xg_bf ?xh_bf ?xc_bf ?xm_bf ?xs_bf_bf ?xs_bf_taken ?xs_bf_noname ?xs_bf_toomuch ?xs_bf_norate ?xs_bf_noneleft ?xs_bf_endless ?xs_bf_badrow ?xs_bf_royal ?xe_taken ?xv_taken ?xg_taken ?xh_taken ?xc_taken ?xm_taken ?xs_taken_bf ?xs_taken_taken ?xs_taken_noname ?xs_taken_toomuch ?xs_taken_norate ?xs_taken_noneleft ?xs_taken_endless ?xs_taken_badrow ?xs_taken_royal ?xe_noname ?xv_noname ?xg_noname ?xh_noname ?xc_noname ?xm_noname ?xs_noname_bf ?xs_noname_taken ?xs_noname_noname ?xs_noname_toomuch ?xs_noname_norate ?xs_noname_noneleft ?xs_noname_endless ?xs_noname_badrow ?xs_noname_royal ?xe_toomuch ?xv_toomuch ?xg_toomuch ?xh_toomuch ?xc_toomuch ?xm_toomuch ?xs_toomuch_bf ?xs_toomuch_taken ?xs_toomuch_noname ?xs_toomuch_toomuch ?xs_toomuch_norate ?xs_toomuch_noneleft ?xs_toomuch_endless ?xs_toomuch_badrow ?xs_toomuch_royal ?xe_norate ?xv_norate ?xg_norate ?xh_norate ?xc_norate ?xm_norate ?xs_norate_bf ?xs_norate_taken ?xs_norate_noname ?xs_norate_toomuch ?xs_norate_norate ?xs_norate_noneleft ?xs_norate_endless ?xs_norate_badrow ?xs_norate_royal ?xe_noneleft ?xv_noneleft ?xg_noneleft ?xh_noneleft ?xc_noneleft ?xm_noneleft ?xs_noneleft_bf ?xs_noneleft_taken ?xs_noneleft_noname ?xs_noneleft_toomuch ?xs_noneleft_norate ?xs_noneleft_noneleft ?xs_noneleft_endless ?xs_noneleft_badrow ?xs_noneleft_royal ?xn ?xq
    (case a0 => k_is); (case l0 => k_is); (case c0 => k_is); (case k0 => k_is); (case a1 => k_is); (case l1 => k_is); (case c1 => k_is); (case k1 => k_is); (case a2 => k_is); (case l2 => k_is); (case c2 => k_is); (case k2 => k_is); (case a3 => k_is); (case l3 => k_is); (case c3 => k_is); (case k3 => k_is); (case a4 => k_is); (case l4 => k_is); (case c4 => k_is); (case k4 => k_is); (case a5 => k_is); (case l5 => k_is); (case c5 => k_is); (case k5 => k_is); (case a6 => k_is); (case l6 => k_is); (case c6 => k_is); (case k6 => k_is); (case a7 => k_is); (case l7 => k_is); (case c7 => k_is); (case k7 => k_is); (case a8 => k_is); (case l8 => k_is); (case c8 => k_is); (case k8 => k_is); (case a9 => k_is); (case l9 => k_is); (case c9 => k_is); (case k9 => k_is); (case a10 => k_is); (case l10 => k_is); (case c10 => k_is); (case k10 => k_is); (case a11 => k_is); (case l11 => k_is); (case c11 => k_is); (case k11 => k_is); (case a12 => k_is); (case l12 => k_is); (case c12 => k_is); (case k12 => k_is); (case a13 => k_is); (case l13 => k_is); (case c13 => k_is); (case k13 => k_is); (case a14 => k_is); (case l14 => k_is); (case c14 => k_is); (case k14 => k_is); (case a15 => k_is); (case l15 => k_is); (case c15 => k_is); (case k15 => k_is); (case z0 => k_is); (case z1 => k_is); (case z2 => k_is); (case z3 => k_is); (case z4 => k_is); (case z5 => k_is); (case z6 => k_is); (case z7 => k_is); (case z8 => k_is); (case z9 => k_is); (case z10 => k_is); (case z11 => k_is); (case z12 => k_is); (case z13 => k_is); (case z14 => k_is); (case z15 => k_is); (case z16 => k_is); (case z17 => k_is); (case m0 => k_is); (case m1 => k_is); (case yA0 => kernel_rfl); (case yB0 => k_is); (case y1 => k_is); (case xa_bf => k_is); (case xk_bf => k_is); (case xd_bf => k_is); (case xt_bf => k_is); (case xb_bf => k_is); (case xa_taken => k_is); (case xk_taken => k_is); (case xd_taken => k_is); (case xt_taken => k_is); (case xb_taken => k_is); (case xa_noname => k_is); (case xk_noname => k_is); (case xd_noname => k_is); (case xt_noname => k_is); (case xb_noname => k_is); (case xa_toomuch => k_is); (case xk_toomuch => k_is); (case xd_toomuch => k_is); (case xt_toomuch => k_is); (case xb_toomuch => k_is); (case xa_norate => k_is); (case xk_norate => k_is); (case xd_norate => k_is); (case xt_norate => k_is); (case xb_norate => k_is); (case xa_noneleft => k_is); (case xk_noneleft => k_is); (case xd_noneleft => k_is); (case xt_noneleft => k_is); (case xb_noneleft => k_is); (case xa_endless => k_is); (case xk_endless => k_is); (case xd_endless => k_is); (case xt_endless => k_is); (case xb_endless => k_is); (case xa_badrow => k_is); (case xk_badrow => k_is); (case xd_badrow => k_is); (case xt_badrow => k_is); (case xb_badrow => k_is); (case xa_royal => k_is); (case xk_royal => k_is); (case xd_royal => k_is); (case xt_royal => k_is); (case xb_royal => k_is); (case xe_bf => kernel_rfl); (case xv_bf => k_is); (case xg_bf => k_is); (case xh_bf => k_is); (case xc_bf => k_is); (case xm_bf => k_is); (case xs_bf_bf => k_is); (case xs_bf_taken => k_is); (case xs_bf_noname => k_is); (case xs_bf_toomuch => k_is); (case xs_bf_norate => k_is); (case xs_bf_noneleft => k_is); (case xs_bf_endless => k_is); (case xs_bf_badrow => k_is); (case xs_bf_royal => k_is); (case xe_taken => kernel_rfl); (case xv_taken => k_is); (case xg_taken => k_is); (case xh_taken => k_is); (case xc_taken => k_is); (case xm_taken => k_is); (case xs_taken_bf => k_is); (case xs_taken_taken => k_is); (case xs_taken_noname => k_is); (case xs_taken_toomuch => k_is); (case xs_taken_norate => k_is); (case xs_taken_noneleft => k_is); (case xs_taken_endless => k_is); (case xs_taken_badrow => k_is); (case xs_taken_royal => k_is); (case xe_noname => kernel_rfl); (case xv_noname => k_is); (case xg_noname => k_is); (case xh_noname => k_is); (case xc_noname => k_is); (case xm_noname => k_is); (case xs_noname_bf => k_is); (case xs_noname_taken => k_is); (case xs_noname_noname => k_is); (case xs_noname_toomuch => k_is); (case xs_noname_norate => k_is); (case xs_noname_noneleft => k_is); (case xs_noname_endless => k_is); (case xs_noname_badrow => k_is); (case xs_noname_royal => k_is); (case xe_toomuch => kernel_rfl); (case xv_toomuch => k_is); (case xg_toomuch => k_is); (case xh_toomuch => k_is); (case xc_toomuch => k_is); (case xm_toomuch => k_is); (case xs_toomuch_bf => k_is); (case xs_toomuch_taken => k_is); (case xs_toomuch_noname => k_is); (case xs_toomuch_toomuch => k_is); (case xs_toomuch_norate => k_is); (case xs_toomuch_noneleft => k_is); (case xs_toomuch_endless => k_is); (case xs_toomuch_badrow => k_is); (case xs_toomuch_royal => k_is); (case xe_norate => kernel_rfl); (case xv_norate => k_is); (case xg_norate => k_is); (case xh_norate => k_is); (case xc_norate => k_is); (case xm_norate => k_is); (case xs_norate_bf => k_is); (case xs_norate_taken => k_is); (case xs_norate_noname => k_is); (case xs_norate_toomuch => k_is); (case xs_norate_norate => k_is); (case xs_norate_noneleft => k_is); (case xs_norate_endless => k_is); (case xs_norate_badrow => k_is); (case xs_norate_royal => k_is); (case xe_noneleft => kernel_rfl); (case xv_noneleft => k_is); (case xg_noneleft => k_is); (case xh_noneleft => k_is); (case xc_noneleft => k_is); (case xm_noneleft => k_is); (case xs_noneleft_bf => k_is); (case xs_noneleft_taken => k_is); (case xs_noneleft_noname => k_is); (case xs_noneleft_toomuch => k_is); (case xs_noneleft_norate => k_is); (case xs_noneleft_noneleft => k_is); (case xs_noneleft_endless => k_is); (case xs_noneleft_badrow => k_is); (case xs_noneleft_royal => k_is); (case xn => k_is); (case xq => k_is)




