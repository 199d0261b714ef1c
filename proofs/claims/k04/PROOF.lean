import PyProof.Rows.All
import Wide.All
import OpenK.AllK
import Wide.FinOn
import KE.KIsAll
import KE.KTryMore
import HandS.ForMost
import HandS.Exc
import HandS.TryOnly
import HandS.ExcOwn
import HandS.ExcIs
import HandS.IsInst
import HandS.Wide
import HandS.Deep
import HandS.Zip
import HandS.More
import HandS.TupAny
import HandS.TupMul
import HandS.SortInts
import HandS.Remove
import HandS.Style
import HandS.HeadHook1
import HandS.Text
import HandS.FStr
import KE.GoesMore
import KE.GoesEnum
import PyProof.ListMulRoad
import PyProof.FactsAll.tuple_2
import KE.KRevSl
import KE.GoesZip
import HandS.NoneIn
import KE.DataFind
import HandS.Defaults
import HandS.EndBits
import HandS.HeadEnd
import HandS.Head0
import HandS.Head1
import HandS.Head2
import HandS.HeadHook2
import HandS.Codes
import PySem.Challenge.RW_tolimit_k04_whole_field_of_fractions
section
set_option Elab.async false
set_option linter.all false
set_option maxRecDepth 100000
set_option maxHeartbeats 4000000
namespace L2
open PySem PySem.Spec PyProof.Rows
def ExZ (cls : Value) (a : Addr) : HO := .ext fun h => ∃ (oe : Obj) (vs : Array Value), h.get? a = some oe ∧ Zc cls none oe ∧ oe.data = .fields vs
theorem exZ_ok {P : Program} {w : World} {H : Hp} {h : Heap} {a : Addr} {cls : Value} {oe : Obj} {vs : Array Value} (e : h.get? a = some oe) (z : Zc cls none oe) (d : oe.data = .fields vs) : ObjOk P w H h a (ExZ cls a) :=
  ⟨⟨oe, vs, e, z, d⟩, ⟨oe, e⟩, fun _ _ ⟨o, v, q, r⟩ k => ⟨o, v, k o q, r⟩⟩
section
variable {X : Cx} {pins : List (Addr × Obj)} {σ : St} {H : Hp} {s : Shared}
theorem Inv.track {a : Addr} {cls : Value} {oe : Obj} {vs : Array Value} (I : Inv X pins σ H s) (e : s.heap.get? a = some oe) (z : Zc cls none oe) (d : oe.data = .fields vs) (na : H a = none) (n0 : X.s_0.heap.get? a = none) (nL : a ≠ X.env.locals)
    (np : ∀ p ∈ X.pn ++ pins, p.1 ≠ a) : Inv X pins σ (upd H a (ExZ cls a)) s := by
  have ne : ∀ b o, H b = some o → b ≠ a := fun b o q => ne_of_none q na
  refine ⟨I.ok, I.os, I.bare, ⟨I.base.keep, I.base.slot, fun b o q n hx => ?_, I.base.there, fun b xs q => ?_, fun b o u q => ?_, fun b ps q => ?_⟩, I.loc, I.cell, ?_, fun x c q => ?_, fun p hp => ?_, fun b ob q => ?_, I.len⟩
  · rw [upd_ne (fun z => by rw [z, n0] at q; cases q)]
    exact I.base.free b o q n hx
  · have q := I.base.tups b xs q
    rw [upd_ne (ne _ _ q)]; exact q
  · have q := I.base.frzs b o u q
    rw [upd_ne (ne _ _ q)]; exact q
  · obtain ⟨m, q⟩ := I.base.tbls b ps q
    exact ⟨m, by rw [upd_ne (ne _ _ q)]; exact q⟩
  · rw [upd_ne (Ne.symm nL)]; exact I.free
  · rw [upd_ne (fun z => by
      obtain ⟨v, o, ho, hd⟩ := I.cell x c q
      rw [z, e] at ho
      cases ho
      rw [d] at hd
      cases hd)]
    exact I.freeC x c q
  · obtain ⟨e1, e2, e3⟩ := I.pin p hp
    exact ⟨e1, by rw [upd_ne (np p hp)]; exact e2, e3⟩
  · by_cases hb : b = a
    · subst hb
      rw [upd_same] at q
      cases q
      exact exZ_ok e z d
    · rw [upd_ne hb] at q
      exact (I.hok b ob q).stay (fun c v _ q => q) (fun c q => by rw [upd_ne (ne _ _ q)]; exact q) fun c xs q => by rw [upd_ne (ne _ _ q)]; exact q
end
def wKeep (K : PySem.W.Frag) (c : Value) (i : Nat) (ts : TS) (D : Ends) : WX := fun cls d σ H =>
  PySem.W.exmOne K cls c = some true ∧ d = none ∧ ∀ a, H a = none → ts { nx := fun σ' H' => D.nx (σ'.set i none) (upd H' a (ExZ cls a)), rt := fun _ _ => False, bk := fun _ _ => False, ct := fun _ _ => False } (σ.set i (some (.ref a))) H
section
variable {X : Cx} {x n : Str} {c : Value} {i : Nat} {body suite : List Stmt} {b₀ : Stmt} {np pos pos' : Pos} {tb : WX → TS} {ts : TS}
theorem ps_try_keep (hs : X.stack = X.env :: X.outer) (hf : X.env.frame = some X.env.locals) (hex : X.ex = []) (hN : X.N.Nodup) (hi : X.N[i]? = some n) (hln : X.env.kindOf n = some .local) (hc : Names X x c)
    (hb : ∀ (W : WX) (pn : List (Addr × Obj)) (xe : Value → Shared → Prop), Takes (X.tr pn xe) W → PassesOwn (model X.prog X.w) X.A X.env xe → PSs (X.tr pn xe) body (tb W))
    (hsu : ∀ (a : Addr) (pn : List (Addr × Obj)), PSs (X.suite a pn) (b₀ :: suite) ts) :
    PS X (.Try body [.ExceptHandler (some (.Name x np)) (some n) (b₀ :: suite) pos'] [] [] pos) (fun D σ H => tb (wKeep X.K c i ts D) D σ H) := by
  refine ⟨fun pins s σ H D I h => ?_⟩
  have ok := I.ok
  have hfr : X.A.frames = some (X.env :: X.outer) := by rw [ok.frames, hs]
  have hloc : Loc X.env.scope n := .inl hln
  refine wpAny_Try_except ?_
  refine wpAny_mono ((hb (wKeep X.K c i ts D) (X.pn ++ pins) (fun e s₁ => wpAny (model X.prog X.w) X.A (noteFrame e X.env) (fun _ s₂ => wpAny (model X.prog X.w) X.A (setFlight e none) (fun _ s₃ =>
    wpAny (model X.prog X.w) X.A (handleBy e X.env [.ExceptHandler (some (.Name x np)) (some n) (b₀ :: suite) pos']) (SP X pins D) X.xe s₃) X.xe s₂) X.xe s₁) (fun u s' xx => ?_) PassesOwn.looking).run [] s σ H D (I.toTry _) h) (fun f s1 hsp => ?_) (fun e s1 he => he)
  · obtain ⟨a, B, sI, pins', σ', H', cls, d, rfl, J', nb, up, sky, na, os, ag, hb1, hd0, hyes⟩ := xx
    subst hd0
    have J : Inv X pins σ' H' sI := J'.ofTry ok
    have sky' : Sky B (X.env :: X.outer) a (Zc cls none) X.env.locals s'.heap := by rw [← hs]; exact sky
    show wpAny (model X.prog X.w) X.A (noteFrame (.ref a) X.env) _ _ _
    refine Sky.land Zc.steady hfr hf sky' fun h3 fl3 up3 => ?_
    have J3 : Inv X pins σ' H' { s' with heap := h3 } := J.landed nb fl3.1 (up.trans up3) os ag
    obtain ⟨oe3, vs3, he3, hz3, hd3⟩ := fl3.there
    have notFr : ∀ {h : Heap} {o : Obj} {vs : Array Value}, h.FunFrames B (X.env :: X.outer) → h.get? a = some o → o.data = .fields vs → a ∉ frs (X.env :: X.outer) := fun {h o vs} ff e dd hm => by
      obtain ⟨_, o', e', hnf⟩ := ff.mem hm
      rw [e] at e'; cases e'
      exact hnf _ dd
    have nfr := notFr fl3.2.2.1 he3 hd3
    have nL : a ≠ X.env.locals := fun z => nfr (List.mem_filterMap.mpr ⟨X.env, List.mem_cons_self, by rw [hf, z]⟩)
    have nF : a ∉ X.fs := fun hm => by
      obtain ⟨e, he, q⟩ := List.mem_filterMap.mp hm
      exact nfr (List.mem_filterMap.mpr ⟨e, List.mem_cons_of_mem _ he, q⟩)
    have nI : sI.heap.get? a = none := by
      cases q : sI.heap.get? a with
      | none => rfl
      | some o =>
        have z := nb a o q (by rw [hs]; exact nfr)
        rw [fl3.2.1] at z
        cases z
    have n0 : X.s_0.heap.get? a = none := by
      cases q : X.s_0.heap.get? a with
      | none => rfl
      | some o =>
        obtain ⟨o', z⟩ := J.base.there a o q (by rw [hex]; exact fun z => nomatch z)
        rw [nI] at z
        cases z
    have npn : ∀ p ∈ X.pn ++ pins, p.1 ≠ a := fun p hp z => by
      have q := (J.pin p hp).1
      rw [z, nI] at q
      cases q
    have S3 := J3.suite he3 hd3 na nL nF
    refine wpAny_handleBy_cons (codeAny_handlers_test ?_) (by intro q; cases q)
    have LT : PySem.W.Looks (model X.prog X.w) h3 (typeOf (.ref a)) cls := fun A Q E s k q => wpAny_typeOf_ref (k _ _ he3) (by rw [hz3.1]; exact q)
    have LM := PySem.W.exm_one (M := model X.prog X.w) (J3.kIn) LT hb1
    have test : ∀ {Q : Value → Shared → Prop} {E : Value → Shared → Prop}, Q c { s' with heap := h3 } → wpAny (model X.prog X.w) (X.A.mark (some (.ref a))) (eval (.Name x np) X.env) Q E { s' with heap := h3 } := fun {Q E} q => by
      obtain ⟨hg, hdbg, hm | ⟨hm, hv, hnn⟩⟩ := hc
      · exact ld_glob (X := X.suite a ((a, oe3) :: (X.pn ++ pins))) S3 hg hm q hdbg
      · exact ld_blt (X := X.suite a ((a, oe3) :: (X.pn ++ pins))) S3 hg hm hv q hnn hdbg
    refine test (LM.here ?_)
    refine codeAny_handlers_suite_as ?_
    refine HandSPX.lands_againZ fl3 fun h4 fl4 up4 => ?_
    have J4 : Inv X pins σ' H' { s' with heap := h4 } := J.landed nb fl4.1 ((up.trans up3).trans up4) os ag
    obtain ⟨oe4, vs4, he4, hz4, hd4⟩ := fl4.there
    have S4 := J4.suite he4 hd4 na nL nF
    refine store_ok (X := X.suite a ((a, oe4) :: (X.pn ++ pins))) (v := .ref a) S4 hN hi hloc rfl (fun s5 S5 => ?_) (.inr hln)
    refine wpAny_mono ((hsu a ((a, oe4) :: (X.pn ++ pins))).run [] s5 _ H' _ S5 (hyes a na)) (fun f s6 hsp => ?_) (fun _ _ z => False.elim z)
    cases f with
    | next =>
      obtain ⟨σ6, H6, S6, q6⟩ := hsp
      obtain ⟨p1, p2, _⟩ := S6.pin (a, oe4) (List.mem_append.mpr (.inl List.mem_cons_self))
      have T6 : Inv X pins σ6 (upd H6 a (ExZ cls a)) s6 := (S6.unsuite ok).track p1 hz4 hd4 p2 n0 nL npn
      exact gone_ok T6 hN hi hln fun s7 J7 => ⟨_, _, J7, q6⟩
    | brk =>
      obtain ⟨σ6, H6, S6, q6⟩ := hsp
      exact q6.elim
    | cont =>
      obtain ⟨σ6, H6, S6, q6⟩ := hsp
      exact q6.elim
    | ret u =>
      obtain ⟨v6, σ6, H6, S6, r6, q6⟩ := hsp
      exact q6.elim
  · cases f with
    | next =>
      obtain ⟨σ', H', J', q⟩ := hsp
      exact wpAny_execs_nil ⟨σ', H', J'.ofTry ok, q⟩
    | brk =>
      obtain ⟨σ', H', J', q⟩ := hsp
      exact ⟨σ', H', J'.ofTry ok, q⟩
    | cont =>
      obtain ⟨σ', H', J', q⟩ := hsp
      exact ⟨σ', H', J'.ofTry ok, q⟩
    | ret u =>
      obtain ⟨v, σ', H', J', r, q⟩ := hsp
      exact ⟨v, σ', H', J'.ofTry ok, r, q⟩
end
def excC (K : PySem.W.Frag) (D : Addr) : Bool :=
  decide (PySem.W.findIn K (.ref D) "__getattribute__" = some (some (.builtin "BaseException.__getattribute__"))) && decide (PySem.W.findIn K (.ref D) "__getattr__" = some none) && decide (PySem.W.subIn K (.ref D) (.type "BaseException") = some true) &&
  PySem.W.hasDictIn K D && decide (PySem.W.findIn K (.ref D) "__class__" = some (some (.builtin "object.__class__"))) && decide (PySem.W.specialIn K (.builtin "object.__class__") "__get__" = some (some (.builtin "getset_descriptor.__get__"))) &&
  decide (PySem.W.takesIn K (.builtin "object.__class__") = some true) && decide (PySem.W.mroIn K D (.type "object") = some true)
theorem excC_ok {K : PySem.W.Frag} {D : Addr} (h : excC K D = true) : ExcC K D := by
  unfold excC at h
  simp only [Bool.and_eq_true, decide_eq_true_eq] at h
  obtain ⟨⟨⟨⟨⟨⟨⟨h1, h2⟩, h3⟩, h4⟩, h5⟩, h6⟩, h7⟩, h8⟩ := h
  exact ⟨h1, h2, h3, h4, h5, h6, h7, h8⟩
section
variable {X : Cx} {pins : List (Addr × Obj)} {σ : St} {H : Hp} {s : Shared}
theorem kit_exZ {a D : Addr} (C : ExcC X.K D) (I : Inv X pins σ H s) (ha : H a = some (ExZ (.ref D) a)) : ∃ P : Heap → Prop, PySem.W.KitX X.K (.ref a) (.ref D) P ∧ P s.heap := by
  obtain ⟨⟨oe, vs, hget, hz, hv⟩, _, _⟩ := I.hok a _ ha
  have J : PySem.W.InstAt s.heap a oe D none := by
    obtain ⟨oc, od, oda, osl⟩ := oe
    obtain ⟨h1, h2⟩ := hz
    dsimp only at h1 h2 hv
    subst h1 h2 hv
    exact ⟨hget, rfl, rfl, trivial⟩
  exact ⟨_, PySem.W.handS_kitx_exc C.hg C.hk C.hs C.hd C.ha C.hn C.ht C.hm, J⟩
def rIsZ (K : PySem.W.Frag) : List V → Hp → VK → Prop := fun xs H Q => ∃ (a D : Addr) (c : V) (u : Value) (b : Bool), xs = [.ref a, c] ∧ H a = some (ExZ (.ref D) a) ∧ ExcC K D ∧ ClsV c u ∧ PySem.W.kitOne K (.ref D) u = some b ∧ Q (.bl b) H
def rIsZT (K : PySem.W.Frag) : List V → Hp → VK → Prop := fun xs H Q => ∃ (a D tp : Addr) (cs : List V) (us : List Value) (b : Bool), xs = [.ref a, .ref tp] ∧ H a = some (ExZ (.ref D) a) ∧ ExcC K D ∧ SqT K H tp cs ∧ Paired ClsV cs us ∧ PySem.W.kitAny K (.ref D) us = some b ∧ Q (.bl b) H
theorem call_isZ : CallR X (.builtin "isinstance") (rIsZ X.K) := by
  intro pins s σ H xs us Q I r h
  obtain ⟨a, D, c, u, b, rfl, ha, C, k, e, q⟩ := h
  obtain ⟨u1, u2, rfl, r1, r2⟩ := vals2 r
  cases (show u1 = Value.ref a from r1)
  have e2 := k.eq r2
  subst e2
  obtain ⟨P, Z, p⟩ := kit_exZ C I ha
  exact PySem.W.kia_one Z I.kIn p e (fun z => nomatch z) fun tk => ⟨.bl b, H, I.tok tk, rfl, q⟩
theorem call_isZT : CallR X (.builtin "isinstance") (rIsZT X.K) := by
  intro pins s σ H xs us Q I r h
  obtain ⟨a, D, tp, cs, ws, b, rfl, ha, C, hT, k, e, q⟩ := h
  obtain ⟨u1, u2, rfl, r1, r2⟩ := vals2 r
  cases (show u1 = Value.ref a from r1)
  cases (show u2 = Value.ref tp from r2)
  obtain ⟨P, Z, p⟩ := kit_exZ C I ha
  obtain ⟨its, rv, ⟨o, h1, h2, n, h3⟩, _⟩ := I.tuple hT
  have e3 := ClsV.all k rv
  subst e3
  obtain ⟨oc, od, dt, sl⟩ := o
  simp only at h2 h3
  subst h2 h3
  exact PySem.W.kia_tup Z I.kIn p h1 e (fun z => nomatch z) fun tk => ⟨.bl b, H, I.tok tk, rfl, q⟩
end
end L2
end
section
set_option Elab.async false
set_option linter.all false
set_option maxRecDepth 100000
namespace Vm
open PySem PySem.Spec L2
inductive D where
  | non | bl (b : Bool) | int (i : Int) | str (x : Str) | tup (l : List D) | lst (l : List D)
  | dic (l : List (Int × D)) | exc (c : Str) (l : List D)
  | scr (l : List Int) | cls (x : Str)
  deriving Inhabited
inductive R (α : Type) where
  | ok (a : α) | ex (c : Str) (l : List D) | bad
def R.bind {α β : Type} (x : R α) (f : α → R β) : R β := match x with
  | .ok a => f a
  | .ex c l => .ex c l
  | .bad => .bad
inductive Slot where
  | no | val (d : D) | own (l : List D)
abbrev En := List Slot
mutual
def D.py : D → PyData
  | .non => .none
  | .bl b => .bool b
  | .int i => .int i
  | .str x => .str x
  | .tup l => .tuple (D.pyAll l)
  | .lst l => .list (D.pyAll l)
  | .dic l => .dict (D.pyKv l)
  | .exc _ _ => .none
  | .scr _ => .none
  | .cls _ => .none
def D.pyAll : List D → List PyData
  | [] => []
  | d :: l => d.py :: D.pyAll l
def D.pyKv : List (Int × D) → List (PyData × PyData)
  | [] => []
  | (k, d) :: l => (.int k, d.py) :: D.pyKv l
end
mutual
def D.plain : D → Bool
  | .tup l => D.plainAll l
  | .lst l => D.plainAll l
  | .dic _ => false
  | .exc _ _ => false
  | .scr _ => false
  | .cls _ => false
  | .str x => PyData.strOk x
  | _ => true
def D.plainAll : List D → Bool
  | [] => true
  | d :: l => d.plain && D.plainAll l
end
inductive Ty where
  | int | bool | str | tuple | list
  deriving DecidableEq
inductive Pr where
  | tup | lst | not | neg
  | add | sub | mul | fdiv | mod | pow
  | eq | ne | lt | le | gt | ge | isn | nisn | inn | nin
  | ix | slA | slB | slC | rev
  | len | abs | max1 | max2 | min2 | int | repr | list | tuple | sorted | sum | all | any | isi (t : Ty) | isx | isv | stri | fmt | part (sep : Str)
  deriving DecidableEq
inductive Ik where
  | seq | rng1 | rng2 | rng3 | enum | zip
  deriving DecidableEq
inductive Tg where
  | n (i : Nat) | t (l : List Nat)
  deriving DecidableEq
inductive E where
  | c (d : D) | g (x : Str) | v (i : Nat) | bw (i : Nat) | io (i : Nat)
  | pr (p : Pr) (l : List E)
  | and_ (a b : E) | or_ (a b : E) | ite (t a b : E)
  | ch (o p : Pr) (a b c : E)
  | call (f : Str) (l : List E) (dl : List D)
  | lc (elt : E) (tg : Tg) (k : Ik) (l : List E) (cond : Option E) (vs : List Nat)
  | lcb (elt : E) (tg : Tg) (i : Nat) (cond : Option E) (vs : List Nat)
inductive AV where
  | d (d : D) | b (i : Nat) | o (i : Nat)
structure Tab where
  has : Str → Bool
  call : Str → List Slot → R (D × Option (List D))
  glob : Str → Option D
  fresh : Str → Bool
  dflt : Str → List D
  exc : Str → Option (List D)
def mulOk (a b : Int) : Bool := decide (a.natAbs.log2 + b.natAbs.log2 ≤ 130000000)
def divOk (j : Int) : Bool := decide (0 < j) && decide (j.natAbs.log2 < 9000)
def dneg (i j : Int) : Option Int := if decide (j < 0) && decide (j.natAbs.log2 < 9000) then some (i.fdiv j) else if decide (j ≠ 0) && !Builtin.divisionGoesByPylong i j then some (i.fdiv j) else none
def powOk (a j : Int) : Bool := decide (0 ≤ j) && decide (j ≤ 1000000) && decide (a.natAbs < 2 ^ 64)
def lineN : Nat := 1000000
def ixL (l : List D) (i : Int) : R D := match ixN l.length i with
  | some j => (match l[j]? with
    | some d => .ok d
    | none => .bad)
  | none => .bad
def cut (l : List D) (lo hi : Option Int) : List D := (l.drop (HT.sIx l.length 0 lo)).take (HT.sIx l.length l.length hi - HT.sIx l.length 0 lo)
def D.eqv (a b : D) : Bool := PyData.eqv a.py b.py
def D.okEq (d : D) : Bool := d.plain && decide (d.py.depth ≤ 64)
def D.okShow (d : D) : Bool := d.plain && decide (d.py.depth ≤ 64) && d.py.showable && decide (d.py.shown.length ≤ sizeLine)
def intsD : List D → Option (List Int)
  | [] => some []
  | .int i :: l => (intsD l).map (i :: ·)
  | _ :: _ => none
def boolsD : List D → Option (List Bool)
  | [] => some []
  | .bl i :: l => (boolsD l).map (i :: ·)
  | _ :: _ => none
def maxI : List Int → Int
  | [] => 0
  | [a] => a
  | a :: l => max a (maxI l)
def Ty.name : Ty → String
  | .int => "int"
  | .bool => "bool"
  | .str => "str"
  | .tuple => "tuple"
  | .list => "list"
def isa : Ty → D → Option Bool
  | .int, .int _ => some true
  | .int, .bl _ => some true
  | .bool, .bl _ => some true
  | .str, .str _ => some true
  | .tuple, .tup _ => some true
  | .list, .lst _ => some true
  | _, .dic _ => none
  | _, .exc _ _ => none
  | _, .scr _ => none
  | _, .cls _ => none
  | _, _ => some false
def chrD (c : Nat) : D := .str ⟨#[c]⟩
def chrsD (x : Str) : List D := x.cps.toList.map chrD
def p_tup : List D → R D
  | l => if l.length ≤ lineN then .ok (.tup l) else .bad
def p_lst : List D → R D
  | l => if l.length ≤ lineN then .ok (.lst l) else .bad
def p_not : List D → R D
  | [.bl b] => .ok (.bl (!b))
  | _ => .bad
def p_neg : List D → R D
  | [.int i] => .ok (.int (-i))
  | _ => .bad
def p_add : List D → R D
  | [.int i, .int j] => .ok (.int (i + j))
  | [.tup a, .tup b] => if a.length + b.length ≤ lineN then .ok (.tup (a ++ b)) else .bad
  | [.lst a, .lst b] => if a.length + b.length ≤ lineN then .ok (.lst (a ++ b)) else .bad
  | _ => .bad
def p_sub : List D → R D
  | [.int i, .int j] => .ok (.int (i - j))
  | _ => .bad
def p_mul : List D → R D
  | [.int i, .int j] => if mulOk i j then .ok (.int (i * j)) else .bad
  | [.lst l, .int k] => if decide (k < 1000000) && decide (l.length * k.toNat ≤ lineN) && decide (-1000000 < k) then .ok (.lst (List.replicate k.toNat l).flatten) else .bad
  | [.tup l, .int k] => if !l.isEmpty && decide (k ≤ 1000) && decide (l.length ≤ 1000) && decide (-1000000 < k) then .ok (.tup (List.replicate k.toNat l).flatten) else .bad
  | _ => .bad
def p_fdiv : List D → R D
  | [.int i, .int j] => if divOk j then .ok (.int (i / j)) else match dneg i j with
    | some k => .ok (.int k)
    | none => .bad
  | _ => .bad
def p_mod : List D → R D
  | [.int i, .int j] => if j ≠ 0 then .ok (.int (i.fmod j)) else .bad
  | _ => .bad
def p_pow : List D → R D
  | [.int i, .int j] => if powOk i j then .ok (.int (i ^ j.toNat)) else .bad
  | _ => .bad
def p_eq : List D → R D
  | [.str a, .str b] => .ok (.bl (decide (a = b)))
  | [a, b] => if a.okEq && b.okEq then .ok (.bl (a.eqv b)) else .bad
  | _ => .bad
def p_ne : List D → R D
  | [.str a, .str b] => .ok (.bl (!decide (a = b)))
  | [a, b] => if a.okEq && b.okEq then .ok (.bl (!a.eqv b)) else .bad
  | _ => .bad
def p_lt : List D → R D
  | [.int i, .int j] => .ok (.bl (decide (i < j)))
  | _ => .bad
def p_le : List D → R D
  | [.int i, .int j] => .ok (.bl (decide (i ≤ j)))
  | _ => .bad
def p_gt : List D → R D
  | [.int i, .int j] => .ok (.bl (decide (j < i)))
  | _ => .bad
def p_ge : List D → R D
  | [.int i, .int j] => .ok (.bl (decide (j ≤ i)))
  | _ => .bad
def p_isn : List D → R D
  | [.non] => .ok (.bl true)
  | [_] => .ok (.bl false)
  | _ => .bad
def p_nisn : List D → R D
  | [.non] => .ok (.bl false)
  | [_] => .ok (.bl true)
  | _ => .bad
def p_ix : List D → R D
  | [.tup l, .int i] => ixL l i
  | [.lst l, .int i] => ixL l i
  | [.str z, .int i] => if z.length ≤ sizeLine then (match atI z.cps.toList i with
    | some c => .ok (chrD c)
    | none => .bad) else .bad
  | _ => .bad
def p_slA : List D → R D
  | [.lst l, .int i] => .ok (.lst (cut l none (some i)))
  | [.scr l, .int i] => .ok (.lst (cut (l.map D.int) none (some i)))
  | [.tup l, .int i] => .ok (.tup (cut l none (some i)))
  | [.str z, .int i] => if z.length ≤ sizeLine then .ok (.str (cutS z none (some i))) else .bad
  | _ => .bad
def p_slB : List D → R D
  | [.lst l, .int i] => .ok (.lst (cut l (some i) none))
  | [.scr l, .int i] => .ok (.lst (cut (l.map D.int) (some i) none))
  | [.tup l, .int i] => .ok (.tup (cut l (some i) none))
  | [.str z, .int i] => if z.length ≤ sizeLine then .ok (.str (cutS z (some i) none)) else .bad
  | _ => .bad
def p_slC : List D → R D
  | [.lst l, .int i, .int j] => .ok (.lst (cut l (some i) (some j)))
  | [.scr l, .int i, .int j] => .ok (.lst (cut (l.map D.int) (some i) (some j)))
  | [.tup l, .int i, .int j] => .ok (.tup (cut l (some i) (some j)))
  | _ => .bad
def p_rev : List D → R D
  | [.lst l] => .ok (.lst l.reverse)
  | [.scr l] => .ok (.lst (l.map D.int).reverse)
  | [.tup l] => .ok (.tup l.reverse)
  | _ => .bad
def p_len : List D → R D
  | [.tup l] => .ok (.int l.length)
  | [.lst l] => .ok (.int l.length)
  | [.str z] => if z.length ≤ sizeLine then .ok (.int z.length) else .bad
  | _ => .bad
def p_abs : List D → R D
  | [.int i] => .ok (.int (if i < 0 then -i else i))
  | _ => .bad
def p_max1 : List D → R D
  | [.lst l] => (match intsD l with
    | some ns => if ns = [] then .bad else .ok (.int (maxI ns))
    | none => .bad)
  | _ => .bad
def p_max2 : List D → R D
  | [.int i, .int j] => .ok (.int (if j > i then j else i))
  | _ => .bad
def p_min2 : List D → R D
  | [.int i, .int j] => .ok (.int (if j < i then j else i))
  | _ => .bad
def p_int : List D → R D
  | [.int i] => .ok (.int i)
  | [.bl b] => .ok (.int (if b then 1 else 0))
  | [.str a] => if a.length ≤ 640 then (match PySem.intText? a with
    | some n => .ok (.int n)
    | none => .bad) else .bad
  | _ => .bad
def p_repr : List D → R D
  | [d] => if d.okShow then .ok (.str d.py.shown) else .bad
  | _ => .bad
def p_list : List D → R D
  | [.tup l] => .ok (.lst l)
  | [.lst l] => .ok (.lst l)
  | _ => .bad
def p_tuple : List D → R D
  | [.lst l] => .ok (.tup l)
  | [.tup l] => .ok (.tup l)
  | _ => .bad
def p_sum : List D → R D
  | [.lst l] => (match intsD l with
    | some ns => .ok (.int ns.sum)
    | none => .bad)
  | _ => .bad
def p_all : List D → R D
  | [.lst l] => (match boolsD l with
    | some bs => .ok (.bl (bs.all id))
    | none => .bad)
  | _ => .bad
def p_any : List D → R D
  | [.lst l] => (match boolsD l with
    | some bs => .ok (.bl (bs.any id))
    | none => .bad)
  | _ => .bad
def p_inn : List D → R D
  | [d, .lst l] => if d.okEq && (D.lst l).okEq then .ok (.bl (l.any fun z => z.eqv d)) else .bad
  | [.str x, .str z] => (match x.cps.toList with
    | [c] => .ok (.bl (decide (c ∈ z.cps.toList)))
    | _ => .bad)
  | _ => .bad
def p_nin : List D → R D
  | [d, .lst l] => if d.okEq && (D.lst l).okEq then .ok (.bl (!l.any fun z => z.eqv d)) else .bad
  | [.str x, .str z] => (match x.cps.toList with
    | [c] => .ok (.bl (!decide (c ∈ z.cps.toList)))
    | _ => .bad)
  | _ => .bad
def pairsD : List D → Option (List (Int × Int))
  | [] => some []
  | .tup [.int i, .int j] :: l => (pairsD l).map ((i, j) :: ·)
  | _ :: _ => none
def ltPr (a b : Int × Int) : Bool := decide (a.1 < b.1) || (decide (a.1 = b.1) && decide (a.2 < b.2))
def insP (a : Int × Int) : List (Int × Int) → List (Int × Int)
  | [] => [a]
  | b :: l => if ltPr b a then b :: insP a l else a :: b :: l
def sortP : List (Int × Int) → List (Int × Int)
  | [] => []
  | a :: l => insP a (sortP l)
def pairT (a : Int × Int) : D := .tup [.int a.1, .int a.2]
def p_sorted : List D → R D
  | [.lst l] => (match pairsD l with
    | some ps => .ok (.lst ((sortP ps).map pairT))
    | none => .bad)
  | _ => .bad
def excLook (x : Str) : List D → Option Bool
  | [] => none
  | .tup [.str y, .bl b] :: r => if y = x then some b else excLook x r
  | _ :: r => excLook x r
def isCls : D → Bool
  | .cls _ => true
  | _ => false
def excAny (l : List D) : List D → Option Bool
  | [] => some false
  | .cls x :: r => (match excLook x l with
    | some true => if r.all isCls then some true else none
    | some false => excAny l r
    | none => none)
  | _ :: _ => none
def p_isx : List D → R D
  | [.exc _ l, .cls x] => (match excLook x l with
    | some b => .ok (.bl b)
    | none => .bad)
  | [.exc _ l, .tup cs] => (match excAny l cs with
    | some b => .ok (.bl b)
    | none => .bad)
  | _ => .bad
def p_isv : List D → R D
  | [.exc _ _] => .ok (.bl true)
  | _ => .bad
def p_isi (t : Ty) : List D → R D
  | [d] => (match isa t d with
    | some b => .ok (.bl b)
    | none => .bad)
  | _ => .bad
def p_stri : List D → R D
  | [.int i] => if i.natAbs.log2 < 1920 then .ok (.str (toString i)) else .bad
  | _ => .bad
def fmtGo : Str → List D → Option Str
  | acc, [] => some acc
  | acc, .str y :: l => if y.length ≤ sizeLine ∧ (acc ++ y).length ≤ sizeLine then fmtGo (acc ++ y) l else none
  | acc, .int i :: l => if i.natAbs.log2 < 1920 ∧ (acc ++ (toString i : Str)).length ≤ sizeLine then fmtGo (acc ++ (toString i : Str)) l else none
  | _, _ => none
def p_fmt (l : List D) : R D := match fmtGo Str.empty l with
  | some x => .ok (.str x)
  | none => .bad
def p_part (b : Str) : List D → R D
  | [.str a] => if (b.length == 0) = false ∧ a.length ≤ sizeLine then .ok (.tup [.str (Txt.partition a b).1, .str (Txt.partition a b).2.1, .str (Txt.partition a b).2.2]) else .bad
  | _ => .bad
def prim : Pr → List D → R D
  | .tup => p_tup
  | .lst => p_lst
  | .not => p_not
  | .neg => p_neg
  | .add => p_add
  | .sub => p_sub
  | .mul => p_mul
  | .fdiv => p_fdiv
  | .mod => p_mod
  | .pow => p_pow
  | .eq => p_eq
  | .ne => p_ne
  | .lt => p_lt
  | .le => p_le
  | .gt => p_gt
  | .ge => p_ge
  | .isn => p_isn
  | .nisn => p_nisn
  | .ix => p_ix
  | .slA => p_slA
  | .slB => p_slB
  | .slC => p_slC
  | .rev => p_rev
  | .len => p_len
  | .abs => p_abs
  | .max1 => p_max1
  | .max2 => p_max2
  | .min2 => p_min2
  | .int => p_int
  | .repr => p_repr
  | .list => p_list
  | .tuple => p_tuple
  | .sum => p_sum
  | .all => p_all
  | .any => p_any
  | .isi t => p_isi t
  | .isx => p_isx
  | .isv => p_isv
  | .inn => p_inn
  | .nin => p_nin
  | .sorted => p_sorted
  | .stri => p_stri
  | .fmt => p_fmt
  | .part b => p_part b
def ownAt (en : En) (i : Nat) : Option (List D) := match en[i]? with
  | some (.own l) => some l
  | _ => none
def valAt (en : En) (i : Nat) : Option D := match en[i]? with
  | some (.val d) => some d
  | _ => none
def evList (f : E → En → R (D × En)) : List E → En → R (List D × En)
  | [], en => .ok ([], en)
  | e :: es, en => (f e en).bind fun p => (evList f es p.2).bind fun q => .ok (p.1 :: q.1, q.2)
def evArgs (f : E → En → R (D × En)) : List E → En → R (List AV × En)
  | [], en => .ok ([], en)
  | .bw i :: es, en => if (ownAt en i).isSome then (evArgs f es en).bind fun q => .ok (.b i :: q.1, q.2) else .bad
  | .io i :: es, en => if (ownAt en i).isSome then (evArgs f es en).bind fun q => .ok (.o i :: q.1, q.2) else .bad
  | e :: es, en => (f e en).bind fun p => (evArgs f es p.2).bind fun q => .ok (.d p.1 :: q.1, q.2)
def resolve (en : En) : List AV → Option (List Slot)
  | [] => some []
  | .d d :: l => (resolve en l).map (.val d :: ·)
  | .b i :: l => (match ownAt en i with
    | some ds => (resolve en l).map (.val (.lst ds) :: ·)
    | none => none)
  | .o i :: l => (match ownAt en i with
    | some ds => (resolve en l).map (.own ds :: ·)
    | none => none)
def resolveD (en : En) : List AV → Option (List D)
  | [] => some []
  | .d d :: l => (resolveD en l).map (d :: ·)
  | .b i :: l => (match ownAt en i with
    | some ds => (resolveD en l).map (.lst ds :: ·)
    | none => none)
  | .o _ :: _ => none
def R.noex {α : Type} : R α → R α
  | .ex _ _ => .bad
  | x => x
def ioOf : List AV → Option Nat
  | [] => none
  | .o i :: _ => some i
  | _ :: l => ioOf l
def ioCount : List AV → Nat
  | [] => 0
  | .o _ :: l => ioCount l + 1
  | _ :: l => ioCount l
def putBack (as : List AV) (w : Option (List D)) (en : En) : R En := match ioOf as, w with
  | some i, some l => .ok (en.set i (.own l))
  | none, none => .ok en
  | _, _ => .bad
def hasB : List AV → Bool
  | [] => false
  | .b _ :: _ => true
  | _ :: l => hasB l
def bAt (i : Nat) : List AV → Bool
  | [] => false
  | .b j :: l => decide (i = j) || bAt i l
  | _ :: l => bAt i l
def ioFine (as : List AV) : Bool := decide (ioCount as ≤ 1) && (match ioOf as with
  | some i => !bAt i as
  | none => true)
mutual
def D.nol : D → Bool
  | .tup l => D.nolAll l
  | .non => true
  | .bl _ => true
  | .int _ => true
  | .str _ => true
  | _ => false
def D.nolAll : List D → Bool
  | [] => true
  | d :: l => d.nol && D.nolAll l
end
def nolR (fr : Bool) (d : D) : Bool := d.nol || (fr && (match d with
  | .lst l => D.nolAll l
  | _ => false))
def D.isI : D → Bool
  | .int _ => true
  | _ => false
def D.nolI : D → Bool
  | .lst l => l.all D.isI
  | d => d.nol
def D.anyNI (l : List D) : Bool := l.any fun d => !d.isI
def bwNI (en : En) : List AV → Bool
  | [] => true
  | .b i :: l => (match ownAt en i with
    | some ds => D.anyNI ds
    | none => true) && bwNI en l
  | _ :: l => bwNI en l
def ioB (en : En) (as : List AV) (l : List D) : Bool := D.nolAll l || (l.all D.nolI && bwNI en as)
def safeB (fr : Bool) (en : En) (as : List AV) (r : D × Option (List D)) : Bool := !hasB as || (nolR fr r.1 && (match r.2 with
  | none => true
  | some l => ioB en as l))
def enumD : Nat → List D → List D
  | _, [] => []
  | k, d :: l => .tup [.int k, d] :: enumD (k + 1) l
def zipD : List D → List D → List D
  | a :: l, b :: m => .tup [a, b] :: zipD l m
  | _, _ => []
def rngD (lo : Int) (n : Nat) : List D := (List.range n).map fun (i : Nat) => .int (lo + (i : Int))
def rngDn (lo c : Int) (n : Nat) : List D := (List.range n).map fun (i : Nat) => .int (lo + (i : Int) * c)
def items : Ik → List D → Option (List D)
  | .seq, [.lst l] => some l
  | .seq, [.tup l] => some l
  | .seq, [.str x] => some (chrsD x)
  | .rng1, [.int n] => if -(2 ^ 62) ≤ n ∧ n < 2 ^ 62 then some (rngD 0 n.toNat) else none
  | .rng2, [.int a, .int b] => if -(2 ^ 62) ≤ a ∧ a < 2 ^ 62 ∧ -(2 ^ 62) ≤ b ∧ b < 2 ^ 62 then some (rngD a (b - a).toNat) else none
  | .rng3, [.int a, .int b, .int c] => if c = -1 ∧ -(2 ^ 62) ≤ a ∧ a < 2 ^ 62 ∧ -(2 ^ 62) ≤ b ∧ b < 2 ^ 62 then some (rngDn a c (a - b).toNat) else none
  | .enum, [.lst l] => some (enumD 0 l)
  | .enum, [.tup l] => some (enumD 0 l)
  | .zip, [.lst l, .lst m] => some (zipD l m)
  | .zip, [.tup l, .tup m] => some (zipD l m)
  | .zip, [.tup l, .lst m] => some (zipD l m)
  | .zip, [.lst l, .tup m] => some (zipD l m)
  | _, _ => none
def setMany : List Nat → List D → En → Option En
  | [], [], en => some en
  | i :: is, d :: ds, en => if (ownAt en i).isSome then none else setMany is ds (en.set i (.val d))
  | _, _, _ => none
def setTg : Tg → D → En → Option En
  | .n i, d, en => if (ownAt en i).isSome then none else some (en.set i (.val d))
  | .t is, .tup ds, en => setMany is ds en
  | .t is, .lst ds, en => setMany is ds en
  | .t _, _, _ => none
def wipeE (en : En) : List Nat → En
  | [] => en
  | v :: vs => (wipeE en vs).set v .no
def restE (en : En) : List Nat → En → En
  | [], e => e
  | v :: vs, e => (restE en vs e).set v (en[v]?.getD .no)
def lcGo (cond elt : En → R (D × En)) (tg : Tg) (vs : List Nat) : List D → En → R (List D × En)
  | [], en => .ok ([], en)
  | d :: ds, en => match setTg tg d en with
    | none => .bad
    | some en1 => (cond en1).noex.bind fun p => match p.1 with
      | .bl true => (elt p.2).noex.bind fun q => (lcGo cond elt tg vs ds (wipeE q.2 vs)).bind fun r => .ok (q.1 :: r.1, r.2)
      | .bl false => lcGo cond elt tg vs ds (wipeE p.2 vs)
      | _ => .bad
def noOwn (en : En) : List Nat → Bool
  | [] => true
  | v :: vs => (match en[v]? with
    | some (.own _) => false
    | _ => true) && noOwn en vs
def evE (T : Tab) : Nat → E → En → R (D × En)
  | 0, _, _ => .bad
  | n + 1, e, en => match e with
    | .c d => .ok (d, en)
    | .g x => (match T.glob x with
      | some d => .ok (d, en)
      | none => .bad)
    | .v i => (match valAt en i with
      | some d => .ok (d, en)
      | none => .bad)
    | .bw _ => .bad
    | .io _ => .bad
    | .pr p l => (evArgs (evE T n) l en).bind fun q => match resolveD q.2 q.1 with
      | none => .bad
      | some ds => (prim p ds).bind fun d => .ok (d, q.2)
    | .and_ a b => (evE T n a en).bind fun p => match p.1 with
      | .bl true => evE T n b p.2
      | .bl false => .ok (.bl false, p.2)
      | _ => .bad
    | .or_ a b => (evE T n a en).bind fun p => match p.1 with
      | .bl true => .ok (.bl true, p.2)
      | .bl false => evE T n b p.2
      | _ => .bad
    | .ite t a b => (evE T n t en).bind fun p => match p.1 with
      | .bl true => evE T n a p.2
      | .bl false => evE T n b p.2
      | _ => .bad
    | .ch o p a b c => (evList (evE T n) [a, b] en).bind fun q => match q.1 with
      | [x, y] => (prim o [x, y]).bind fun z => match z with
        | .bl true => (evE T n c q.2).bind fun r => (prim p [y, r.1]).bind fun d => .ok (d, r.2)
        | .bl false => .ok (.bl false, q.2)
        | _ => .bad
      | _ => .bad
    | .call f l dl => if T.has f then (evArgs (evE T n) l en).bind fun q => if ioFine q.1 then (match resolve q.2 q.1 with
      | none => .bad
      | some ss => (T.call f (ss ++ dl.map .val)).bind fun r => if safeB (T.fresh f) q.2 q.1 r then (putBack q.1 r.2 q.2).bind fun en2 => .ok (r.1, en2) else .bad) else .bad
      else .bad
    | .lc elt tg k l cond vs => (evList (evE T n) l en).bind fun q => match items k q.1 with
      | none => .bad
      | some ds => if noOwn q.2 vs && decide (ds.length ≤ lineN) then
          (lcGo (match cond with
            | some c => evE T n c
            | none => fun en => .ok (.bl true, en)) (evE T n elt) tg vs ds (wipeE q.2 vs)).bind fun r => .ok (.lst r.1, restE q.2 vs r.2)
        else .bad
    | .lcb elt tg i cond vs => (match ownAt en i with
      | none => .bad
      | some l => if noOwn en vs && decide (l.length ≤ lineN) then
          (lcGo (match cond with
            | some c => evE T n c
            | none => fun en => .ok (.bl true, en)) (evE T n elt) tg vs l (wipeE (en.set i .no) vs)).bind fun r => .ok (.lst r.1, (restE (en.set i .no) vs r.2).set i (.own l))
        else .bad)
end Vm
end
section
set_option Elab.async false
set_option linter.all false
set_option maxRecDepth 100000
namespace Vm
open PySem PySem.Spec L2
def pairB (K : PySem.W.Frag) (c : Str) : D → Bool
  | .tup [.str x, .bl b] => decide (PySem.W.kitOne K (.ref (He.ga K c)) (.ref (He.ga K x)) = some b) && decide (PySem.W.exmOne K (.ref (He.ga K c)) (.ref (He.ga K x)) = some b)
  | _ => false
def xokB (K : PySem.W.Frag) (c : Str) (l : List D) : Bool := excC K (He.ga K c) && decide (PySem.W.kitOne K (.ref (He.ga K c)) (.type "ValueError") = some true) && l.all (pairB K c)
mutual
inductive Dn (K : PySem.W.Frag) (H : Hp) : V → D → Prop
  | non : Dn K H .non .non
  | bl (b : Bool) : Dn K H (.bl b) (.bl b)
  | int (i : Int) : Dn K H (.int i) (.int i)
  | str (x : Str) : Dn K H (.str x) (.str x)
  | lst {a : Addr} {xs : List V} {ds : List D} : H a = some (.lst xs) → DnA K H xs ds → Dn K H (.ref a) (.lst ds)
  | scr {a : Addr} {ns : List Int} : SqL K H a (ns.map V.int) → Dn K H (.ref a) (.scr ns)
  | tup {a : Addr} {xs : List V} {ds : List D} : SqT K H a xs → DnA K H xs ds → Dn K H (.ref a) (.tup ds)
  | exc {a : Addr} {c : Str} {l : List D} : H a = some (ExZ (.ref (He.ga K c)) a) → xokB K c l = true → Dn K H (.ref a) (.exc c l)
  | cls {x : Str} : Dn K H (.ref (He.ga K x)) (.cls x)
inductive DnA (K : PySem.W.Frag) (H : Hp) : List V → List D → Prop
  | nil : DnA K H [] []
  | cons {v : V} {vs : List V} {d : D} {ds : List D} : Dn K H v d → DnA K H vs ds → DnA K H (v :: vs) (d :: ds)
end
theorem rd_sub {H H' : Hp} {a : Addr} {u : HO} (e : Same H H') (h : Rd H a u) : Rd H' a u := by
  rcases h with h | ⟨o, h⟩
  · exact .inl (e _ _ h)
  · exact .inr ⟨o, e _ _ h⟩
theorem sqT_sub {K : PySem.W.Frag} {H H' : Hp} {a : Addr} {xs : List V} (e : Same H H') (h : SqT K H a xs) : SqT K H' a xs := by
  rcases h with h | h
  · exact .inl (rd_sub e h)
  · exact .inr h
theorem sqL_sub {K : PySem.W.Frag} {H H' : Hp} {a : Addr} {xs : List V} (e : Same H H') (h : SqL K H a xs) : SqL K H' a xs := by
  rcases h with h | h
  · exact .inl (rd_sub e h)
  · exact .inr h
section
variable {K : PySem.W.Frag} {F H F' H' F2 H2 : Hp} {v : V} {d : D} {vs : List V} {ds : List D}
mutual
theorem Dn.mono (e : Same F F') : ∀ (d : D) (v : V), Dn K F v d → Dn K F' v d
  | .non, _, h => by cases h; exact .non
  | .bl b, _, h => by cases h; exact .bl b
  | .int i, _, h => by cases h; exact .int i
  | .str x, _, h => by cases h; exact .str x
  | .lst ds, _, h => by
    cases h with
    | lst h1 h2 => exact .lst (e _ _ h1) (DnA.mono e ds _ h2)
  | .tup ds, _, h => by
    cases h with
    | tup h1 h2 => exact .tup (sqT_sub e h1) (DnA.mono e ds _ h2)
  | .dic _, _, h => by cases h
  | .exc _ _, _, h => by
    cases h with
    | exc h1 h2 => exact .exc (e _ _ h1) h2
  | .cls _, _, h => by cases h; exact .cls
  | .scr _, _, h => by
    cases h with
    | scr h1 => exact .scr (sqL_sub e h1)
theorem DnA.mono (e : Same F F') : ∀ (ds : List D) (vs : List V), DnA K F vs ds → DnA K F' vs ds
  | [], _, h => by cases h; exact .nil
  | d :: ds, _, h => by
    cases h with
    | cons h1 h2 => exact .cons (Dn.mono e d _ h1) (DnA.mono e ds _ h2)
end
theorem Dn.up (h : Dn K F v d) (e : Same F F') : Dn K F' v d := Dn.mono e d v h
theorem DnA.up (h : DnA K F vs ds) (e : Same F F') : DnA K F' vs ds := DnA.mono e ds vs h
theorem DnA.len : ∀ {vs : List V} {ds : List D}, DnA K F vs ds → vs.length = ds.length
  | _, _, .nil => rfl
  | _, _, .cons _ t => by rw [List.length_cons, List.length_cons, DnA.len t]
theorem DnA.get : ∀ {vs : List V} {ds : List D} {i : Nat} {v : V}, DnA K F vs ds → vs[i]? = some v → ∃ d, ds[i]? = some d ∧ Dn K F v d
  | _, _, _, _, .nil, e => by simp at e
  | _, _, 0, _, .cons r _, e => by simp at e; subst e; exact ⟨_, rfl, r⟩
  | _, _, i + 1, x, .cons _ t, e => by
    obtain ⟨u, h1, h2⟩ := DnA.get (i := i) (v := x) t (by simpa using e)
    exact ⟨u, by simpa using h1, h2⟩
theorem DnA.getD : ∀ {vs : List V} {ds : List D} {i : Nat} {d : D}, DnA K F vs ds → ds[i]? = some d → ∃ v, vs[i]? = some v ∧ Dn K F v d
  | _, _, _, _, .nil, e => by simp at e
  | _, _, 0, _, .cons r _, e => by simp at e; subst e; exact ⟨_, rfl, r⟩
  | _, _, i + 1, x, .cons _ t, e => by
    obtain ⟨u, h1, h2⟩ := DnA.getD (i := i) (d := x) t (by simpa using e)
    exact ⟨u, by simpa using h1, h2⟩
theorem DnA.app : ∀ {vs ws : List V} {ds es : List D}, DnA K F vs ds → DnA K F ws es → DnA K F (vs ++ ws) (ds ++ es)
  | _, _, _, _, .nil, h => h
  | _, _, _, _, .cons r t, h => .cons r (DnA.app t h)
theorem DnA.take : ∀ (n : Nat) {vs : List V} {ds : List D}, DnA K F vs ds → DnA K F (vs.take n) (ds.take n)
  | 0, _, _, _ => .nil
  | _ + 1, _, _, .nil => .nil
  | n + 1, _, _, .cons r t => .cons r (DnA.take n t)
theorem DnA.drop : ∀ (n : Nat) {vs : List V} {ds : List D}, DnA K F vs ds → DnA K F (vs.drop n) (ds.drop n)
  | 0, _, _, h => h
  | _ + 1, _, _, .nil => .nil
  | n + 1, _, _, .cons _ t => DnA.drop n t
theorem DnA.set {v : V} {d : D} (r : Dn K F v d) : ∀ (i : Nat) {vs : List V} {ds : List D}, DnA K F vs ds → DnA K F (vs.set i v) (ds.set i d)
  | _, _, _, .nil => .nil
  | 0, _, _, .cons _ t => .cons r t
  | i + 1, _, _, .cons q t => .cons q (DnA.set r i t)
theorem DnA.rep (h : DnA K F vs ds) : ∀ n : Nat, DnA K F (List.replicate n vs).flatten (List.replicate n ds).flatten
  | 0 => .nil
  | n + 1 => by
    rw [List.replicate_succ, List.replicate_succ, List.flatten_cons, List.flatten_cons]
    exact h.app (DnA.rep h n)
theorem DnA.rev : ∀ {vs : List V} {ds : List D}, DnA K F vs ds → DnA K F vs.reverse ds.reverse
  | _, _, .nil => .nil
  | _, _, .cons a t => by
    rw [List.reverse_cons, List.reverse_cons]
    exact (DnA.rev t).app (.cons a .nil)
mutual
theorem Dn.dp : ∀ (d : D) (v : V), d.plain = true → Dn K F v d → Dp K F v d.py
  | .non, _, _, h => by cases h; exact .non
  | .bl b, _, _, h => by cases h; exact .bl b
  | .int i, _, _, h => by cases h; exact .int i
  | .str x, _, _, h => by cases h; exact .str x
  | .lst ds, _, p, h => by
    cases h with
    | lst h1 h2 => exact .lst (SqL.of h1) (DnA.dp ds _ p h2)
  | .tup ds, _, p, h => by
    cases h with
    | tup h1 h2 => exact .tup h1 (DnA.dp ds _ p h2)
  | .dic _, _, _, h => by cases h
  | .exc _ _, _, p, _ => by cases p
  | .scr _, _, p, _ => by cases p
  | .cls _, _, p, _ => by cases p
theorem DnA.dp : ∀ (ds : List D) (vs : List V), D.plainAll ds = true → DnA K F vs ds → DpAll K F vs (D.pyAll ds)
  | [], _, _, h => by cases h; exact .nil
  | d :: ds, _, p, h => by
    cases h with
    | cons h1 h2 =>
      have p' := (Bool.and_eq_true _ _).mp p
      exact .cons (Dn.dp d _ p'.1 h1) (DnA.dp ds _ p'.2 h2)
end
mutual
theorem plain_lay : ∀ d : D, d.plain = true → d.py.canLay0 = true
  | .non, _ => rfl
  | .bl _, _ => rfl
  | .int _, _ => rfl
  | .str x, h => h
  | .lst ds, h => plain_layA ds h
  | .tup ds, h => plain_layA ds h
  | .dic _, h => by cases h
  | .exc _ _, h => by cases h
  | .scr _, h => by cases h
  | .cls _, h => by cases h
theorem plain_layA : ∀ ds : List D, D.plainAll ds = true → PyData.canLayAll0 (D.pyAll ds) = true
  | [], _ => rfl
  | d :: ds, h => by
    have p' := (Bool.and_eq_true _ _).mp h
    exact (Bool.and_eq_true _ _).mpr ⟨plain_lay d p'.1, plain_layA ds p'.2⟩
end
theorem okEq_shaped {d : D} (h : d.okEq = true) : d.plain = true ∧ SeqAt.shaped d.py = true := by
  have p := (Bool.and_eq_true _ _).mp h
  exact ⟨p.1, (Bool.and_eq_true _ _).mpr ⟨plain_lay d p.1, p.2⟩⟩
end
def Own (σ : St) (en : En) (a : Addr) : Prop := ∃ (i : Nat) (l : List D), en[i]? = some (Slot.own l) ∧ σ[i]? = some (some (V.ref a))
structure Bs where
  F : Hp
  H : Hp
  P : Addr → Prop
  pin : Nat → Addr → Prop
structure Ok (B : Bs) (K : PySem.W.Frag) (F H : Hp) (σ : St) (en : En) : Prop where
  len : en.length = σ.length
  val : ∀ (i : Nat) (d : D), en[i]? = some (Slot.val d) → ∃ v, σ[i]? = some (some v) ∧ Dn K F v d
  own : ∀ (i : Nat) (l : List D), en[i]? = some (Slot.own l) → ∃ p us, σ[i]? = some (some (V.ref p)) ∧ H p = some (.lst us) ∧ DnA K F us l ∧ F p = none ∧ (B.P p ∨ B.H p = none)
  inj : ∀ (i j : Nat) (l m : List D) (p : Addr), en[i]? = some (Slot.own l) → en[j]? = some (Slot.own m) → σ[i]? = some (some (V.ref p)) → σ[j]? = some (some (V.ref p)) → i = j
  sub : Same F H
  bsub : Same B.F F
  bnew : ∀ a, B.F a = none → B.H a ≠ none → F a = none
  bkeep : ∀ a o, B.H a = some o → ¬ B.P a → H a = some o
  bdom : ∀ a, B.H a ≠ none → H a ≠ none
  pin : ∀ i p, B.pin i p → σ[i]? = some (some (V.ref p)) ∧ ownAt en i ≠ none
structure Go (σ : St) (F H : Hp) (en : En) (F' H' : Hp) (en' : En) : Prop where
  sub : Same F F'
  new : ∀ a, F a = none → H a ≠ none → F' a = none
  keep : ∀ a o, H a = some o → ¬ Own σ en a → H' a = some o
  dom : ∀ a, H a ≠ none → H' a ≠ none
  vals : ∀ i : Nat, ownAt en i = none → en'[i]? = en[i]?
  owns : ∀ i, ownAt en i ≠ none → ownAt en' i ≠ none
  len : en'.length = en.length
structure Px (F H F' H' : Hp) : Prop where
  sub : Same F F'
  hsub : Same H H'
  new : ∀ a, F a = none → H a ≠ none → F' a = none
  fh : Same F' H'
theorem ownAt_some {en : En} {i : Nat} {l : List D} : ownAt en i = some l ↔ en[i]? = some (Slot.own l) := by
  unfold ownAt
  split
  · rename_i m h; rw [h]; constructor
    · intro e; rw [Option.some.inj e]
    · intro e; injection e with e; injection e with e; rw [e]
  · rename_i h; constructor
    · intro e; cases e
    · intro e; exact absurd e (h l)
theorem valAt_some {en : En} {i : Nat} {d : D} : valAt en i = some d ↔ en[i]? = some (Slot.val d) := by
  unfold valAt
  split
  · rename_i m h; rw [h]; constructor
    · intro e; rw [Option.some.inj e]
    · intro e; injection e with e; injection e with e; rw [e]
  · rename_i h; constructor
    · intro e; cases e
    · intro e; exact absurd e (h d)
theorem own_iff {σ : St} {F H F' H' : Hp} {en en' : En} (g : Go σ F H en F' H' en') (a : Addr) : Own σ en' a ↔ Own σ en a := by
  constructor
  · rintro ⟨i, l, h1, h2⟩
    cases e : ownAt en i with
    | some m => exact ⟨i, m, ownAt_some.mp e, h2⟩
    | none =>
      rw [g.vals i e] at h1
      rw [ownAt_some.mpr h1] at e
      cases e
  · rintro ⟨i, l, h1, h2⟩
    have q := g.owns i (by rw [ownAt_some.mpr h1]; exact fun z => nomatch z)
    cases e : ownAt en' i with
    | some m => exact ⟨i, m, ownAt_some.mp e, h2⟩
    | none => exact absurd e q
theorem Go.refl {σ : St} {F H : Hp} {en : En} : Go σ F H en F H en :=
  ⟨Same.refl _, fun _ h _ => h, fun _ _ h _ => h, fun _ h => h, fun _ _ => rfl, fun _ h => h, rfl⟩
theorem Go.trans {σ : St} {F H F1 H1 F2 H2 : Hp} {en en1 en2 : En} (a : Go σ F H en F1 H1 en1) (b : Go σ F1 H1 en1 F2 H2 en2) : Go σ F H en F2 H2 en2 where
  sub := a.sub.trans b.sub
  new := fun x h h' => b.new x (a.new x h h') (a.dom x h')
  keep := fun x o h h' => b.keep x o (a.keep x o h h') fun z => h' ((own_iff a x).mp z)
  dom := fun x h => b.dom x (a.dom x h)
  vals := fun i h => by
    have e1 := a.vals i h
    have h1 : ownAt en1 i = none := by unfold ownAt at h ⊢; rw [e1]; exact h
    rw [b.vals i h1, e1]
  owns := fun i h => b.owns i (a.owns i h)
  len := b.len.trans a.len
theorem Px.refl {F H : Hp} (h : Same F H) : Px F H F H := ⟨Same.refl _, Same.refl _, fun _ h _ => h, h⟩
theorem some_ne {α : Type} {x : Option α} {o : α} (h : x = some o) : x ≠ none := fun z => by rw [h] at z; cases z
theorem ne_some {α : Type} {x : Option α} (h : x ≠ none) : ∃ o, x = some o := by
  cases x with
  | none => exact absurd rfl h
  | some o => exact ⟨o, rfl⟩
theorem Px.trans {F H F1 H1 F2 H2 : Hp} (a : Px F H F1 H1) (b : Px F1 H1 F2 H2) : Px F H F2 H2 where
  sub := a.sub.trans b.sub
  hsub := a.hsub.trans b.hsub
  new := fun x h h' => by
    obtain ⟨o, e⟩ := ne_some h'
    exact b.new x (a.new x h h') (some_ne (a.hsub _ _ e))
  fh := b.fh
theorem Px.go {σ : St} {F H F' H' : Hp} {en : En} (p : Px F H F' H') : Go σ F H en F' H' en :=
  ⟨p.sub, p.new, fun a o h _ => p.hsub a o h, fun a h => by
    obtain ⟨o, e⟩ := ne_some h
    exact some_ne (p.hsub _ _ e), fun _ _ => rfl, fun _ h => h, rfl⟩
theorem Ok.px {B : Bs} {K : PySem.W.Frag} {F H F' H' : Hp} {σ : St} {en : En} (k : Ok B K F H σ en) (p : Px F H F' H') : Ok B K F' H' σ en where
  len := k.len
  val := fun i d h => by
    obtain ⟨v, e, q⟩ := k.val i d h
    exact ⟨v, e, q.up p.sub⟩
  own := fun i l h => by
    obtain ⟨a, us, e, q, r, n, b⟩ := k.own i l h
    exact ⟨a, us, e, p.hsub _ _ q, r.up p.sub, p.new a n (some_ne q), b⟩
  inj := k.inj
  sub := p.fh
  bsub := k.bsub.trans p.sub
  bnew := fun a h h' => p.new a (k.bnew a h h') (k.bdom a h')
  bkeep := fun a o h h' => p.hsub _ _ (k.bkeep a o h h')
  bdom := fun a h => by
    obtain ⟨o, e⟩ := ne_some (k.bdom a h)
    exact some_ne (p.hsub _ _ e)
  pin := k.pin
theorem Px.add {F H : Hp} (h : Same F H) {p : Addr} {o : HO} (hp : H p = none) : Px F H (upd F p o) (upd H p o) := by
  have fp : F p = none := h.free hp
  refine ⟨fun b u e => ?_, fun b u e => ?_, fun a e e' => ?_, fun b u e => ?_⟩
  · rw [upd_ne (ne_of_none e fp)]; exact e
  · rw [upd_ne (ne_of_none e hp)]; exact e
  · have ne : a ≠ p := fun z => e' (by rw [z]; exact hp)
    rw [upd_ne ne]; exact e
  · by_cases z : b = p
    · subst z; rw [upd_same] at e ⊢; exact e
    · rw [upd_ne z] at e ⊢; exact h _ _ e
theorem Px.addO {F H : Hp} (h : Same F H) {p : Addr} {o : HO} (hp : H p = none) : Px F H F (upd H p o) :=
  ⟨Same.refl _, fun b u e => by rw [upd_ne (ne_of_none e hp)]; exact e, fun _ e _ => e, fun b u e => by
    rw [upd_ne (ne_of_none (h _ _ e) hp)]; exact h _ _ e⟩
def DA (K : PySem.W.Frag) (F H : Hp) (v : V) (d : D) : Prop := Dn K F v d ∨ ∃ p us ds, v = .ref p ∧ d = .lst ds ∧ H p = some (.lst us) ∧ DnA K F us ds
theorem DA.lst {K : PySem.W.Frag} {F H : Hp} {v : V} {ds : List D} (h : DA K F H v (.lst ds)) (s : Same F H) : ∃ p us, v = .ref p ∧ H p = some (.lst us) ∧ DnA K F us ds := by
  rcases h with h | ⟨p, us, es, e1, e2, h1, h2⟩
  · cases h with
    | lst h1 h2 => exact ⟨_, _, rfl, s _ _ h1, h2⟩
  · cases e2
    exact ⟨p, us, e1, h1, h2⟩
theorem DA.tup {K : PySem.W.Frag} {F H : Hp} {v : V} {ds : List D} (h : DA K F H v (.tup ds)) (s : Same F H) : ∃ p us, v = .ref p ∧ SqT K H p us ∧ DnA K F us ds := by
  rcases h with h | ⟨p, us, es, e1, e2, h1, h2⟩
  · cases h with
    | tup h1 h2 => exact ⟨_, _, rfl, sqT_sub s h1, h2⟩
  · cases e2
theorem DA.int {K : PySem.W.Frag} {F H : Hp} {v : V} {i : Int} (h : DA K F H v (.int i)) : v = .int i := by
  rcases h with h | ⟨p, us, es, e1, e2, h1, h2⟩
  · cases h; rfl
  · cases e2
theorem DA.bl {K : PySem.W.Frag} {F H : Hp} {v : V} {i : Bool} (h : DA K F H v (.bl i)) : v = .bl i := by
  rcases h with h | ⟨p, us, es, e1, e2, h1, h2⟩
  · cases h; rfl
  · cases e2
theorem DA.str {K : PySem.W.Frag} {F H : Hp} {v : V} {i : Str} (h : DA K F H v (.str i)) : v = .str i := by
  rcases h with h | ⟨p, us, es, e1, e2, h1, h2⟩
  · cases h; rfl
  · cases e2
theorem DA.scr {K : PySem.W.Frag} {F H : Hp} {v : V} {ns : List Int} (h : DA K F H v (.scr ns)) (s : Same F H) : ∃ p, v = .ref p ∧ SqL K H p (ns.map V.int) := by
  rcases h with h | ⟨p, us, es, e1, e2, h1, h2⟩
  · cases h with
    | scr h1 => exact ⟨_, rfl, sqL_sub s h1⟩
  · cases e2
theorem DA.dn {K : PySem.W.Frag} {F H : Hp} {v : V} {d : D} (h : DA K F H v d) (s : Same F H) : Dn K H v d := by
  rcases h with h | ⟨p, us, es, e1, e2, h1, h2⟩
  · exact h.up s
  · subst e1; subst e2; exact .lst h1 (h2.up s)
inductive DAs (K : PySem.W.Frag) (F H : Hp) : List V → List D → Prop
  | nil : DAs K F H [] []
  | cons {v : V} {vs : List V} {d : D} {ds : List D} : DA K F H v d → DAs K F H vs ds → DAs K F H (v :: vs) (d :: ds)
inductive AvA (K : PySem.W.Frag) (F : Hp) (σ : St) : List AV → List V → Prop
  | nil : AvA K F σ [] []
  | d {v : V} {vs : List V} {d : D} {as : List AV} : Dn K F v d → AvA K F σ as vs → AvA K F σ (.d d :: as) (v :: vs)
  | b {v : V} {vs : List V} {i : Nat} {as : List AV} : σ[i]? = some (some v) → AvA K F σ as vs → AvA K F σ (.b i :: as) (v :: vs)
  | o {v : V} {vs : List V} {i : Nat} {as : List AV} : σ[i]? = some (some v) → AvA K F σ as vs → AvA K F σ (.o i :: as) (v :: vs)
theorem AvA.das {B : Bs} {K : PySem.W.Frag} {F H : Hp} {σ : St} {en : En} (k : Ok B K F H σ en) : ∀ {as : List AV} {vs : List V} {ds : List D}, AvA K F σ as vs → resolveD en as = some ds → DAs K F H vs ds
  | _, _, _, .nil, e => by cases e; exact .nil
  | _, _, _, .d (as := as) h t, e => by
    unfold resolveD at e
    cases r : resolveD en as with
    | none => rw [r] at e; cases e
    | some q =>
      rw [r] at e
      cases e
      exact .cons (.inl h) (AvA.das k t r)
  | _, _, _, .b (i := i) (as := as) h t, e => by
    unfold resolveD at e
    cases o : ownAt en i with
    | none => simp only [o] at e; cases e
    | some l =>
      simp only [o] at e
      cases r : resolveD en as with
      | none => rw [r] at e; cases e
      | some q =>
        rw [r] at e
        cases e
        obtain ⟨p, us, e1, h1, h2, _⟩ := k.own i l (ownAt_some.mp o)
        rw [h] at e1
        cases e1
        exact .cons (.inr ⟨p, us, l, rfl, rfl, h1, h2⟩) (AvA.das k t r)
  | _, _, _, .o _ _, e => by cases e
end Vm
end
section
set_option Elab.async false
set_option linter.all false
set_option maxRecDepth 100000
namespace Vm
open PySem PySem.Spec PyProof.Rows L2
set_option maxHeartbeats 1000000 in
theorem enum_new {v : Value} {o : Obj} {B : Heap → Prop} (b : Begins v o B) : Meets (Builtin.«enumerate.__new__» ⟨[.type "enumerate", v], []⟩) (fun _ R s => B s.heap ∧
      R (.ok (.ret (.ref (s.heap.push o).objs.size))) { s with heap := (s.heap.push o).push { cls := .type "enumerate", data := .fields #[.none, .bool false, .ref s.heap.objs.size, rawInt 0, .none, .none] } }) :=
  .of_wp fun prog w A R s h => by
    obtain ⟨hp, g, d, tk, os⟩ := s
    obtain ⟨h1, h⟩ := h
    have sub := sub_enumerate
    have it : ∀ {A' : Around} {E : Value → Shared → Prop} {Q : Value → Shared → Prop}, Q (.ref hp.objs.size) ⟨hp.push o, g, d, tk, os⟩ → wpAny (model prog w) A' (pyIter v) Q E ⟨hp, g, d, tk, os⟩ :=
      fun q => b.iter prog w _ _ ⟨hp, g, d, tk, os⟩ _ h1 q
    wp_walk using it
    refine wpAny_stack_any fun st => wpAny_pure ?_
    split
    · rename_i c _ _ _ _ _
      cases (c == Value.type "enumerate") <;> (wp_walk using it; exact ⟨_, rfl, h⟩)
    · wp_walk using it
      exact ⟨_, rfl, h⟩
theorem enum_call {prog : Program} {w : World} {A : Around} {E : Value → Shared → Prop} {s : Shared} {v : Value} {o : Obj} {B : Heap → Prop} {Q : Value → Shared → Prop} (b : Begins v o B) (h1 : B s.heap)
    (h : ∀ h', IsEnum h' (s.heap.objs.size + 1) s.heap.objs.size 0 .none → h'.get? s.heap.objs.size = some o → h'.objs.size = s.heap.objs.size + 2 → (∀ b u, s.heap.get? b = some u → h'.get? b = some u) → Q (.ref (s.heap.objs.size + 1)) { s with heap := h' }) :
    wpAny (model prog w) A (call (.type "enumerate") [v]) Q E s := by
  refine callType_new F.called_enumerate (by decide) (F.typeCall_enumerate_1 _) (F.newCall_enumerate_1 _) (fun obj => F.args_object_init_2 obj _) F.entry_enumerate_new (enum_new b) ⟨h1, ?_⟩
  have z : (s.heap.push o).objs.size = s.heap.objs.size + 1 := Heap.size_push ..
  have at0 : (s.heap.push o).get? s.heap.objs.size = some o := Heap.get?_push_size _ b.free
  have at1 := Heap.get?_push_size (s.heap.push o) (o := { cls := .type "enumerate", data := .fields #[.none, .bool false, .ref s.heap.objs.size, rawInt 0, .none, .none] }) rfl
  rw [z] at at1
  show _ ∧ _
  rw [z]
  exact ⟨⟨_, at1, rfl⟩, h _ at1 (Heap.get?_push_of_some _ at0) (by rw [Heap.size_push, z]) fun c u e => Heap.get?_push_of_some _ (Heap.get?_push_of_some _ e)⟩
def IteT (K : PySem.W.Frag) (a : Addr) : L2.It :=
  ⟨fun i H => ∃ (xs : List V) (x : V), SqT K H a xs ∧ xs[i]? = some x, fun i H v H' => ∃ T x, v = .ref T ∧ H T = none ∧ H' = upd H T (.tup [.int (i : Nat), x]) ∧ ∀ xs, SqT K H a xs → xs[i]? = some x, fun i H => ∃ xs : List V, SqT K H a xs ∧ xs.length = i⟩
theorem turn_enT {P : Program} {w : World} {K : PySem.W.Frag} {elts : List Expr} {kk : Nat} {tpos : Pos} (a e it : Addr) (ne : a ≠ it) :
    Turn P w K (.Tuple elts kk tpos) (IteT K a) [e, it] e (fun i h => (∃ old, IsEnum h e it ((i : Nat) : Int) old) ∧ h.IsTupleIter it a i ∧ e ≠ it ∧ e ≠ a) where
  mem := by simp
  obj := fun i h st b hb => by
    obtain ⟨⟨old, he⟩, ⟨o, ho, hc, hd⟩, _⟩ := st
    rcases (show b = e ∨ b = it by simpa using hb) with z | z
    · subst z; exact ⟨_, he, fun v q => nomatch q⟩
    · subst z; exact ⟨o, ho, fun v q => by rw [hd] at q; cases q⟩
  keep := fun i h h' st k => let ⟨⟨old, he⟩, hi, q⟩ := st; ⟨⟨old, k e (by simp) _ he⟩, hi.at fun o q => k it (by simp) o q, q⟩
  item := by
    intro X hP hw hK hc i pins s σ H E I hf st hg
    subst hP hw hK
    obtain ⟨⟨old, he⟩, hit, hne, hea⟩ := st
    obtain ⟨xs, x, hq, hx⟩ := hg
    obtain ⟨its, rv, p, hz⟩ := I.tuple hq
    obtain ⟨u, hu, ru⟩ := rv.get hx
    have hel : e < s.heap.objs.size := Heap.lt_size he
    have hil : it < s.heap.objs.size := by obtain ⟨_, q, _⟩ := hit; exact Heap.lt_size q
    have lt : i < its.toArray.size := by
      rw [List.size_toArray]
      exact (List.getElem?_eq_some_iff.mp hu).1
    have hh : X.A.in1.handled = none := I.ok.hd hc
    refine wpAny_pyNext_enum_itemD (Draws.tuple hh it a ne its.toArray) he ⟨hit, p⟩ lt hne (by simp [hne, hea]) fun x' h' tk hP ho hst hT hsz hk => ?_
    have ex : x' = u := by
      have q : its.toArray[i]? = some u := by simpa using hu
      have hP : its.toArray[i]? = some x' := hP
      rw [q] at hP
      exact (Option.some.inj hP).symm
    subst ex
    refine ⟨_, rfl, wpAny_letOwnedTupleGo_enum (s := { s with heap := h', toks := tk + 1 }) ho fun h'' he' sb => ?_⟩
    have hT2 : h''.get? s.heap.objs.size = some { cls := .type "tuple", data := .seq #[.int i tk, x'] } := (sb.2 _ (Nat.ne_of_gt hel)).trans hT
    have new : ObjOk X.prog X.w (upd H s.heap.objs.size (.tup [.int (i : Nat), x])) h'' s.heap.objs.size (.tup [.int (i : Nat), x]) :=
      ⟨by show 2 ≤ sizeLine; decide, [.int i tk, x'], .cons ⟨_, rfl⟩ (.cons ru .nil), ⟨_, hT2, rfl, _, rfl⟩⟩
    have I1 : Inv X pins σ (upd H s.heap.objs.size (.tup [.int (i : Nat), x])) { s with heap := h'', toks := tk + 1 } :=
      I.turnedNew (ch := [e, it]) (fun b ob hb q => (sb.2 b (fun z => hb (by simp [z]))).trans (hk b ob (fun z => hb (by simp [z])) (fun z => hb (by simp [z])) q)) hf (Nat.le_refl _) new
    refine ⟨.ref s.heap.objs.size, _, I1, rfl, ⟨_, x, rfl, I.hok.fresh (Nat.le_refl _), rfl, fun ys hy => by rw [I.tuple_inj hy hq]; exact hx⟩, ⟨⟨x', ?_⟩, hst.1.at fun o q => (sb.2 it (Ne.symm hne)).trans q, hne, hea⟩, fun b hb => ?_⟩
    · have e1 : ((i + 1 : Nat) : Int) = (i : Int) + 1 := by omega
      rw [e1]; exact he'
    · have hb' : b < s.heap.objs.size := by
        rcases (show b = e ∨ b = it by simpa using hb) with z | z
        · rw [z]; exact hel
        · rw [z]; exact hil
      rw [upd_ne (Nat.ne_of_lt hb')]
      exact (hf b hb).1
  done := by
    intro X hP hw hK hc i pins s σ H E I hf st hg
    subst hP hw hK
    obtain ⟨⟨old, he⟩, hit, hne, hea⟩ := st
    obtain ⟨xs, hq, hx⟩ := hg
    obtain ⟨its, rv, p, hz⟩ := I.tuple hq
    obtain ⟨f0, f1, f2, f3, f4, f5⟩ := hf it (by simp)
    have hl := rv.length
    have hh : X.A.in1.handled = none := I.ok.hd hc
    have eq : i = its.toArray.size := by rw [List.size_toArray, ← hl]; exact hx.symm
    subst eq
    exact wpAny_pyNext_enum_endD (Draws.tuple hh it a ne its.toArray) he ⟨hit, p⟩ fun h' eb => ⟨rfl, I.turned (t' := s.toks) (fun b o hb q => eb b o hb q) f0 f1 f3 f4 f5⟩
  self := fun A i s Q E st h => let ⟨⟨_, he⟩, _⟩ := st; wpAny_pyIter_enum he h
def iEnT (K : PySem.W.Frag) (ta : TA) : TI := fun σ H R => ta σ H fun vs H1 => ∃ a xs, vs = [.ref a] ∧ ((SqL K H1 a xs ∧ R (Ite K a) H1) ∨ (SqT K H1 a xs ∧ R (IteT K a) H1))
theorem pi_enT {X : Cx} {e : Expr} {ta : TA} {p pos tpos : Pos} {elts : List Expr} {kk : Nat} (hg : Gl X "enumerate") (hm : X.mg "enumerate" = none) (ha : PA X [e] ta) (hs : starEach [e] X.env = [(false, eval e X.env)]) :
    PI X (.Tuple elts kk tpos) (.Call (.Name "enumerate" p) [e] [] pos) (iEnT X.K ta) := by
  refine ⟨fun pins s σ H R I h => ?_⟩
  refine Call_ (ld_blt I hg hm boot_enumerate (callWith_type1 (thn (ha.run pos pins s σ H _ I h) fun us s1 ⟨vs, H1, I1, r1, q1⟩ => ?_) hs rfl))
  obtain ⟨a, xs, ex, q⟩ := q1
  subst ex
  cases r1 with
  | cons r rr =>
    cases rr
    cases r
    have fps : ∀ b ∈ [s1.heap.objs.size + 1, s1.heap.objs.size], s1.heap.objs.size ≤ b := fun b hb => by
      rcases (show b = s1.heap.objs.size + 1 ∨ b = s1.heap.objs.size by simpa using hb) with z | z
      · rw [z]; exact Nat.le_add_right _ _
      · rw [z]; exact Nat.le_refl _
    rcases q with ⟨hq, q⟩ | ⟨hq, q⟩
    · obtain ⟨its, rv, p', hz⟩ := I1.list hq
      refine call_enumerate_list p'.isList fun h' he hit hsz hk => wpAny_pyIter_enum he ?_
      have I2 : Inv X pins σ H1 { s1 with heap := h' } := I1.kept (t' := s1.toks) hk
      exact ⟨s1.heap.objs.size + 1, [s1.heap.objs.size + 1, s1.heap.objs.size], _, _, H1, rfl, I2, turn_enum a (s1.heap.objs.size + 1) s1.heap.objs.size, ⟨⟨.none, he⟩, hit, Nat.succ_ne_self _⟩, fun b hb => I1.fpOk (fps b hb) (I1.hok.fresh (fps b hb)), q⟩
    · obtain ⟨its, rv, p', hz⟩ := I1.tuple hq
      have al : a < s1.heap.objs.size := by obtain ⟨_, e, _⟩ := p'; exact Heap.lt_size e
      refine enum_call (begins_tuple a its.toArray) p' fun h' he hit hsz hk => wpAny_pyIter_enum he ?_
      have I2 : Inv X pins σ H1 { s1 with heap := h' } := I1.kept (t' := s1.toks) hk
      exact ⟨s1.heap.objs.size + 1, [s1.heap.objs.size + 1, s1.heap.objs.size], _, _, H1, rfl, I2, turn_enT a (s1.heap.objs.size + 1) s1.heap.objs.size (Nat.ne_of_lt al), ⟨⟨.none, he⟩, ⟨_, hit, rfl, rfl⟩, Nat.succ_ne_self _, Nat.ne_of_gt (Nat.lt_succ_of_lt al)⟩, fun b hb => I1.fpOk (fps b hb) (I1.hok.fresh (fps b hb)), q⟩
end Vm
end
section
set_option Elab.async false
set_option linter.all false
set_option maxRecDepth 100000
set_option maxHeartbeats 4000000
namespace Vm
open PySem PySem.Spec PyProof.Rows L2
theorem mul_none (l : Addr) (items : Array Value) (n : Nat) (dd : Option Addr) (sl : Array (Option Value)) (x : Int) (u : Tok) (a0 : (decide (x < -(2 ^ 63)) || decide (x ≥ 2 ^ 63)) = false) (a1 : (items.isEmpty || x == 1) = false) (a2 : (decide (x ≤ 0) || items.isEmpty) = true) :
    Meets (Builtin.«tuple.__mul__» ⟨[.ref l, .int x u], []⟩) (fun _ R s => s.heap.get? l = some { cls := .type "tuple", dict := dd, data := .seq items n, slots := sl } ∧
      R (.ok (.ret (Value.ref s.heap.objs.size))) { s with heap := s.heap.push { cls := Value.type "tuple", data := Data.seq #[] }, toks := s.toks }) :=
  .of_wp fun prog w A R s h => by
    obtain ⟨hp, g, d, tk, os⟩ := s
    obtain ⟨look, h⟩ := h
    have f1 := AutoSeq1.idx_int
    wp_walk using wpAny_loadPart' look
    repeat (first
      | (refine wpAny_ite_false (decide_eq_false (by rw [a0]; exact Bool.false_ne_true)) ?_; wp_walk using wpAny_loadPart' look)
      | (refine wpAny_ite_false (decide_eq_false (by rw [a1]; exact Bool.false_ne_true)) ?_; wp_walk using wpAny_loadPart' look)
      | (refine wpAny_ite_true (decide_eq_true a2) ?_; wp_walk using wpAny_loadPart' look))
    exact ⟨_, rfl, h⟩
theorem mul_self (l : Addr) (items : Array Value) (n : Nat) (dd : Option Addr) (sl : Array (Option Value)) (x : Int) (u : Tok) (a0 : (decide (x < -(2 ^ 63)) || decide (x ≥ 2 ^ 63)) = false) (a1 : (items.isEmpty || x == 1) = true) :
    Meets (Builtin.«tuple.__mul__» ⟨[.ref l, .int x u], []⟩) (fun _ R s => s.heap.get? l = some { cls := .type "tuple", dict := dd, data := .seq items n, slots := sl } ∧
      R (.ok (.ret (Value.ref l))) s) :=
  .of_wp fun prog w A R s h => by
    obtain ⟨hp, g, d, tk, os⟩ := s
    obtain ⟨look, h⟩ := h
    have f1 := AutoSeq1.idx_int
    wp_walk using wpAny_loadPart' look
    repeat (first
      | (refine wpAny_ite_false (decide_eq_false (by rw [a0]; exact Bool.false_ne_true)) ?_; wp_walk using wpAny_loadPart' look)
      | (refine wpAny_ite_true (decide_eq_true a1) ?_; wp_walk using wpAny_loadPart' look))
    exact ⟨_, rfl, h⟩
def rRepA (K : PySem.W.Frag) : R2 := fun x y H Q => ∃ l k xs, x = .ref l ∧ y = .int k ∧ SqT K H l xs ∧ xs ≠ [] ∧ -1000000 < k ∧ k ≤ 1000 ∧ xs.length ≤ 1000 ∧ (k = 1 → Q (.ref l) H) ∧ (k ≠ 1 → ∀ p, H p = none → Q (.ref p) (upd H p (.tup (List.replicate k.toNat xs).flatten)))
theorem op_repA {X : Cx} : OpR X (binaryOp .Mult) (rRepA X.K) := by
  intro pins s σ H x y v u Q I rx ry h
  obtain ⟨l, k, xs, rfl, rfl, hT, hne, h1, h2, hz, q1, q2⟩ := h
  by_cases big : 2 ≤ k
  · exact op_repT pins s σ H _ _ v u Q I rx ry ⟨l, k, xs, rfl, rfl, hT, hne, big, h2, hz, q2 (by omega)⟩
  · cases rx
    obtain ⟨t, rfl⟩ := ry
    obtain ⟨its, r, ⟨⟨cls, dd, data, sl⟩, ho, hc, n, hd⟩, hs⟩ := I.tuple hT
    simp only at hc hd
    subst hc hd
    have hle : its.length = xs.length := r.length.symm
    have em : its.toArray.isEmpty = false := by
      cases its with
      | nil => exact absurd (List.eq_nil_of_length_eq_zero hle.symm) hne
      | cons a b => rfl
    have a0 : (decide (k < -(2 ^ 63)) || decide (k ≥ 2 ^ 63)) = false := by
      rw [decide_eq_false (by omega), decide_eq_false (by omega)]
      rfl
    have road : ∀ {R : Result → Shared → Prop}, True → True := fun _ => trivial
    by_cases one : k = 1
    · subst one
      exact wpAny_binaryOp_repeat_ref (T := "tuple") (U := "int") (by decide) ⟨_, ho, rfl⟩ (fun s' => typeIs_int s' 1 t) noFill_tuple_mul F.fills_int_mul F.slot_int_rmul repeat_tuple F.slot_int_index.lookup
        (call_meets F.slot_int_rmul (typeIs_int s 1 t) F.entry_int_rmul (F.args_int_rmul_2 _ _) (int_rmul_tuple 1 t l its.toArray n dd sl)
          ⟨ho, rfl, ⟨_, ho, rfl⟩, call_meets F.slot_tuple_mul ⟨_, ho, rfl⟩ F.entry_tuple_mul (F.args_tuple_mul_2 _ _) (mul_self l its.toArray n dd sl 1 t a0 (by rw [Bool.or_comm]; rfl)) ⟨ho, ⟨.ref l, H, I, rfl, q1 rfl⟩⟩⟩)
    · have z : k.toNat = 0 := by omega
      have nil : (List.replicate k.toNat xs).flatten = [] := by rw [z]; rfl
      have q3 := q2 one
      rw [nil] at q3
      refine wpAny_binaryOp_repeat_ref (T := "tuple") (U := "int") (by decide) ⟨_, ho, rfl⟩ (fun s' => typeIs_int s' k t) noFill_tuple_mul F.fills_int_mul F.slot_int_rmul repeat_tuple F.slot_int_index.lookup
        (call_meets F.slot_int_rmul (typeIs_int s k t) F.entry_int_rmul (F.args_int_rmul_2 _ _) (int_rmul_tuple k t l its.toArray n dd sl)
          ⟨ho, rfl, ⟨_, ho, rfl⟩, call_meets F.slot_tuple_mul ⟨_, ho, rfl⟩ F.entry_tuple_mul (F.args_tuple_mul_2 _ _) (mul_none l its.toArray n dd sl k t a0 (by rw [em, Bool.false_or]; exact beq_eq_false_iff_ne.mpr one) (by rw [em, Bool.or_false]; exact decide_eq_true (by omega))) ⟨ho, ?_⟩⟩)
      exact ⟨.ref s.heap.objs.size, _, I.laid (t' := s.toks) (o := .tup []) (fun b ob q => Heap.get?_push_of_some _ q) (Nat.le_refl _) ⟨by show 0 ≤ sizeLine; decide, [], .nil, IsTup.new _ _⟩, rfl, q3 _ (I.hok.fresh (Nat.le_refl _))⟩
section
variable {prog : Program} {w : World} {A : Around} {E : Value → Shared → Prop} {s : Shared}
theorem applied_back {sl : Addr} {vl vu vs : Value} {n : Nat} {Q : Int × Int × Nat → Shared → Prop} (hs : s.heap.IsSliceOf sl vl vu vs) (pl : IsPart vl none) (pu : IsPart vu none) (ps : IsPart vs (some (-1)))
    (h : Q ((n : Int) - 1, -1, n) s) : wpAny (model prog w) A (Builtin.Slice.sliceApplied (.ref sl) (pure (n : Int))) Q E s := by
  obtain ⟨os, hos, hcs, hds⟩ := id hs
  unfold Builtin.Slice.sliceApplied Builtin.Slice.sliceFields
  refine wpAny_bind (wpAny_bind (wpAny_field hos hds (x := vl) rfl (wpAny_bind (wpAny_field hos hds (x := vu) rfl (wpAny_bind (wpAny_field hos hds (x := vs) rfl (wpAny_pure ?_)))))))
  refine wpAny_bind (HT.slicePart_ ps ?_)
  show wpAny _ _ (if ((-1 : Int) == 0) = true then _ else _) _ _ s
  rw [if_neg (by decide)]
  refine wpAny_bind (HT.slicePart_ pl (wpAny_bind (HT.slicePart_ pu (wpAny_bind (wpAny_pure ?_)))))
  have e : Builtin.Slice.slicePlaces ((n : Int) - 1) (-1) (-1) = n := by
    unfold Builtin.Slice.slicePlaces
    rw [if_neg (by decide)]
    by_cases z : (n : Int) - 1 > -1
    · rw [if_pos z, show (-(-1) : Int) = 1 by decide, Int.ediv_one]
      omega
    · rw [if_neg z]
      omega
  show wpAny _ _ (pure ((n : Int) - 1, (-1 : Int), Builtin.Slice.slicePlaces ((n : Int) - 1) (-1) (-1))) _ _ s
  rw [e]
  exact wpAny_pure h
theorem pick_back (xs : Array Value) : ((List.range xs.size).filterMap fun (m : Nat) => xs[((xs.size : Int) - 1 + (m : Int) * (-1)).toNat]?).toArray = xs.toList.reverse.toArray := by
  have e : (List.range xs.size).filterMap (fun (m : Nat) => xs[((xs.size : Int) - 1 + (m : Int) * (-1)).toNat]?) = ((List.range xs.size).map fun m => xs.size - 1 - m).filterMap (xs[·]?) := by
    rw [List.filterMap_map]
    have q : (fun (m : Nat) => xs[((xs.size : Int) - 1 + (m : Int) * (-1)).toNat]?) = (fun x => xs[x]?) ∘ fun m => xs.size - 1 - m := by
      funext m
      have q : ((xs.size : Int) - 1 + (m : Int) * (-1)).toNat = xs.size - 1 - m := by omega
      rw [q]
      rfl
    rw [q]
  rw [e, PySem.W.krv_range, List.filterMap_reverse, PySem.W.krv_all]
theorem item_back {t sl : Addr} {items : Array Value} {vl vu vs : Value} {Q : Value → Shared → Prop} (ht : IsTup s.heap t items) (hs : s.heap.IsSliceOf sl vl vu vs) (pl : IsPart vl none) (pu : IsPart vu none) (ps : IsPart vs (some (-1))) (hz : items.size ≤ sizeLine)
    (h : Q (.ref s.heap.objs.size) { s with heap := s.heap.push { cls := .type "tuple", data := .seq items.toList.reverse.toArray } }) : wpAny (model prog w) A (getItem (.ref t) (.ref sl)) Q E s := by
  have fits : sizeOk (.seq items.toList.reverse.toArray) := by
    show items.toList.reverse.toArray.size ≤ sizeLine
    rw [List.size_toArray, List.length_reverse, Array.length_toList]
    exact hz
  obtain ⟨os, hos, hcs, hds⟩ := id hs
  have isSl : s.TypeIs (.ref sl) "slice" := ⟨os, hos, hcs⟩
  unfold getItem
  try with_reducible refine wpAny_holding ?_
  first | refine wpAny_bind (wpAny_pure ?_) | skip
  refine wpAny_bind (wpAny_sequenceKey ht.typeIs (by decide) ?_)
  refine wpAny_bind (wpAny_callSpecial?_slot (name := Str.ofString "__getitem__") ht.typeIs PyProof.Rows.slot_tuple_getitem
    (wpAny_call_entry PyProof.Rows.slot_tuple_getitem ht.typeIs entry_tuple_getitem ?_ (args_tuple_getitem _ _)))
  show wpAny _ _ (Builtin.Tuple.tupleItemsOf (.ref t) >>= _) _ _ s
  refine wpAny_bind (tupleItemsOf_ ht ?_)
  refine wpAny_bind (wpAny_typeOf isSl ?_)
  rw [if_pos (by decide)]
  refine wpAny_bind (applied_back hs pl pu ps ?_)
  have no : ¬ (((items.size : Int) - 1 == 0 && (-1 : Int) == 1 && items.size == items.size) = true) := by
    intro q
    rw [Bool.and_eq_true, Bool.and_eq_true] at q
    exact absurd q.1.2 (by decide)
  show wpAny _ _ (if (((items.size : Int) - 1) == 0 && (-1 : Int) == 1 && items.size == items.size) = true then _ else _) _ _ s
  rw [if_neg no, pick_back]
  first
    | exact wpAny_bind (m := Builtin.Tuple.tupleExact _) (wpAny_newObj_type (wpAny_pure ⟨_, rfl, wpAny_pure h⟩) fits)
    | exact wpAny_bind (m := Builtin.Tuple.tupleExact _) (wpAny_newObj_type (wpAny_bind (wpAny_pure (wpAny_pure ⟨_, rfl, wpAny_pure h⟩))) fits)
    | exact wpAny_bind (wpAny_bind (m := Builtin.Tuple.tupleExact _) (wpAny_newObj_type (wpAny_pure (wpAny_pure ⟨_, rfl, wpAny_pure h⟩)) fits))
    | exact wpAny_bind (wpAny_bind (m := Builtin.Tuple.tupleExact _) (wpAny_newObj_type (wpAny_pure ⟨_, rfl, wpAny_pure h⟩) fits))
end
def tRevA (K : PySem.W.Frag) (te : TE) : TE := fun σ H Q => te σ H fun x H1 => ∃ a xs, x = .ref a ∧ ((SqL K H1 a xs ∧ ∀ p, H1 p = none → Q (.ref p) (upd H1 p (.lst xs.reverse))) ∨ (SqT K H1 a xs ∧ ∀ p, H1 p = none → Q (.ref p) (upd H1 p (.tup xs.reverse))))
theorem pe_revA {X : Cx} {e : Expr} {te : TE} {k : Nat} {p1 p2 p3 pos : Pos} (he : PE X e te) : PE X (.Subscript e (.Slice none none (some (.UnaryOp .USub (.Constant (.int 1) k p1) p2)) p3) pos) (tRevA X.K te) := by
  refine ⟨fun pins s σ H Q I h => ?_⟩
  refine Subscript_ (thn (he.run pins s σ H _ I h) fun v s1 ⟨x, H1, I1, r1, q1⟩ => ?_)
  obtain ⟨a, xs, ex, q⟩ := q1
  subst ex
  cases r1
  have hst : PO X (some (.UnaryOp .USub (.Constant (.int 1) k p1) p2)) (tPart (tUn (rU fun i => .int (-i)) (tC (.int 1)))) := po_some (pe_un un_neg pe_int)
  refine wpAny_Slice (thn (po_none.run pins s1 σ H1 (fun o H2 => o = none ∧ H2 = H1) I1 ⟨rfl, rfl⟩) fun vl s2 ⟨l, H2, I2, pl, el, e2⟩ => ?_)
  subst el e2
  refine thn (po_none.run pins s2 σ H2 (fun o H3 => o = none ∧ H3 = H2) I2 ⟨rfl, rfl⟩) fun vu s3 ⟨u, H3, I3, pu, eu, e3⟩ => ?_
  subst eu e3
  refine thn (hst.run pins s3 σ H3 (fun o H4 => o = some (-1) ∧ H4 = H3) I3 ⟨1, rfl, -1, rfl, rfl, rfl⟩) fun vs s4 ⟨o, H4, I4, ps, eo, e4⟩ => ?_
  subst eo e4
  have I5 : Inv X pins σ H4 { s4 with heap := s4.heap.push { cls := .type "slice", data := .fields #[vl, vu, vs] } } := I4.kept (t' := s4.toks) fun b ob q => Heap.get?_push_of_some _ q
  rcases q with ⟨hx, q⟩ | ⟨hx, q⟩
  · obtain ⟨its, r, ht, hz⟩ := I5.list hx
    have hlen := r.length
    show wpAny (model X.prog X.w) X.A (subscriptTail e (.Slice none none (some (.UnaryOp .USub (.Constant (.int 1) k p1) p2)) p3) (.ref a) (.ref s4.heap.objs.size)) (EP X pins σ Q) X.xe { s4 with heap := s4.heap.push { cls := .type "slice", data := .fields #[vl, vu, vs] } }
    refine tail_any (ops := [.ref a, .ref s4.heap.objs.size]) ht.isList.typeIs (PySem.slot_list_getitem.lookup) ?_ (by with_unfolding_all rfl)
    refine wpAny_getItem_list_slice ht.isList (Heap.IsSliceOf.new _ vl vu vs) pl pu ps (by decide) ?_ (by rw [List.size_toArray]; omega)
    rw [PySem.W.krv_pick]
    exact ⟨.ref _, _, I5.laid (t' := s4.toks) (o := .lst xs.reverse) (fun b ob q => Heap.get?_push_of_some _ q) (Nat.le_refl _) ⟨by rw [List.length_reverse]; exact hz, _, 0, r.reverse, Heap.get?_push_size _ rfl⟩, rfl, q _ (I5.hok.fresh (Nat.le_refl _))⟩
  · obtain ⟨its, r, ht, hz⟩ := I5.tuple hx
    have hlen := r.length
    show wpAny (model X.prog X.w) X.A (subscriptTail e (.Slice none none (some (.UnaryOp .USub (.Constant (.int 1) k p1) p2)) p3) (.ref a) (.ref s4.heap.objs.size)) (EP X pins σ Q) X.xe { s4 with heap := s4.heap.push { cls := .type "slice", data := .fields #[vl, vu, vs] } }
    refine tail_any (ops := [.ref a, .ref s4.heap.objs.size]) ht.typeIs (PyProof.Rows.slot_tuple_getitem.lookup) ?_ (by with_unfolding_all rfl)
    refine item_back ht (Heap.IsSliceOf.new _ vl vu vs) pl pu ps (by rw [List.size_toArray]; omega) ?_
    exact ⟨.ref _, _, I5.laid (t' := s4.toks) (o := .tup xs.reverse) (fun b ob q => Heap.get?_push_of_some _ q) (Nat.le_refl _) ⟨by rw [List.length_reverse]; exact hz, _, r.reverse, IsTup.new _ _⟩, rfl, q _ (I5.hok.fresh (Nat.le_refl _))⟩
end Vm
end
section
set_option Elab.async false
set_option linter.all false
set_option maxRecDepth 100000
namespace Vm
open PySem PySem.Spec L2
def Qz (K : PySem.W.Frag) (F H : Hp) (d : D) (Q : VK) : Prop := ∀ v F' H', Px F H F' H' → Dn K F' v d → Q v H'
def Qf (K : PySem.W.Frag) (F H : Hp) (ds : List D) (Q : VK) : Prop := ∀ p us F' H', Px F H F' H' → H p = none → F' p = none → H' p = some (.lst us) → DnA K F' us ds → Q (.ref p) H'
section
variable {K : PySem.W.Frag} {F H : Hp} {Q : VK} {d d1 d2 d3 : D} {ds es : List D} {x y z v : V} {vs : List V}
theorem Px.fz {F H F' H' : Hp} (p : Px F H F' H') {a : Addr} {o : HO} (h : H a = none) (f : F' a = none) (e : H' a = some o) : Px F H (upd F' a o) H' := by
  refine ⟨fun b u q => ?_, p.hsub, fun b q r => ?_, fun b u q => ?_⟩
  · rw [upd_ne (ne_of_none (p.sub _ _ q) f)]; exact p.sub _ _ q
  · rw [upd_ne (fun z => r (by rw [z]; exact h))]; exact p.new b q r
  · by_cases z : b = a
    · subst z; rw [upd_same] at q; cases q; exact e
    · rw [upd_ne z] at q; exact p.fh _ _ q
theorem Qz.f (q : Qz K F H (.lst ds) Q) : Qf K F H ds Q := fun p us F' H' px h f e a =>
  q (.ref p) (upd F' p (.lst us)) H' (px.fz h f e) (.lst upd_same (a.up (fun b u z => by rw [upd_ne (ne_of_none z f)]; exact z)))
theorem Qz.now (q : Qz K F H d Q) (s : Same F H) (h : Dn K F v d) : Q v H := q v F H (Px.refl s) h
theorem Qz.tup (q : Qz K F H (.tup ds) Q) (s : Same F H) (a : DnA K F vs ds) : ∀ p, H p = none → Q (.ref p) (upd H p (.tup vs)) := fun p hp =>
  q (.ref p) (upd F p (.tup vs)) (upd H p (.tup vs)) (Px.add s hp) (.tup (SqT.of upd_same) (a.up (Px.add s hp (o := .tup vs)).sub))
theorem Qf.lst (q : Qf K F H ds Q) (s : Same F H) (a : DnA K F vs ds) : ∀ p, H p = none → Q (.ref p) (upd H p (.lst vs)) := fun p hp =>
  q p vs F (upd H p (.lst vs)) (Px.addO s hp) hp (s.free hp) upd_same a
theorem line_of {n : Nat} (h : n ≤ lineN) : n ≤ sizeLine := Nat.le_trans h (by decide)
abbrev RR := List V → Hp → VK → Prop
def r1 (r : V → Hp → VK → Prop) : RR := fun vs H Q => ∃ x, vs = [x] ∧ r x H Q
def r2 (r : R2) : RR := fun vs H Q => ∃ x y, vs = [x, y] ∧ r x y H Q
def rAddV (K : PySem.W.Frag) : R2 := fun x y H Q => rI0 (fun i j => .int (i + j)) x y H Q ∨ rCat x y H Q ∨ rCatA K x y H Q
def rMulV (K : PySem.W.Frag) : R2 := fun x y H Q => rI (fun i j => mulOk i j = true) (fun i j => .int (i * j)) x y H Q ∨ rRep x y H Q ∨ rRepA K x y H Q
def rEqP (K : PySem.W.Frag) : R2 := fun x y H Q => rEqD K x y H Q ∨ rEq x y H Q
def rNeP (K : PySem.W.Frag) : R2 := fun x y H Q => rNeD K x y H Q ∨ rNe x y H Q
theorem mulOk_ok {i j : Int} (h : mulOk i j = true) : IntMulOk i j := by
  have b : ∀ x : Int, Builtin.Int.intBits x ≤ x.natAbs.log2 + 1 := fun x => by
    unfold Builtin.Int.intBits
    split <;> omega
  have h3 : i.natAbs.log2 + j.natAbs.log2 ≤ 130000000 := of_decide_eq_true h
  intro z
  rw [Bool.and_eq_true] at z
  have z3 : (bitsLine : Int) < _ := of_decide_eq_true z.2
  have e : bitsLine = 134217728 := by decide
  rw [e] at z3
  have h1 := b i
  have h2 := b j
  omega
theorem op_mulV {X : Cx} : OpR X (binaryOp .Mult) (rMulV X.K) := OpR.or (opI fun _ _ _ _ _ _ _ hc q => PyProof.Rows.mul_int q (mulOk_ok hc)) (OpR.or op_rep op_repA)
theorem op_addV {X : Cx} : OpR X (binaryOp .Add) (rAddV X.K) := OpR.or op_add (OpR.or op_cat op_catA)
theorem op_fdivV {X : Cx} : OpR X (binaryOp .FloorDiv) (rI (fun i j => j ≠ 0 ∧ Builtin.divisionGoesByPylong i j = false) fun i j => .int (i.fdiv j)) := opI fun i j _ _ _ _ _ hc q => PyProof.Rows.floordiv_int hc.1 q (.inl hc.2)
theorem op_powV {X : Cx} : OpR X (binaryOp .Pow) (rI (fun i j => powOk i j = true) fun i j => .int (i ^ j.toNat)) := opI fun i j _ _ _ _ _ hc q => by
  have h := (Bool.and_eq_true _ _).mp hc
  have h1 := (Bool.and_eq_true _ _).mp h.1
  exact PyProof.Rows.pow_int_small (of_decide_eq_true h1.1) (of_decide_eq_true h1.2) (of_decide_eq_true h.2) q
theorem DAs.inv1 {vs : List V} (h : DAs K F H vs [d1]) : ∃ x, vs = [x] ∧ DA K F H x d1 := by
  cases h with
  | cons a t => cases t with
    | nil => exact ⟨_, rfl, a⟩
theorem DAs.inv2 {vs : List V} (h : DAs K F H vs [d1, d2]) : ∃ x y, vs = [x, y] ∧ DA K F H x d1 ∧ DA K F H y d2 := by
  cases h with
  | cons a t =>
    obtain ⟨y, rfl, b⟩ := t.inv1
    exact ⟨_, y, rfl, a, b⟩
theorem DAs.inv3 {vs : List V} (h : DAs K F H vs [d1, d2, d3]) : ∃ x y z, vs = [x, y, z] ∧ DA K F H x d1 ∧ DA K F H y d2 ∧ DA K F H z d3 := by
  cases h with
  | cons a t =>
    obtain ⟨y, z, rfl, b, c⟩ := t.inv2
    exact ⟨_, y, z, rfl, a, b, c⟩
theorem cut_dn {us : List V} (a : DnA K F us ds) (lo hi : Option Int) : DnA K F (cutV us lo hi) (cut ds lo hi) := by
  unfold cutV cut
  rw [a.len]
  exact (a.drop _).take _
theorem dnInts : ∀ ns : List Int, DnA K F (ns.map V.int) (ns.map D.int)
  | [] => .nil
  | n :: ns => .cons (.int n) (dnInts ns)
theorem intsD_dn : ∀ {ds : List D} {us : List V} {ns : List Int}, intsD ds = some ns → DnA K F us ds → us = ns.map V.int
  | [], _, _, h, .nil => by cases h; rfl
  | .int i :: ds, _, ns, h, .cons a t => by
    unfold intsD at h
    cases q : intsD ds with
    | none => rw [q] at h; cases h
    | some ms =>
      rw [q] at h
      cases h
      cases a
      rw [intsD_dn q t]
      rfl
  | .non :: _, _, _, h, _ => by cases h
  | .bl _ :: _, _, _, h, _ => by cases h
  | .str _ :: _, _, _, h, _ => by cases h
  | .tup _ :: _, _, _, h, _ => by cases h
  | .lst _ :: _, _, _, h, _ => by cases h
  | .dic _ :: _, _, _, h, _ => by cases h
  | .exc _ _ :: _, _, _, h, _ => by cases h
  | .scr _ :: _, _, _, h, _ => by cases h
  | .cls _ :: _, _, _, h, _ => by cases h
theorem boolsD_dn : ∀ {ds : List D} {us : List V} {ns : List Bool}, boolsD ds = some ns → DnA K F us ds → us = ns.map V.bl
  | [], _, _, h, .nil => by cases h; rfl
  | .bl i :: ds, _, ns, h, .cons a t => by
    unfold boolsD at h
    cases q : boolsD ds with
    | none => rw [q] at h; cases h
    | some ms =>
      rw [q] at h
      cases h
      cases a
      rw [boolsD_dn q t]
      rfl
  | .non :: _, _, _, h, _ => by cases h
  | .int _ :: _, _, _, h, _ => by cases h
  | .str _ :: _, _, _, h, _ => by cases h
  | .tup _ :: _, _, _, h, _ => by cases h
  | .lst _ :: _, _, _, h, _ => by cases h
  | .dic _ :: _, _, _, h, _ => by cases h
  | .exc _ _ :: _, _, _, h, _ => by cases h
  | .scr _ :: _, _, _, h, _ => by cases h
  | .cls _ :: _, _, _, h, _ => by cases h
theorem add_ok (h : p_add [d1, d2] = .ok d) (a : DA K F H x d1) (b : DA K F H y d2) (s : Same F H) (q : Qz K F H d Q) : rAddV K x y H Q := by
  unfold p_add at h
  split at h <;> try cases h
  all_goals rename_i hd; cases hd
  · have e1 := a.int; have e2 := b.int
    subst e1; subst e2
    exact .inl ⟨_, _, rfl, rfl, q.now s (.int _)⟩
  · rename_i l m
    split at h
    · rename_i hz
      cases h
      obtain ⟨p, us, rfl, h1, a1⟩ := a.tup s
      obtain ⟨p2, us2, rfl, h2, a2⟩ := b.tup s
      refine .inr (.inr ⟨p, p2, us, us2, rfl, rfl, h1, h2, line_of (by rw [a1.len, a2.len]; exact hz), fun e => ?_, fun _ e => ?_, fun _ _ => q.tup s (a1.app a2)⟩)
      · subst e
        cases a1
        have b' : Dn K F (.ref p2) (.tup m) := by
          rcases b with b | ⟨_, _, _, _, z, _⟩
          · exact b
          · cases z
        exact q.now s b'
      · subst e
        cases a2
        have a' : Dn K F (.ref p) (.tup l) := by
          rcases a with b | ⟨_, _, _, _, z, _⟩
          · exact b
          · cases z
        rw [List.append_nil] at q
        exact q.now s a'
    · cases h
  · split at h
    · rename_i hz
      cases h
      obtain ⟨p, us, rfl, h1, a1⟩ := a.lst s
      obtain ⟨p2, us2, rfl, h2, a2⟩ := b.lst s
      exact .inr (.inl ⟨p, p2, us, us2, rfl, rfl, h1, h2, line_of (by rw [a1.len, a2.len]; exact hz), q.f.lst s (a1.app a2)⟩)
    · cases h
theorem add_okF {l m : List D} (hz : l.length + m.length ≤ lineN) (a : DA K F H x (.lst l)) (b : DA K F H y (.lst m)) (s : Same F H) (q : Qf K F H (l ++ m) Q) : rAddV K x y H Q := by
  obtain ⟨p, us, rfl, h1, a1⟩ := a.lst s
  obtain ⟨p2, us2, rfl, h2, a2⟩ := b.lst s
  exact .inr (.inl ⟨p, p2, us, us2, rfl, rfl, h1, h2, line_of (by rw [a1.len, a2.len]; exact hz), q.lst s (a1.app a2)⟩)
end
end Vm
end
section
set_option Elab.async false
set_option linter.all false
set_option maxRecDepth 100000
namespace Vm
open PySem PySem.Spec L2
section
variable {K : PySem.W.Frag} {F H : Hp} {Q : VK} {d d1 d2 d3 : D} {ds es : List D} {x y z v : V} {vs : List V}
theorem mul_okF {l : List D} {k : Int} (hz : (decide (k < 1000000) && decide (l.length * k.toNat ≤ lineN) && decide (-1000000 < k)) = true) (a : DA K F H x (.lst l)) (b : DA K F H y (.int k)) (s : Same F H)
    (q : Qf K F H (List.replicate k.toNat l).flatten Q) : rMulV K x y H Q := by
  have h := (Bool.and_eq_true _ _).mp hz
  have h1 := (Bool.and_eq_true _ _).mp h.1
  have e := b.int
  subst e
  obtain ⟨p, us, rfl, h2, a1⟩ := a.lst s
  have l1 : k < 1000000 := of_decide_eq_true h1.1
  have l2 : -1000000 < k := of_decide_eq_true h.2
  refine .inr (.inl ⟨p, k, us, rfl, rfl, h2, by omega, by omega, line_of (by rw [a1.len]; exact of_decide_eq_true h1.2), q.lst s (a1.rep _)⟩)
theorem flat1 (l : List D) : (List.replicate (1 : Int).toNat l).flatten = l := by
  show l ++ [] = l
  rw [List.append_nil]
theorem mul_ok (h : p_mul [d1, d2] = .ok d) (a : DA K F H x d1) (b : DA K F H y d2) (s : Same F H) (q : Qz K F H d Q) : rMulV K x y H Q := by
  unfold p_mul at h
  split at h <;> try cases h
  all_goals rename_i hd; cases hd
  · split at h
    · rename_i hz
      cases h
      have e1 := a.int; have e2 := b.int
      subst e1; subst e2
      exact .inl ⟨_, _, rfl, rfl, hz, q.now s (.int _)⟩
    · cases h
  · split at h
    · rename_i hz
      cases h
      exact mul_okF hz a b s q.f
    · cases h
  · split at h
    · rename_i hz
      cases h
      obtain ⟨z0, z4⟩ := (Bool.and_eq_true _ _).mp hz
      obtain ⟨z0, z3⟩ := (Bool.and_eq_true _ _).mp z0
      obtain ⟨z1, z2⟩ := (Bool.and_eq_true _ _).mp z0
      have e2 := b.int
      subst e2
      obtain ⟨p, us, rfl, sq, dn⟩ := a.tup s
      have ln := dn.len
      refine .inr (.inr ⟨p, _, us, rfl, rfl, sq, fun e => ?_, of_decide_eq_true z4, of_decide_eq_true z2, by rw [ln]; exact of_decide_eq_true z3, fun one => ?_, fun _ => q.tup s (dn.rep _)⟩)
      · rw [e] at ln
        have l0 := List.eq_nil_of_length_eq_zero ln.symm
        rw [l0] at z1
        cases z1
      · subst one
        rcases a with a | ⟨_, _, _, _, e3, _⟩
        · rw [flat1] at q
          exact q.now s a
        · cases e3
    · cases h
theorem sub_ok (h : p_sub [d1, d2] = .ok d) (a : DA K F H x d1) (b : DA K F H y d2) (s : Same F H) (q : Qz K F H d Q) : rI0 (fun i j => .int (i - j)) x y H Q := by
  unfold p_sub at h
  split at h <;> try cases h
  all_goals rename_i hd; cases hd
  have e1 := a.int; have e2 := b.int
  subst e1; subst e2
  exact ⟨_, _, rfl, rfl, q.now s (.int _)⟩
theorem fdiv_ok (h : p_fdiv [d1, d2] = .ok d) (a : DA K F H x d1) (b : DA K F H y d2) (s : Same F H) (q : Qz K F H d Q) : rI (fun i j => j ≠ 0 ∧ Builtin.divisionGoesByPylong i j = false) (fun i j => .int (i.fdiv j)) x y H Q := by
  unfold p_fdiv at h
  split at h <;> try cases h
  all_goals rename_i hd; cases hd
  rename_i i j
  have e1 := a.int; have e2 := b.int
  subst e1; subst e2
  split at h
  · rename_i hz
    cases h
    have h3 := (Bool.and_eq_true _ _).mp hz
    have h1 : (0 : Int) < j := of_decide_eq_true h3.1
    refine ⟨_, _, rfl, rfl, ⟨by omega, PyProof.noPylong_of_log2 (of_decide_eq_true h3.2)⟩, ?_⟩
    show Q (V.int (i.fdiv j)) H
    rw [Int.fdiv_eq_ediv_of_nonneg i (show 0 ≤ j by omega)]
    exact q.now s (.int _)
  · split at h
    · rename_i k e
      cases h
      unfold dneg at e
      split at e
      · rename_i hz
        cases e
        have h3 := (Bool.and_eq_true _ _).mp hz
        have h1 : j < 0 := of_decide_eq_true h3.1
        exact ⟨_, _, rfl, rfl, ⟨by omega, PyProof.noPylong_of_log2 (of_decide_eq_true h3.2)⟩, q.now s (.int _)⟩
      · split at e
        · rename_i hz
          cases e
          have h3 := (Bool.and_eq_true _ _).mp hz
          have h2 : Builtin.divisionGoesByPylong i j = false := by
            have z := h3.2
            cases w : Builtin.divisionGoesByPylong i j with
            | false => rfl
            | true => rw [w] at z; cases z
          exact ⟨_, _, rfl, rfl, ⟨of_decide_eq_true h3.1, h2⟩, q.now s (.int _)⟩
        · cases e
    · cases h
theorem mod_ok (h : p_mod [d1, d2] = .ok d) (a : DA K F H x d1) (b : DA K F H y d2) (s : Same F H) (q : Qz K F H d Q) : rI (fun _ j => j ≠ 0) (fun i j => .int (i.fmod j)) x y H Q := by
  unfold p_mod at h
  split at h <;> try cases h
  all_goals rename_i hd; cases hd
  split at h
  · rename_i hz
    cases h
    have e1 := a.int; have e2 := b.int
    subst e1; subst e2
    exact ⟨_, _, rfl, rfl, hz, q.now s (.int _)⟩
  · cases h
theorem pow_ok (h : p_pow [d1, d2] = .ok d) (a : DA K F H x d1) (b : DA K F H y d2) (s : Same F H) (q : Qz K F H d Q) : rI (fun i j => powOk i j = true) (fun i j => .int (i ^ j.toNat)) x y H Q := by
  unfold p_pow at h
  split at h <;> try cases h
  all_goals rename_i hd; cases hd
  split at h
  · rename_i hz
    cases h
    have e1 := a.int; have e2 := b.int
    subst e1; subst e2
    exact ⟨_, _, rfl, rfl, hz, q.now s (.int _)⟩
  · cases h
theorem eq_okD (h : (if d1.okEq && d2.okEq then R.ok (D.bl (d1.eqv d2)) else .bad) = .ok d) (a : DA K F H x d1) (b : DA K F H y d2) (s : Same F H) (q : Qz K F H d Q) : rEqD K x y H Q := by
  have h : (if (d1.okEq && d2.okEq) = true then R.ok (D.bl (d1.eqv d2)) else R.bad) = R.ok d := h
  split at h
  · rename_i hz
    cases h
    have g := (Bool.and_eq_true _ _).mp hz
    obtain ⟨p1, s1⟩ := okEq_shaped g.1
    obtain ⟨p2, s2⟩ := okEq_shaped g.2
    exact ⟨_, _, Dn.dp _ _ p1 (a.dn s), Dn.dp _ _ p2 (b.dn s), s1, s2, q.now s (.bl _)⟩
  · cases h
theorem ne_okD (h : (if d1.okEq && d2.okEq then R.ok (D.bl (!d1.eqv d2)) else .bad) = .ok d) (a : DA K F H x d1) (b : DA K F H y d2) (s : Same F H) (q : Qz K F H d Q) : rNeD K x y H Q := by
  have h : (if (d1.okEq && d2.okEq) = true then R.ok (D.bl (!d1.eqv d2)) else R.bad) = R.ok d := h
  split at h
  · rename_i hz
    cases h
    have g := (Bool.and_eq_true _ _).mp hz
    obtain ⟨p1, s1⟩ := okEq_shaped g.1
    obtain ⟨p2, s2⟩ := okEq_shaped g.2
    exact ⟨_, _, Dn.dp _ _ p1 (a.dn s), Dn.dp _ _ p2 (b.dn s), s1, s2, q.now s (.bl _)⟩
  · cases h
theorem any_py (d : D) : ∀ l : List D, (D.pyAll l).any (fun z => PyData.eqv z d.py) = l.any fun z => z.eqv d
  | [] => rfl
  | a :: l => by
    show (PyData.eqv a.py d.py || (D.pyAll l).any _) = (a.eqv d || l.any _)
    rw [any_py d l]
    rfl
theorem one_cps {x : Str} {c : Nat} (h : x.cps.toList = [c]) : x = ⟨#[c]⟩ := by
  cases x with
  | mk cps =>
    have h : cps.toList = [c] := h
    have : cps = #[c] := Array.toList_inj.mp h
    rw [this]
def rInV (K : PySem.W.Frag) : V → V → Hp → VK → Prop := fun x y H Q => rInD K x y H Q ∨ ∃ (c : Nat) (z : Str), x = .str ⟨#[c]⟩ ∧ y = .str z ∧ Q (.bl (decide (c ∈ z.cps.toList))) H
def rNotInV (K : PySem.W.Frag) : V → V → Hp → VK → Prop := fun x y H Q => rNotInD K x y H Q ∨ ∃ (c : Nat) (z : Str), x = .str ⟨#[c]⟩ ∧ y = .str z ∧ Q (.bl (!decide (c ∈ z.cps.toList))) H
theorem inn_ok (h : p_inn [d1, d2] = .ok d) (a : DA K F H x d1) (b : DA K F H y d2) (s : Same F H) (q : Qz K F H d Q) : rInV K x y H Q := by
  unfold p_inn at h
  split at h <;> try cases h
  all_goals rename_i e; cases e
  rotate_left
  · split at h
    · rename_i x0 z0 l0 c hc
      cases h
      have e1 := a.str
      have e2 := b.str
      subst e1; subst e2
      refine .inr ⟨c, z0, ?_, rfl, q.now s (.bl _)⟩
      rw [one_cps hc]
    · cases h
  rename_i l
  split at h
  · rename_i hz
    cases h
    have g := (Bool.and_eq_true _ _).mp hz
    obtain ⟨p1, s1⟩ := okEq_shaped g.1
    obtain ⟨p2, s2⟩ := okEq_shaped g.2
    refine .inl ⟨_, D.pyAll l, Dn.dp _ _ p1 (a.dn s), Dn.dp _ _ p2 (b.dn s), s1, s2, ?_⟩
    rw [any_py]
    exact q.now s (.bl _)
  · cases h
theorem nin_ok (h : p_nin [d1, d2] = .ok d) (a : DA K F H x d1) (b : DA K F H y d2) (s : Same F H) (q : Qz K F H d Q) : rNotInV K x y H Q := by
  unfold p_nin at h
  split at h <;> try cases h
  all_goals rename_i e; cases e
  rotate_left
  · split at h
    · rename_i x0 z0 l0 c hc
      cases h
      have e1 := a.str
      have e2 := b.str
      subst e1; subst e2
      refine .inr ⟨c, z0, ?_, rfl, q.now s (.bl _)⟩
      rw [one_cps hc]
    · cases h
  rename_i l
  split at h
  · rename_i hz
    cases h
    have g := (Bool.and_eq_true _ _).mp hz
    obtain ⟨p1, s1⟩ := okEq_shaped g.1
    obtain ⟨p2, s2⟩ := okEq_shaped g.2
    refine .inl ⟨_, D.pyAll l, Dn.dp _ _ p1 (a.dn s), Dn.dp _ _ p2 (b.dn s), s1, s2, ?_⟩
    rw [any_py]
    exact q.now s (.bl _)
  · cases h
theorem str_dec {a b : Str} : decide (V.str a = V.str b) = decide (a = b) := by
  by_cases h : a = b
  · subst h; rw [decide_eq_true rfl, decide_eq_true rfl]
  · rw [decide_eq_false h, decide_eq_false (fun e => h (by cases e; rfl))]
theorem eq_ok (h : p_eq [d1, d2] = .ok d) (a : DA K F H x d1) (b : DA K F H y d2) (s : Same F H) (q : Qz K F H d Q) : rEqP K x y H Q := by
  unfold p_eq at h
  split at h
  · rename_i e
    cases e
    cases h
    have e1 := a.str; have e2 := b.str
    subst e1; subst e2
    exact .inr ⟨rfl, by rw [str_dec]; exact q.now s (.bl _)⟩
  · rename_i e
    cases e
    exact .inl (eq_okD h a b s q)
  · cases h
theorem ne_ok (h : p_ne [d1, d2] = .ok d) (a : DA K F H x d1) (b : DA K F H y d2) (s : Same F H) (q : Qz K F H d Q) : rNeP K x y H Q := by
  unfold p_ne at h
  split at h
  · rename_i e
    cases e
    cases h
    have e1 := a.str; have e2 := b.str
    subst e1; subst e2
    exact .inr ⟨rfl, by rw [str_dec]; exact q.now s (.bl _)⟩
  · rename_i e
    cases e
    exact .inl (ne_okD h a b s q)
  · cases h
theorem lt_ok (h : p_lt [d1, d2] = .ok d) (a : DA K F H x d1) (b : DA K F H y d2) (s : Same F H) (q : Qz K F H d Q) : rI0 (fun i j => .bl (decide (i < j))) x y H Q := by
  unfold p_lt at h
  split at h <;> try cases h
  all_goals rename_i hd; cases hd
  have e1 := a.int; have e2 := b.int
  subst e1; subst e2
  exact ⟨_, _, rfl, rfl, q.now s (.bl _)⟩
theorem le_ok (h : p_le [d1, d2] = .ok d) (a : DA K F H x d1) (b : DA K F H y d2) (s : Same F H) (q : Qz K F H d Q) : rI0 (fun i j => .bl (decide (i ≤ j))) x y H Q := by
  unfold p_le at h
  split at h <;> try cases h
  all_goals rename_i hd; cases hd
  have e1 := a.int; have e2 := b.int
  subst e1; subst e2
  exact ⟨_, _, rfl, rfl, q.now s (.bl _)⟩
theorem gt_ok (h : p_gt [d1, d2] = .ok d) (a : DA K F H x d1) (b : DA K F H y d2) (s : Same F H) (q : Qz K F H d Q) : rI0 (fun i j => .bl (decide (j < i))) x y H Q := by
  unfold p_gt at h
  split at h <;> try cases h
  all_goals rename_i hd; cases hd
  have e1 := a.int; have e2 := b.int
  subst e1; subst e2
  exact ⟨_, _, rfl, rfl, q.now s (.bl _)⟩
theorem ge_ok (h : p_ge [d1, d2] = .ok d) (a : DA K F H x d1) (b : DA K F H y d2) (s : Same F H) (q : Qz K F H d Q) : rI0 (fun i j => .bl (decide (j ≤ i))) x y H Q := by
  unfold p_ge at h
  split at h <;> try cases h
  all_goals rename_i hd; cases hd
  have e1 := a.int; have e2 := b.int
  subst e1; subst e2
  exact ⟨_, _, rfl, rfl, q.now s (.bl _)⟩
theorem neg_ok (h : p_neg [d1] = .ok d) (a : DA K F H x d1) (s : Same F H) (q : Qz K F H d Q) : rU (fun i => .int (-i)) x H Q := by
  unfold p_neg at h
  split at h <;> try cases h
  all_goals rename_i hd; cases hd
  have e1 := a.int
  subst e1
  exact ⟨_, rfl, q.now s (.int _)⟩
theorem not_ok (h : p_not [d1] = .ok d) (a : DA K F H x d1) (s : Same F H) (q : Qz K F H d Q) : ∃ c, x = .bl c ∧ Q (.bl (!c)) H := by
  unfold p_not at h
  split at h <;> try cases h
  all_goals rename_i hd; cases hd
  have e1 := a.bl
  subst e1
  exact ⟨_, rfl, q.now s (.bl _)⟩
theorem da_non (a : DA K F H x d1) : x = .non ↔ d1 = .non := by
  constructor
  · intro e
    subst e
    rcases a with a | ⟨p, us, es, e1, _⟩
    · cases a; rfl
    · cases e1
  · intro e
    subst e
    rcases a with a | ⟨p, us, es, e1, e2, _⟩
    · cases a; rfl
    · cases e2
theorem isn_ok (h : p_isn [d1] = .ok d) (a : DA K F H x d1) (s : Same F H) (q : Qz K F H d Q) : Q (.bl (decide (x = .non))) H := by
  unfold p_isn at h
  split at h <;> try cases h
  · rename_i hd
    cases hd
    rw [decide_eq_true ((da_non a).mpr rfl)]
    exact q.now s (.bl _)
  · rename_i n hd
    cases hd
    rw [decide_eq_false (fun z => n (by rw [(da_non a).mp z]))]
    exact q.now s (.bl _)
theorem nisn_ok (h : p_nisn [d1] = .ok d) (a : DA K F H x d1) (s : Same F H) (q : Qz K F H d Q) : Q (.bl (!decide (x = .non))) H := by
  unfold p_nisn at h
  split at h <;> try cases h
  · rename_i hd
    cases hd
    rw [decide_eq_true ((da_non a).mpr rfl)]
    exact q.now s (.bl _)
  · rename_i n hd
    cases hd
    rw [decide_eq_false (fun z => n (by rw [(da_non a).mp z]))]
    exact q.now s (.bl _)
theorem ixL_ok {l : List D} {us : List V} {i : Int} (h : ixL l i = .ok d) (a : DnA K F us l) : ∃ v, atI us i = some v ∧ Dn K F v d := by
  unfold ixL at h
  cases e : ixN l.length i with
  | none => rw [e] at h; cases h
  | some j =>
    rw [e] at h
    simp only at h
    cases e2 : l[j]? with
    | none => rw [e2] at h; cases h
    | some d' =>
      rw [e2] at h
      cases h
      obtain ⟨v, hv, dv⟩ := a.getD e2
      refine ⟨v, ?_, dv⟩
      unfold atI
      rw [a.len, e]
      exact hv
theorem ix_ok (h : p_ix [d1, d2] = .ok d) (a : DA K F H x d1) (b : DA K F H y d2) (s : Same F H) (q : Qz K F H d Q) : rIx K x y H Q := by
  unfold p_ix at h
  split at h <;> try cases h
  all_goals rename_i hd; cases hd
  · have e := b.int
    subst e
    obtain ⟨p, us, rfl, h1, a1⟩ := a.tup s
    obtain ⟨v, h2, dv⟩ := ixL_ok h a1
    exact .inr (.inl ⟨p, us, _, v, rfl, rfl, h1, h2, q.now s dv⟩)
  · have e := b.int
    subst e
    obtain ⟨p, us, rfl, h1, a1⟩ := a.lst s
    obtain ⟨v, h2, dv⟩ := ixL_ok h a1
    exact .inl ⟨p, us, _, v, rfl, rfl, SqL.of h1, h2, q.now s dv⟩
  · have e := b.int
    subst e
    have e1 := a.str
    subst e1
    split at h
    · rename_i hz
      split at h
      · rename_i c hc
        cases h
        exact .inr (.inr ⟨_, _, c, rfl, rfl, hz, hc, q.now s (.str _)⟩)
      · cases h
    · cases h
def rSl (K : PySem.W.Frag) : V → Option Int → Option Int → Hp → VK → Prop := fun x lo hi H Q => (rSlL K x lo hi H Q ∨ rSlA K x lo hi H Q) ∨ rSlS x lo hi H Q
theorem sl_V {X : Cx} : SlR X (rSl X.K) := SlR.or (SlR.or sl_list sl_tupA) sl_str
theorem cut_scr (ns : List Int) (lo hi : Option Int) : DnA K F (cutV (ns.map V.int) lo hi) (cut (ns.map D.int) lo hi) := cut_dn (dnInts ns) lo hi
theorem cut_whole {l : List D} {lo hi : Option Int} (h : HT.sIx l.length 0 lo = 0 ∧ HT.sIx l.length l.length hi = l.length) : cut l lo hi = l := by
  unfold cut
  rw [h.1, h.2, List.drop_zero, Nat.sub_zero, List.take_length]
theorem slL_okF {lo hi : Option Int} (a : DA K F H x (.lst ds)) (s : Same F H) (q : Qf K F H (cut ds lo hi) Q) : rSl K x lo hi H Q := by
  obtain ⟨p, us, rfl, h1, a1⟩ := a.lst s
  exact .inl (.inl ⟨p, us, rfl, SqL.of h1, q.lst s (cut_dn a1 lo hi)⟩)
theorem slS_okF {ns : List Int} {lo hi : Option Int} (a : DA K F H x (.scr ns)) (s : Same F H) (q : Qf K F H (cut (ns.map D.int) lo hi) Q) : rSl K x lo hi H Q := by
  obtain ⟨p, rfl, h1⟩ := a.scr s
  exact .inl (.inl ⟨p, _, rfl, h1, q.lst s (cut_scr ns lo hi)⟩)
theorem slT_ok {lo hi : Option Int} (a : DA K F H x (.tup ds)) (s : Same F H) (q : Qz K F H (.tup (cut ds lo hi)) Q) : rSl K x lo hi H Q := by
  have a' : Dn K F x (.tup ds) := by
    rcases a with b | ⟨_, _, _, _, z, _⟩
    · exact b
    · cases z
  obtain ⟨p, us, rfl, h1, a1⟩ := a.tup s
  refine .inl (.inr ⟨p, us, rfl, h1, fun w => ?_, fun _ => q.tup s (cut_dn a1 lo hi)⟩)
  rw [a1.len] at w
  rw [cut_whole w] at q
  exact q.now s a'
theorem slX_ok {z : Str} {lo hi : Option Int} (a : DA K F H x (.str z)) (hz : z.length ≤ sizeLine) (s : Same F H) (q : Qz K F H (.str (cutS z lo hi)) Q) : rSl K x lo hi H Q := by
  have e := a.str
  subst e
  exact .inr ⟨z, rfl, hz, q.now s (.str _)⟩
def rLenV (K : PySem.W.Frag) : RR := fun xs H Q => (∃ p ys, xs = [.ref p] ∧ (SqL K H p ys ∨ SqT K H p ys) ∧ Q (.int ys.length) H) ∨ ∃ z, xs = [.str z] ∧ z.length ≤ sizeLine ∧ Q (.int z.length) H
theorem len_ok (h : p_len [d1] = .ok d) (a : DA K F H x d1) (s : Same F H) (q : Qz K F H d Q) : rLenV K [x] H Q := by
  unfold p_len at h
  split at h <;> try cases h
  all_goals rename_i hd; cases hd
  · obtain ⟨p, us, rfl, h1, a1⟩ := a.tup s
    exact .inl ⟨p, us, rfl, .inr h1, by rw [a1.len]; exact q.now s (.int _)⟩
  · obtain ⟨p, us, rfl, h1, a1⟩ := a.lst s
    exact .inl ⟨p, us, rfl, .inl (SqL.of h1), by rw [a1.len]; exact q.now s (.int _)⟩
  · split at h
    · rename_i hz
      cases h
      have e1 := a.str
      subst e1
      exact .inr ⟨_, rfl, hz, q.now s (.int _)⟩
    · cases h
def rAbsV : RR := fun xs H Q => ∃ i, xs = [.int i] ∧ Q (.int (if i < 0 then -i else i)) H
theorem abs_ok (h : p_abs [d1] = .ok d) (a : DA K F H x d1) (s : Same F H) (q : Qz K F H d Q) : rAbsV [x] H Q := by
  unfold p_abs at h
  split at h <;> try cases h
  all_goals rename_i hd; cases hd
  have e1 := a.int
  subst e1
  exact ⟨_, rfl, q.now s (.int _)⟩
def rMax2V : RR := fun xs H Q => ∃ i j, xs = [.int i, .int j] ∧ Q (.int (if j > i then j else i)) H
def rMin2V : RR := fun xs H Q => ∃ i j, xs = [.int i, .int j] ∧ Q (.int (if j < i then j else i)) H
theorem max2_ok (h : p_max2 [d1, d2] = .ok d) (a : DA K F H x d1) (b : DA K F H y d2) (s : Same F H) (q : Qz K F H d Q) : rMax2V [x, y] H Q := by
  unfold p_max2 at h
  split at h <;> try cases h
  all_goals rename_i hd; cases hd
  have e1 := a.int; have e2 := b.int
  subst e1; subst e2
  exact ⟨_, _, rfl, q.now s (.int _)⟩
theorem min2_ok (h : p_min2 [d1, d2] = .ok d) (a : DA K F H x d1) (b : DA K F H y d2) (s : Same F H) (q : Qz K F H d Q) : rMin2V [x, y] H Q := by
  unfold p_min2 at h
  split at h <;> try cases h
  all_goals rename_i hd; cases hd
  have e1 := a.int; have e2 := b.int
  subst e1; subst e2
  exact ⟨_, _, rfl, q.now s (.int _)⟩
def rIntV : RR := fun xs H Q => ((∃ i, xs = [.int i] ∧ Q (.int i) H) ∨ ∃ k, xs = [.bl k] ∧ Q (.int (if k then 1 else 0)) H) ∨ ∃ a n, xs = [.str a] ∧ PySem.intText? a = some n ∧ a.length ≤ 640 ∧ Q (.int n) H
theorem int_ok (h : p_int [d1] = .ok d) (a : DA K F H x d1) (s : Same F H) (q : Qz K F H d Q) : rIntV [x] H Q := by
  unfold p_int at h
  split at h <;> try cases h
  all_goals rename_i hd; cases hd
  · have e1 := a.int
    subst e1
    exact .inl (.inl ⟨_, rfl, q.now s (.int _)⟩)
  · have e1 := a.bl
    subst e1
    exact .inl (.inr ⟨_, rfl, q.now s (.int _)⟩)
  · have e1 := a.str
    subst e1
    split at h
    · rename_i hz
      split at h
      · rename_i n hn
        cases h
        exact .inr ⟨_, n, rfl, hn, hz, q.now s (.int _)⟩
      · cases h
    · cases h
def rPart (b : Str) : V → Hp → VK → Prop := fun x H Q => ∃ a, x = .str a ∧ (b.length == 0) = false ∧ a.length ≤ sizeLine ∧ ∀ p, H p = none → Q (.ref p) (upd H p (.tup [.str (Txt.partition a b).1, .str (Txt.partition a b).2.1, .str (Txt.partition a b).2.2]))
theorem part_ok {b : Str} (h : p_part b [d1] = .ok d) (a : DA K F H x d1) (s : Same F H) (q : Qz K F H d Q) : rPart b x H Q := by
  unfold p_part at h
  split at h <;> try cases h
  all_goals rename_i hd; cases hd
  split at h
  · rename_i hz
    cases h
    have e1 := a.str
    subst e1
    exact ⟨_, rfl, hz.1, hz.2, q.tup s (.cons (.str _) (.cons (.str _) (.cons (.str _) .nil)))⟩
  · cases h
def rStrI : RR := fun xs H Q => ∃ i, xs = [.int i] ∧ i.natAbs.log2 < 1920 ∧ Q (.str (toString i)) H
theorem stri_ok (h : p_stri [d1] = .ok d) (a : DA K F H x d1) (s : Same F H) (q : Qz K F H d Q) : rStrI [x] H Q := by
  unfold p_stri at h
  split at h <;> try cases h
  all_goals rename_i hd; cases hd
  split at h
  · rename_i hz
    cases h
    have e1 := a.int
    subst e1
    exact ⟨_, rfl, hz, q.now s (.str _)⟩
  · cases h
def rListV (K : PySem.W.Frag) : RR := fun xs H Q => ∃ p ys, xs = [.ref p] ∧ (SqL K H p ys ∨ SqT K H p ys) ∧ ∀ l, H l = none → Q (.ref l) (upd H l (.lst ys))
theorem list_okF (h : p_list [d1] = .ok (.lst ds)) (a : DA K F H x d1) (s : Same F H) (q : Qf K F H ds Q) : rListV K [x] H Q := by
  unfold p_list at h
  split at h <;> try cases h
  all_goals rename_i hd; cases hd
  · obtain ⟨p, us, rfl, h1, a1⟩ := a.tup s
    exact ⟨p, us, rfl, .inr h1, q.lst s a1⟩
  · obtain ⟨p, us, rfl, h1, a1⟩ := a.lst s
    exact ⟨p, us, rfl, .inl (SqL.of h1), q.lst s a1⟩
def rTupV (K : PySem.W.Frag) : RR := fun xs H Q => ∃ p ys, xs = [.ref p] ∧ ((SqL K H p ys ∧ ∀ l, H l = none → Q (.ref l) (upd H l (.tup ys))) ∨ (SqT K H p ys ∧ Q (.ref p) H))
theorem tuple_ok (h : p_tuple [d1] = .ok d) (a : DA K F H x d1) (s : Same F H) (q : Qz K F H d Q) : rTupV K [x] H Q := by
  unfold p_tuple at h
  split at h <;> try cases h
  all_goals rename_i hd; cases hd
  · obtain ⟨p, us, rfl, h1, a1⟩ := a.lst s
    exact ⟨p, us, rfl, .inl ⟨SqL.of h1, q.tup s a1⟩⟩
  · rename_i l
    have a' : Dn K F x (.tup l) := by
      rcases a with b | ⟨_, _, _, _, z, _⟩
      · exact b
      · cases z
    obtain ⟨p, us, rfl, h1, a1⟩ := a.tup s
    exact ⟨p, us, rfl, .inr ⟨h1, q.now s a'⟩⟩
theorem maxI_ge : ∀ (ns : List Int) (y : Int), y ∈ ns → y ≤ maxI ns
  | [a], y, h => by rw [List.mem_singleton.mp h]; exact Int.le_refl _
  | a :: b :: l, y, h => by
    show y ≤ max a (maxI (b :: l))
    rcases List.mem_cons.mp h with e | e
    · rw [e]; exact Int.le_max_left _ _
    · exact Int.le_trans (maxI_ge (b :: l) y e) (Int.le_max_right _ _)
theorem maxI_mem : ∀ (ns : List Int), ns ≠ [] → maxI ns ∈ ns
  | [], h => absurd rfl h
  | [a], _ => List.mem_cons_self
  | a :: b :: l, _ => by
    show max a (maxI (b :: l)) ∈ _
    rcases Int.le_total (maxI (b :: l)) a with c | c
    · rw [Int.max_eq_left c]; exact List.mem_cons_self
    · rw [Int.max_eq_right c]; exact List.mem_cons_of_mem _ (maxI_mem (b :: l) (fun z => nomatch z))
theorem max1_ok (h : p_max1 [d1] = .ok d) (a : DA K F H x d1) (s : Same F H) (q : Qz K F H d Q) : rMax K [x] H Q := by
  unfold p_max1 at h
  split at h <;> try cases h
  all_goals rename_i hd; cases hd
  obtain ⟨p, us, rfl, h1, a1⟩ := a.lst s
  split at h
  · rename_i ns e
    split at h
    · cases h
    · rename_i ne
      cases h
      have e2 := intsD_dn e a1
      subst e2
      refine ⟨p, ns, rfl, SqL.of h1, List.length_pos_iff.mpr ne, fun m hm hall => ?_⟩
      have : m = maxI ns := Int.le_antisymm (maxI_ge ns m hm) (hall _ (maxI_mem ns ne))
      rw [this]
      exact q.now s (.int _)
  · cases h
theorem sum_ok (h : p_sum [d1] = .ok d) (a : DA K F H x d1) (s : Same F H) (q : Qz K F H d Q) : rSum K [x] H Q := by
  unfold p_sum at h
  split at h <;> try cases h
  all_goals rename_i hd; cases hd
  obtain ⟨p, us, rfl, h1, a1⟩ := a.lst s
  split at h
  · rename_i ns e
    cases h
    have e2 := intsD_dn e a1
    subst e2
    exact ⟨p, ns, rfl, SqL.of h1, q.now s (.int _)⟩
  · cases h
theorem all_ok (h : p_all [d1] = .ok d) (a : DA K F H x d1) (s : Same F H) (q : Qz K F H d Q) : rAll K [x] H Q := by
  unfold p_all at h
  split at h <;> try cases h
  all_goals rename_i hd; cases hd
  obtain ⟨p, us, rfl, h1, a1⟩ := a.lst s
  split at h
  · rename_i ns e
    cases h
    have e2 := boolsD_dn e a1
    subst e2
    exact ⟨p, ns, rfl, SqL.of h1, q.now s (.bl _)⟩
  · cases h
theorem any_ok (h : p_any [d1] = .ok d) (a : DA K F H x d1) (s : Same F H) (q : Qz K F H d Q) : rAny K [x] H Q := by
  unfold p_any at h
  split at h <;> try cases h
  all_goals rename_i hd; cases hd
  obtain ⟨p, us, rfl, h1, a1⟩ := a.lst s
  split at h
  · rename_i ns e
    cases h
    have e2 := boolsD_dn e a1
    subst e2
    exact ⟨p, ns, rfl, SqL.of h1, q.now s (.bl _)⟩
  · cases h
def rReprV (K : PySem.W.Frag) : RR := fun xs H Q => ∃ x d, xs = [x] ∧ Dn K H x d ∧ d.okShow = true ∧ Q (.str d.py.shown) H
theorem repr_ok (h : p_repr [d1] = .ok d) (a : DA K F H x d1) (s : Same F H) (q : Qz K F H d Q) : rReprV K [x] H Q := by
  have h : (if d1.okShow = true then R.ok (D.str d1.py.shown) else R.bad) = R.ok d := h
  split at h
  · rename_i hz
    cases h
    exact ⟨_, _, rfl, a.dn s, hz, q.now s (.str _)⟩
  · cases h
def rIsX (K : PySem.W.Frag) : RR := fun xs H Q => rIsZ K xs H Q ∨ rIsZT K xs H Q
theorem call_isX {X : Cx} : CallR X (.builtin "isinstance") (rIsX X.K) := fun pins s σ H xs us Q I r h => h.elim (fun h => call_isZ pins s σ H xs us Q I r h) (fun h => call_isZT pins s σ H xs us Q I r h)
theorem excLook_ok {K : PySem.W.Frag} {c x : Str} {b : Bool} : ∀ {l : List D}, l.all (pairB K c) = true → excLook x l = some b → PySem.W.kitOne K (.ref (He.ga K c)) (.ref (He.ga K x)) = some b ∧ PySem.W.exmOne K (.ref (He.ga K c)) (.ref (He.ga K x)) = some b
  | [], _, h => by cases h
  | d :: l, ha, h => by
    obtain ⟨h1, h2⟩ := (Bool.and_eq_true _ _).mp (show (pairB K c d && l.all (pairB K c)) = true from ha)
    unfold excLook at h
    split at h
    · cases h
    · rename_i w
      cases w
      obtain ⟨q1, q2⟩ := (Bool.and_eq_true _ _).mp h1
      split at h
      · rename_i e
        subst e
        cases h
        exact ⟨of_decide_eq_true q1, of_decide_eq_true q2⟩
      · exact excLook_ok h2 h
    · rename_i w
      cases w
      exact excLook_ok h2 h
theorem xok_all {K : PySem.W.Frag} {c : Str} {l : List D} (h : xokB K c l = true) : ExcC K (He.ga K c) ∧ PySem.W.kitOne K (.ref (He.ga K c)) (.type "ValueError") = some true ∧ l.all (pairB K c) = true := by
  obtain ⟨h1, h2⟩ := (Bool.and_eq_true _ _).mp h
  obtain ⟨h3, h4⟩ := (Bool.and_eq_true _ _).mp h1
  exact ⟨excC_ok h3, of_decide_eq_true h4, h2⟩
theorem clsAll {K : PySem.W.Frag} {F : Hp} : ∀ {cs : List D} {us : List V}, cs.all isCls = true → DnA K F us cs → ∃ ws : List Value, Paired ClsV us ws
  | [], _, _, .nil => ⟨[], .nil⟩
  | d :: cs, _, h, .cons a t => by
    obtain ⟨h1, h2⟩ := (Bool.and_eq_true _ _).mp (show (isCls d && cs.all isCls) = true from h)
    cases d <;> first | cases h1 | skip
    cases a
    obtain ⟨ws, pw⟩ := clsAll h2 t
    exact ⟨_, .cons (.own _) pw⟩
theorem excAny_ok {K : PySem.W.Frag} {F : Hp} {c : Str} {b : Bool} {l : List D} (hl : l.all (pairB K c) = true) : ∀ {cs : List D} {us : List V}, excAny l cs = some b → DnA K F us cs → ∃ ws : List Value, Paired ClsV us ws ∧ PySem.W.kitAny K (.ref (He.ga K c)) ws = some b
  | [], _, h, .nil => by cases h; exact ⟨[], .nil, rfl⟩
  | d :: cs, _, h, .cons a t => by
    cases d <;> first | cases h | skip
    rename_i x
    cases a
    have h : (match excLook x l with
    | some true => if cs.all isCls then some true else none
    | some false => excAny l cs
    | none => none) = some b := h
    cases e : excLook x l with
    | none => rw [e] at h; cases h
    | some v =>
      rw [e] at h
      have k1 := (excLook_ok hl e).1
      cases v with
      | true =>
        have h : (if cs.all isCls then some true else none) = some b := h
        cases hc : cs.all isCls with
        | false => rw [hc] at h; cases h
        | true =>
        rw [hc] at h
        cases h
        obtain ⟨ws, pw⟩ := clsAll hc t
        exact ⟨_, .cons (.own _) pw, kitAny_cons k1 (fun z => nomatch z) fun _ => rfl⟩
      | false =>
        obtain ⟨ws, pw, kw⟩ := excAny_ok hl h t
        exact ⟨_, .cons (.own _) pw, kitAny_cons k1 (fun _ => kw) fun z => nomatch z⟩
theorem isx_ok (h : p_isx [d1, d2] = .ok d) (a : DA K F H x d1) (b : DA K F H y d2) (s : Same F H) (q : Qz K F H d Q) : rIsX K [x, y] H Q := by
  unfold p_isx at h
  split at h
  · rename_i c l z w
    cases w
    split at h
    · rename_i v e
      cases h
      have a := a.dn s
      have b := b.dn s
      cases a with
      | exc h1 h2 =>
        cases b
        obtain ⟨k1, k2, k3⟩ := xok_all h2
        exact .inl ⟨_, _, _, _, _, rfl, h1, k1, .own _, (excLook_ok k3 e).1, q.now s (.bl _)⟩
    · cases h
  · rename_i c l cs w
    cases w
    split at h
    · rename_i v e
      cases h
      have a := a.dn s
      obtain ⟨p, us, rfl, h3, h4⟩ := b.tup s
      cases a with
      | exc h1 h2 =>
        obtain ⟨k1, k2, k3⟩ := xok_all h2
        obtain ⟨ws, pw, kw⟩ := excAny_ok k3 e h4
        exact .inr ⟨_, _, _, _, _, _, rfl, h1, k1, h3, pw, kw, q.now s (.bl _)⟩
    · cases h
  · cases h
theorem isv_ok (h : p_isv [d1] = .ok d) (a : DA K F H x d1) (s : Same F H) (q : Qz K F H d Q) : rIsZ K [x, .ty "ValueError"] H Q := by
  unfold p_isv at h
  split at h
  · rename_i c l w
    cases w
    cases h
    have a := a.dn s
    cases a with
    | exc h1 h2 =>
      obtain ⟨k1, k2, k3⟩ := xok_all h2
      exact ⟨_, _, _, _, _, rfl, h1, k1, .ty _, k2, q.now s (.bl _)⟩
  · cases h
theorem call_reprV {X : Cx} {k : Nat} (hg : X.A.guards = some []) (hr : Room k X.A) : CallR X (.builtin "repr") (rReprV X.K) := by
  intro pins s σ H xs us Q I r h
  obtain ⟨x, d, rfl, dn, hz, q⟩ := h
  obtain ⟨u, rfl, ru⟩ := vals1 r
  have h3 := (Bool.and_eq_true _ _).mp hz
  have h2 := (Bool.and_eq_true _ _).mp h3.1
  have h1 := (Bool.and_eq_true _ _).mp h2.1
  have pl := h1.1
  have dep : d.py.depth ≤ 64 := of_decide_eq_true h1.2
  have len : d.py.shown.length ≤ sizeLine := of_decide_eq_true h3.2
  have show_ := h2.2
  have un : X.A.units + 66 < cLine := by have := hr.un; omega
  cases dn with
  | exc _ _ => cases pl
  | cls => cases pl
  | non =>
    obtain rfl : u = Value.none := ru
    exact PySem.P.repr_of_none ⟨.str _, H, I.tok _, ⟨_, rfl⟩, q⟩
  | bl b =>
    obtain rfl : u = Value.bool b := ru
    exact PySem.P.repr_of_bool ⟨.str _, H, I.tok _, ⟨_, rfl⟩, q⟩
  | int i =>
    obtain ⟨t, rfl⟩ := ru
    exact PySem.P.repr_of_int (of_decide_eq_true show_) ⟨.str _, H, I.tok _, ⟨_, rfl⟩, q⟩
  | str y =>
    obtain ⟨t, rfl⟩ := ru
    exact PySem.P.repr_of_str ⟨.str _, H, I.tok _, ⟨_, rfl⟩, q⟩ len
  | lst e1 e2 =>
    rename_i a vs ds
    obtain rfl : u = Value.ref a := ru
    obtain ⟨as, rd⟩ := Dp.reads I _ _ _ (Dn.dp (.lst ds) _ pl (.lst e1 e2)) rfl
    have nd : (D.py (.lst ds)).hasDict = false := PyData.hasDict_of_canLay _ (plain_lay _ pl)
    refine repr_of_reads' rd show_ (fun z => by rw [nd] at z; cases z) hg (by omega) (fun _ _ z => z) (fun h' t tk hk => ⟨.str _, H, I.kept hk, ⟨_, rfl⟩, q⟩) len
  | tup e1 e2 =>
    rename_i a vs ds
    obtain rfl : u = Value.ref a := ru
    obtain ⟨as, rd⟩ := Dp.reads I _ _ _ (Dn.dp (.tup ds) _ pl (.tup e1 e2)) rfl
    have nd : (D.py (.tup ds)).hasDict = false := PyData.hasDict_of_canLay _ (plain_lay _ pl)
    refine repr_of_reads' rd show_ (fun z => by rw [nd] at z; cases z) hg (by omega) (fun _ _ z => z) (fun h' t tk hk => ⟨.str _, H, I.kept hk, ⟨_, rfl⟩, q⟩) len
  | scr _ => cases pl
theorem ltPr_iff {a b : Int × Int} : ltPr a b = true ↔ a.1 < b.1 ∨ (a.1 = b.1 ∧ a.2 < b.2) := by
  unfold ltPr
  rw [Bool.or_eq_true, Bool.and_eq_true, decide_eq_true_iff, decide_eq_true_iff, decide_eq_true_iff]
abbrev leP (x y : Int × Int) : Prop := SrtO.lexB y x = false
theorem insP_perm (a : Int × Int) : ∀ l, (insP a l).Perm (a :: l)
  | [] => List.Perm.refl _
  | b :: l => by
    unfold insP
    split
    · exact ((insP_perm a l).cons b).trans (List.Perm.swap a b l)
    · exact List.Perm.refl _
theorem sortP_perm : ∀ l, (sortP l).Perm l
  | [] => List.Perm.refl _
  | a :: l => (insP_perm a (sortP l)).trans ((sortP_perm l).cons a)
theorem insP_srt (a : Int × Int) : ∀ l : List (Int × Int), l.Pairwise leP → (insP a l).Pairwise leP
  | [], _ => List.pairwise_singleton _ _
  | b :: l, h => by
    obtain ⟨h1, h2⟩ := List.pairwise_cons.mp h
    unfold insP
    split
    · rename_i c
      have c := ltPr_iff.mp c
      refine List.pairwise_cons.mpr ⟨fun x hx => ?_, insP_srt a l h2⟩
      rcases List.mem_cons.mp ((insP_perm a l).subset hx) with e | e
      · rw [e]; exact SrtO.lexB_no.mpr (by omega)
      · exact h1 x e
    · rename_i c
      have c : ¬ (b.1 < a.1 ∨ (b.1 = a.1 ∧ b.2 < a.2)) := fun z => c (ltPr_iff.mpr z)
      refine List.pairwise_cons.mpr ⟨fun x hx => ?_, h⟩
      rcases List.mem_cons.mp hx with e | e
      · rw [e]; exact SrtO.lexB_no.mpr c
      · have := SrtO.lexB_no.mp (h1 x e)
        exact SrtO.lexB_no.mpr (by omega)
theorem sortP_srt : ∀ l : List (Int × Int), (sortP l).Pairwise leP
  | [] => List.Pairwise.nil
  | a :: l => insP_srt a _ (sortP_srt l)
theorem sorted_uniq {l m : List (Int × Int)} (h1 : l.Pairwise leP) (h2 : m.Pairwise leP) (p : l.Perm m) : l = m :=
  List.Perm.eq_of_pairwise (le := leP) (fun a b _ _ x y => by
    have x := SrtO.lexB_no.mp x
    have y := SrtO.lexB_no.mp y
    exact Prod.ext (by omega) (by omega)) h1 h2 p
def kPair (h : Heap) : Value → Int × Int
  | .ref t => (match h.get? t with
    | some o => (match o.data with
      | .seq its _ => (match its.toList with
        | [.int i _, .int j _] => (i, j)
        | _ => (0, 0))
      | _ => (0, 0))
    | none => (0, 0))
  | _ => (0, 0)
abbrev IP := @Srt.IsPair
def rSortedD (K : PySem.W.Frag) : RR := fun vs H Q => ∃ F a xs l ps, Same F H ∧ vs = [.ref a] ∧ H a = some (.lst xs) ∧ DnA K F xs l ∧ pairsD l = some ps ∧ ∀ p ys, H p = none → DnA K F ys ((sortP ps).map pairT) → Q (.ref p) (upd H p (.lst ys))
theorem sorted_ok (h : p_sorted [d1] = .ok (.lst ds)) (a : DA K F H x d1) (s : Same F H) (q : Qf K F H ds Q) : rSortedD K [x] H Q := by
  unfold p_sorted at h
  split at h <;> try cases h
  all_goals rename_i hd; cases hd
  split at h
  · rename_i ps e
    cases h
    obtain ⟨p, us, rfl, h1, a1⟩ := a.lst s
    exact ⟨F, p, us, _, ps, s, rfl, h1, a1, e, fun p ys hp dn => q.lst s dn p hp⟩
  · cases h
theorem pairsD_cons {d : D} {l : List D} {ps : List (Int × Int)} (h : pairsD (d :: l) = some ps) : ∃ i j qs, d = .tup [.int i, .int j] ∧ pairsD l = some qs ∧ ps = (i, j) :: qs := by
  unfold pairsD at h
  split at h
  · rename_i e; cases e
  · rename_i i j l' e
    cases e
    cases e2 : pairsD l with
    | none => rw [e2] at h; cases h
    | some qs =>
      rw [e2] at h
      cases h
      exact ⟨i, j, qs, rfl, rfl, rfl⟩
  · cases h
theorem pair_key {X : Cx} {pins : List (Addr × Obj)} {σ : St} {F H : Hp} {s : Shared} {x : V} {u : Value} {i j : Int} (I : L2.Inv X pins σ H s) (sm : Same F H) (dn : Dn X.K F x (.tup [.int i, .int j])) (r : RelV x u) : ∃ t, u = .ref t ∧ kPair s.heap u = (i, j) ∧ IP s.heap u i j ∧ Dn X.K F (.ref t) (pairT (i, j)) := by
  have dn0 := dn
  cases dn with
  | @tup a us ds h1 h2 =>
    obtain rfl : u = Value.ref a := r
    cases h2 with
    | cons a1 a2 =>
      cases a2 with
      | cons a3 a4 =>
        cases a4
        cases a1
        cases a3
        obtain ⟨its, rv, ht, hz⟩ := I.tuple (sqT_sub sm h1)
        obtain ⟨v1, v2, rfl, r1, r2⟩ := vals2 rv
        obtain ⟨t1, rfl⟩ := r1
        obtain ⟨t2, rfl⟩ := r2
        obtain ⟨o, ho, hc, n, hd⟩ := ht
        refine ⟨a, rfl, ?_, ⟨a, o, t1, t2, n, rfl, ho, hc, hd⟩, dn0⟩
        unfold kPair
        simp only [ho, hd]
theorem pairs_key {X : Cx} {pins : List (Addr × Obj)} {σ : St} {F H : Hp} {s : Shared} (I : L2.Inv X pins σ H s) (sm : Same F H) : ∀ {xs : List V} {us : List Value} {l : List D} {ps : List (Int × Int)}, DnA X.K F xs l → Vals xs us → pairsD l = some ps →
    us.map (kPair s.heap) = ps ∧ ∀ u ∈ us, ∃ t, u = .ref t ∧ IP s.heap u (kPair s.heap u).1 (kPair s.heap u).2 ∧ Dn X.K F (.ref t) (pairT (kPair s.heap u))
  | [], _, _, _, dn, .nil, h => by
    cases dn
    cases h
    exact ⟨rfl, fun u hu => absurd hu List.not_mem_nil⟩
  | x :: xs, _ :: us, _, ps, dn, .cons r t, h => by
    cases dn with
    | cons d1 d2 =>
      obtain ⟨i, j, qs, rfl, e, rfl⟩ := pairsD_cons h
      obtain ⟨t1, rfl, k1, k2, k3⟩ := pair_key I sm d1 r
      obtain ⟨m1, m2⟩ := pairs_key I sm d2 t e
      refine ⟨by rw [List.map_cons, k1, m1], fun u hu => ?_⟩
      rcases List.mem_cons.mp hu with rfl | hu
      · exact ⟨t1, rfl, by rw [k1]; exact k2, by rw [k1]; exact k3⟩
      · exact m2 u hu
theorem dn_backs {K : PySem.W.Frag} {H : Hp} {k : Value → Int × Int} : ∀ {us : List Value}, (∀ u ∈ us, ∃ t, u = .ref t ∧ Dn K H (.ref t) (pairT (k u))) → DnA K H (us.map backV) ((us.map k).map pairT)
  | [], _ => .nil
  | u :: us, h => by
    obtain ⟨t, rfl, d⟩ := h u List.mem_cons_self
    exact .cons d (dn_backs fun v hv => h v (List.mem_cons_of_mem _ hv))
theorem call_sortedV {X : Cx} : CallR X (.builtin "sorted") (rSortedD X.K) := by
  intro pins s σ H vs us Q I r h
  obtain ⟨F, a, xs, l, ps, sm, rfl, hs, dn, hp, q⟩ := h
  obtain ⟨its, rv, hl, hz⟩ := I.list (SqL.of hs)
  obtain ⟨u, rfl, ru⟩ := vals1 r
  obtain rfl : u = Value.ref a := ru
  obtain ⟨k1, k2⟩ := pairs_key I sm dn rv hp
  refine SrtO.sorted_pairsO (k := kPair s.heap) hl.isList (by rw [← rv.length]; exact hz) (fun v hv => ?_) fun h' d out h1 h2 kp hd hn => ?_
  · obtain ⟨t, _, e, _⟩ := k2 v hv
    exact e
  · have h3 : ∀ u ∈ out, ∃ t, u = Value.ref t ∧ Dn X.K F (.ref t) (pairT (kPair s.heap u)) := fun u hu => by
      obtain ⟨t, e, _, e2⟩ := k2 u (h2.perm.mem_iff.mp hu)
      exact ⟨t, e, e2⟩
    have h4 : ∀ u ∈ out, ∃ a, u = Value.ref a := fun u hu => by
      obtain ⟨t, e, _⟩ := h3 u hu
      exact ⟨t, e⟩
    obtain ⟨n, hn⟩ := hn
    have so : out.map (kPair s.heap) = sortP ps := by
      refine sorted_uniq ?_ (sortP_srt ps) ?_
      · exact List.pairwise_map.mpr h1
      · exact (h2.perm.map (kPair s.heap)).trans (by rw [k1]; exact (sortP_perm ps).symm)
    have db : DnA X.K F (out.map backV) ((sortP ps).map pairT) := by
      rw [← so]
      exact dn_backs h3
    refine ⟨.ref d, upd H d (.lst (out.map backV)), I.laid (t' := s.toks) kp hd ⟨?_, out, n, vals_back h4, hn⟩, rfl, q d _ (I.hok.fresh hd) db⟩
    rw [List.length_map, h2.perm.length_eq, ← rv.length]
    exact hz
theorem isa_kit {t : Ty} {d : D} {b : Bool} (h : isa t d = some b) : (∃ n, (d = .non ∧ n = "NoneType" ∨ (∃ z, d = .bl z) ∧ n = "bool" ∨ (∃ z, d = .int z) ∧ n = "int" ∨ (∃ z, d = .str z) ∧ n = "str" ∨ (∃ z, d = .tup z) ∧ n = "tuple" ∨ (∃ z, d = .lst z) ∧ n = "list") ∧ kitB n t.name = some b) := by
  cases d with
  | non => exact ⟨"NoneType", .inl ⟨rfl, rfl⟩, by cases t <;> cases h <;> decide +kernel⟩
  | bl z => exact ⟨"bool", .inr (.inl ⟨⟨z, rfl⟩, rfl⟩), by cases t <;> cases h <;> decide +kernel⟩
  | int z => exact ⟨"int", .inr (.inr (.inl ⟨⟨z, rfl⟩, rfl⟩)), by cases t <;> cases h <;> decide +kernel⟩
  | str z => exact ⟨"str", .inr (.inr (.inr (.inl ⟨⟨z, rfl⟩, rfl⟩))), by cases t <;> cases h <;> decide +kernel⟩
  | tup z => exact ⟨"tuple", .inr (.inr (.inr (.inr (.inl ⟨⟨z, rfl⟩, rfl⟩)))), by cases t <;> cases h <;> decide +kernel⟩
  | lst z => exact ⟨"list", .inr (.inr (.inr (.inr (.inr ⟨⟨z, rfl⟩, rfl⟩)))), by cases t <;> cases h <;> decide +kernel⟩
  | dic z => cases t <;> cases h
  | exc _ _ => cases t <;> cases h
  | scr _ => cases t <;> cases h
  | cls _ => cases t <;> cases h
theorem isi_ok {t : Ty} (h : p_isi t [d1] = .ok d) (a : DA K F H x d1) (s : Same F H) (q : Qz K F H d Q) : rIsi K [x, .ty t.name] H Q := by
  have h : (match isa t d1 with
    | some b => R.ok (D.bl b)
    | none => R.bad) = R.ok d := h
  split at h
  · rename_i b e
    cases h
    obtain ⟨n, c, k⟩ := isa_kit e
    have dn := a.dn s
    refine ⟨x, .ty t.name, .type n, .type t.name, b, rfl, .ty _, ?_, kit_ty k, q.now s (.bl _)⟩
    rcases c with ⟨rfl, rfl⟩ | ⟨⟨z, rfl⟩, rfl⟩ | ⟨⟨z, rfl⟩, rfl⟩ | ⟨⟨z, rfl⟩, rfl⟩ | ⟨⟨z, rfl⟩, rfl⟩ | ⟨⟨z, rfl⟩, rfl⟩
    · cases dn; exact .base .non
    · cases dn; exact .base (.bl _)
    · cases dn; exact .base (.int _)
    · cases dn; exact .base (.str _)
    · cases dn with
      | tup e1 e2 =>
        rcases e1 with (e1 | ⟨o, e1⟩) | ⟨o, its, n, e1, e3, _⟩
        · exact .base (.tup e1)
        · exact .fTuple e1
        · exact .kTuple e1 e3
    · cases dn with
      | lst e1 e2 => exact .base (.lst e1)
  · cases h
end
end Vm
end
section
set_option Elab.async false
set_option linter.all false
set_option maxRecDepth 100000
namespace Vm
open PySem PySem.Spec L2
structure Bk (B : Bs) (F H : Hp) : Prop where
  sub : Same F H
  bsub : Same B.F F
  bnew : ∀ a, B.F a = none → B.H a ≠ none → F a = none
  bkeep : ∀ a o, B.H a = some o → ¬ B.P a → H a = some o
  bdom : ∀ a, B.H a ≠ none → H a ≠ none
abbrev XI := Str → List D → Value → Option Addr → Hp → Hp → Prop
structure Cg where
  T : Tab
  K : PySem.W.Frag
  B : Bs
  W : WX
  xi : XI
section
variable {C : Cg} {X : Cx} {n : Nat} {σ : St} {F H F' H' F1 H1 F2 H2 : Hp} {en en' en1 en2 : En} {Q : VK} {d : D} {v : V}
def Wish (C : Cg) (σ : St) (F : Hp) (c : Str) (l : List D) : Prop := ∀ cls dx F' H', Same F F' → Bk C.B F' H' → C.xi c l cls dx F' H' → C.W cls dx σ H'
def Nxt (C : Cg) (σ : St) (F H : Hp) (en en' : En) (d : D) (Q : VK) : Prop := ∀ v F' H', Go σ F H en F' H' en' → Ok C.B C.K F' H' σ en' → Dn C.K F' v d → Q v H'
def NxtF (C : Cg) (σ : St) (F H : Hp) (en en' : En) (ds : List D) (Q : VK) : Prop := ∀ p us F' H', Go σ F H en F' H' en' → Ok C.B C.K F' H' σ en' → H p = none → F' p = none → H' p = some (.lst us) → DnA C.K F' us ds → (∀ (i : Nat) (l : List D), en'[i]? = some (Slot.own l) → σ[i]? ≠ some (some (V.ref p))) → Q (.ref p) H'
def Res (C : Cg) (σ : St) (F H : Hp) (en : En) (r : R (D × En)) (Q : VK) : Prop := match r with
  | .ok p => Nxt C σ F H en p.2 p.1 Q
  | .ex c l => Wish C σ F c l
  | .bad => False
def ResF (C : Cg) (σ : St) (F H : Hp) (en : En) (r : R (D × En)) (Q : VK) : Prop := match r with
  | .ok p => ∃ ds, p.1 = .lst ds ∧ NxtF C σ F H en p.2 ds Q
  | .ex c l => Wish C σ F c l
  | .bad => False
def tE (C : Cg) (n : Nat) (e : E) : TE := fun σ H Q => ∃ F en, Ok C.B C.K F H σ en ∧ Res C σ F H en (evE C.T n e en) Q
def tF (C : Cg) (n : Nat) (e : E) : TE := fun σ H Q => ∃ F en, Ok C.B C.K F H σ en ∧ ResF C σ F H en (evE C.T n e en) Q
def ResT (C : Cg) (σ : St) (F H : Hp) (en : En) (r : R (D × En)) (Q : Bool → Hp → Prop) : Prop := match r with
  | .ok p => ∃ b, p.1 = .bl b ∧ ∀ F' H', Go σ F H en F' H' p.2 → Ok C.B C.K F' H' σ p.2 → Q b H'
  | .ex c l => Wish C σ F c l
  | .bad => False
def tT (C : Cg) (n : Nat) (e : E) : TT := fun σ H Q => ∃ F en, Ok C.B C.K F H σ en ∧ ResT C σ F H en (evE C.T n e en) Q
def tO (C : Cg) (n : Nat) : E → TE
  | .bw i => tVar i
  | .io i => tVar i
  | e => tE C n e
def tA (C : Cg) (n : Nat) : List E → TA
  | [] => tNil
  | e :: es => tCons (tO C n e) (tA C n es)
theorem Ok.bk {B : Bs} {K : PySem.W.Frag} (k : Ok B K F H σ en) : Bk B F H := ⟨k.sub, k.bsub, k.bnew, k.bkeep, k.bdom⟩
theorem PE.imp {a : Expr} {t t' : TE} (h : PE X a t) (i : ∀ σ H Q, t' σ H Q → t σ H Q) : PE X a t' := ⟨fun pins s σ H Q I q => h.run pins s σ H Q I (i σ H Q q)⟩
theorem PT.imp {a : Expr} {t t' : TT} (h : PT X a t) (i : ∀ σ H Q, t' σ H Q → t σ H Q) : PT X a t' := ⟨fun pins s σ H Q I q => h.run pins s σ H Q I (i σ H Q q)⟩
theorem Wish.mono {c : Str} {l : List D} (w : Wish C σ F c l) (s : Same F F1) : Wish C σ F1 c l := fun cls dx F' H' a b c' => w cls dx F' H' (s.trans a) b c'
theorem Nxt.z (q : Nxt C σ F H en en1 d Q) (g : Go σ F H en F1 H1 en1) (k : Ok C.B C.K F1 H1 σ en1) : Qz C.K F1 H1 d Q := fun v F' H' p a => q v F' H' (g.trans p.go) (k.px p) a
theorem NxtF.z {ds : List D} (q : NxtF C σ F H en en1 ds Q) (g : Go σ F H en F1 H1 en1) (k : Ok C.B C.K F1 H1 σ en1) : Qf C.K F1 H1 ds Q := by
  intro p us F' H' px h f e a
  refine q p us F' H' (g.trans px.go) (k.px px) ?_ f e a fun i l ho hs => ?_
  · cases z : H p with
    | none => rfl
    | some o => exact absurd h (g.dom p (some_ne z))
  · obtain ⟨p', us', e1, e2, _⟩ := k.own i l ho
    rw [hs] at e1
    cases e1
    rw [h] at e2
    cases e2
def ResA (C : Cg) (σ : St) (F H : Hp) (en : En) (r : R (List AV × En)) (Q : List V → Hp → Prop) : Prop := match r with
  | .ok p => ∀ vs F' H', Go σ F H en F' H' p.2 → Ok C.B C.K F' H' σ p.2 → AvA C.K F' σ p.1 vs → Q vs H'
  | .ex c l => Wish C σ F c l
  | .bad => False
theorem AvA.up {K : PySem.W.Frag} (s : Same F F') : ∀ {as : List AV} {vs : List V}, AvA K F σ as vs → AvA K F' σ as vs
  | _, _, .nil => .nil
  | _, _, .d h t => .d (h.up s) (AvA.up s t)
  | _, _, .b h t => .b h (AvA.up s t)
  | _, _, .o h t => .o h (AvA.up s t)
theorem args_run : ∀ (l : List E) {F H : Hp} {en : En} {Q : List V → Hp → Prop}, Ok C.B C.K F H σ en → ResA C σ F H en (evArgs (evE C.T n) l en) Q → tA C n l σ H Q
  | [], F, H, en, Q, k, h => h [] F H Go.refl k .nil
  | e :: es, F, H, en, Q, k, h => by
    have gen : ∀ f : E, (tO C n f = tE C n f) → (evArgs (evE C.T n) (f :: es) en = (evE C.T n f en).bind fun p => (evArgs (evE C.T n) es p.2).bind fun q => .ok (.d p.1 :: q.1, q.2)) → ResA C σ F H en (evArgs (evE C.T n) (f :: es) en) Q →
        tO C n f σ H fun x H1 => tA C n es σ H1 fun xs H2 => Q (x :: xs) H2 := by
      intro f e1 e2 h
      rw [e1]
      rw [e2] at h
      refine ⟨F, en, k, ?_⟩
      cases r : evE C.T n f en with
      | bad => rw [r] at h; exact h
      | ex c l => rw [r] at h; exact h
      | ok p =>
        rw [r] at h
        intro v F1 H1 g1 k1 a1
        refine args_run es k1 ?_
        show ResA C σ F1 H1 p.2 (evArgs (evE C.T n) es p.2) _
        have h : ResA C σ F H en ((evArgs (evE C.T n) es p.2).bind fun q => .ok (.d p.1 :: q.1, q.2)) Q := h
        cases r2 : evArgs (evE C.T n) es p.2 with
        | bad => rw [r2] at h; exact h
        | ex c l => rw [r2] at h; exact Wish.mono h g1.sub
        | ok q =>
          rw [r2] at h
          intro vs F2 H2 g2 k2 a2
          exact h (v :: vs) F2 H2 (g1.trans g2) k2 (.d (a1.up g2.sub) a2)
    have own : ∀ i : Nat, ∀ mk : Nat → AV, (∀ {K : PySem.W.Frag} {F : Hp} {as : List AV} {v : V} {vs : List V}, σ[i]? = some (some v) → AvA K F σ as vs → AvA K F σ (mk i :: as) (v :: vs)) →
        ResA C σ F H en (if (ownAt en i).isSome then (evArgs (evE C.T n) es en).bind fun q => .ok (mk i :: q.1, q.2) else .bad) Q → tVar i σ H fun x H1 => tA C n es σ H1 fun xs H2 => Q (x :: xs) H2 := by
      intro i mk hm h
      cases o : ownAt en i with
      | none => rw [o] at h; exact h.elim
      | some l =>
        rw [o] at h
        obtain ⟨p, us, e1, _⟩ := k.own i l (ownAt_some.mp o)
        refine ⟨.ref p, e1, args_run es k ?_⟩
        have h : ResA C σ F H en ((evArgs (evE C.T n) es en).bind fun q => .ok (mk i :: q.1, q.2)) Q := h
        cases r2 : evArgs (evE C.T n) es en with
        | bad => rw [r2] at h; exact h
        | ex c l => rw [r2] at h; exact h
        | ok q =>
          rw [r2] at h
          intro vs F2 H2 g2 k2 a2
          exact h (.ref p :: vs) F2 H2 g2 k2 (hm e1 a2)
    cases e with
    | bw i => exact own i .b (fun a b => .b a b) h
    | io i => exact own i .o (fun a b => .o a b) h
    | c _ => exact gen _ rfl rfl h
    | g _ => exact gen _ rfl rfl h
    | v _ => exact gen _ rfl rfl h
    | pr _ _ => exact gen _ rfl rfl h
    | and_ _ _ => exact gen _ rfl rfl h
    | or_ _ _ => exact gen _ rfl rfl h
    | ite _ _ _ => exact gen _ rfl rfl h
    | ch _ _ _ _ _ => exact gen _ rfl rfl h
    | call _ _ _ => exact gen _ rfl rfl h
    | lc _ _ _ _ _ _ => exact gen _ rfl rfl h
    | lcb _ _ _ _ _ => exact gen _ rfl rfl h
theorem prim_run {p : Pr} {l : List E} {R : List V → Hp → Prop} (k : Ok C.B C.K F H σ en) (h : Res C σ F H en (evE C.T (n + 1) (.pr p l) en) Q)
    (hr : ∀ vs ds d F1 H1, DAs C.K F1 H1 vs ds → prim p ds = .ok d → Same F1 H1 → Qz C.K F1 H1 d Q → R vs H1) (hx : ∀ ds c m, prim p ds ≠ .ex c m) : tA C n l σ H R := by
  refine args_run l k ?_
  have h : Res C σ F H en ((evArgs (evE C.T n) l en).bind fun q => match resolveD q.2 q.1 with
      | none => .bad
      | some ds => (prim p ds).bind fun d => .ok (d, q.2)) Q := h
  cases r : evArgs (evE C.T n) l en with
  | bad => rw [r] at h; exact h
  | ex c l => rw [r] at h; exact h
  | ok q =>
    rw [r] at h
    intro vs F1 H1 g1 k1 a1
    have h : Res C σ F H en (match resolveD q.2 q.1 with
      | none => .bad
      | some ds => (prim p ds).bind fun d => .ok (d, q.2)) Q := h
    cases e : resolveD q.2 q.1 with
    | none => rw [e] at h; exact h.elim
    | some ds =>
      rw [e] at h
      have h : Res C σ F H en ((prim p ds).bind fun d => .ok (d, q.2)) Q := h
      cases e2 : prim p ds with
      | bad => rw [e2] at h; exact h.elim
      | ex c m => exact absurd e2 (hx ds c m)
      | ok d =>
        rw [e2] at h
        exact hr vs ds d F1 H1 (a1.das k1 e) e2 k1.sub (Nxt.z h g1 k1)
theorem prim_runF {p : Pr} {l : List E} {R : List V → Hp → Prop} (k : Ok C.B C.K F H σ en) (h : ResF C σ F H en (evE C.T (n + 1) (.pr p l) en) Q)
    (hr : ∀ vs ds es F1 H1, DAs C.K F1 H1 vs ds → prim p ds = .ok (.lst es) → Same F1 H1 → Qf C.K F1 H1 es Q → R vs H1) (hx : ∀ ds c m, prim p ds ≠ .ex c m) : tA C n l σ H R := by
  refine args_run l k ?_
  have h : ResF C σ F H en ((evArgs (evE C.T n) l en).bind fun q => match resolveD q.2 q.1 with
      | none => .bad
      | some ds => (prim p ds).bind fun d => .ok (d, q.2)) Q := h
  cases r : evArgs (evE C.T n) l en with
  | bad => rw [r] at h; exact h
  | ex c l => rw [r] at h; exact h
  | ok q =>
    rw [r] at h
    intro vs F1 H1 g1 k1 a1
    have h : ResF C σ F H en (match resolveD q.2 q.1 with
      | none => .bad
      | some ds => (prim p ds).bind fun d => .ok (d, q.2)) Q := h
    cases e : resolveD q.2 q.1 with
    | none => rw [e] at h; exact h.elim
    | some ds =>
      rw [e] at h
      have h : ResF C σ F H en ((prim p ds).bind fun d => .ok (d, q.2)) Q := h
      cases e2 : prim p ds with
      | bad => rw [e2] at h; exact h.elim
      | ex c m => exact absurd e2 (hx ds c m)
      | ok d =>
        rw [e2] at h
        obtain ⟨es, e3, h⟩ := h
        have e3 : d = .lst es := e3
        subst e3
        exact hr vs ds es F1 H1 (a1.das k1 e) e2 k1.sub (NxtF.z h g1 k1)
theorem Ok.fz {B : Bs} {K : PySem.W.Frag} {q : Addr} {us : List V} (k0 : Ok B K F H σ en) (g : Go σ F H en F' H' en') (k : Ok B K F' H' σ en') (hp : H q = none) (f : F' q = none) (hq : H' q = some (.lst us))
    (no : ∀ (i : Nat) (l : List D), en'[i]? = some (Slot.own l) → σ[i]? ≠ some (some (V.ref q))) : Same F' (upd F' q (.lst us)) ∧ Ok B K (upd F' q (.lst us)) H' σ en' ∧ Go σ F H en (upd F' q (.lst us)) H' en' := by
  have sF : Same F' (upd F' q (.lst us)) := fun b u z => by rw [upd_ne (ne_of_none z f)]; exact z
  have bq : B.H q = none := by
    cases z : B.H q with
    | none => rfl
    | some o => exact absurd hp (k0.bdom q (some_ne z))
  refine ⟨sF, ⟨k.len, fun i d h => ?_, fun i l h => ?_, k.inj, fun b u z => ?_, k.bsub.trans sF, fun b z z' => ?_, k.bkeep, k.bdom, k.pin⟩, ⟨g.sub.trans sF, fun a z z' => ?_, g.keep, g.dom, g.vals, g.owns, g.len⟩⟩
  · obtain ⟨v, e1, e2⟩ := k.val i d h
    exact ⟨v, e1, e2.up sF⟩
  · obtain ⟨b, vs, e1, e2, e3, e4, e5⟩ := k.own i l h
    refine ⟨b, vs, e1, e2, e3.up sF, ?_, e5⟩
    rw [upd_ne (fun z => by subst z; exact no i l h e1)]
    exact e4
  · by_cases w : b = q
    · subst w; rw [upd_same] at z; cases z; exact hq
    · rw [upd_ne w] at z; exact k.sub _ _ z
  · rw [upd_ne (fun w => by subst w; exact z' bq)]
    exact k.bnew b z z'
  · rw [upd_ne (fun w => by subst w; exact z' hp)]
    exact g.new a z z'
theorem ResF.of {r : R (D × En)} (k0 : Ok C.B C.K F H σ en) (h : Res C σ F H en r Q) (hl : ∀ p, r = .ok p → ∃ ds, p.1 = .lst ds) : ResF C σ F H en r Q := by
  cases r with
  | bad => exact h
  | ex c l => exact h
  | ok p =>
    obtain ⟨ds, e⟩ := hl p rfl
    refine ⟨ds, e, ?_⟩
    intro q us F' H' g k hp f hq a no
    obtain ⟨sF, k2, g2⟩ := k0.fz g k hp f hq no
    have h : Nxt C σ F H en p.2 p.1 Q := h
    rw [e] at h
    exact h (.ref q) _ H' g2 k2 (.lst upd_same (a.up sF))
end
end Vm
end
section
set_option Elab.async false
set_option linter.all false
set_option maxRecDepth 100000
namespace Vm
open PySem PySem.Spec L2
inductive ArgsOk (K : PySem.W.Frag) (F H : Hp) : List V → List Slot → Option Addr → Prop
  | nil {o : Option Addr} : o = none → ArgsOk K F H [] [] o
  | val {v : V} {vs : List V} {d : D} {ss : List Slot} {o : Option Addr} : Dn K F v d → ArgsOk K F H vs ss o → ArgsOk K F H (v :: vs) (.val d :: ss) o
  | own {p : Addr} {us : List V} {l : List D} {vs : List V} {ss : List Slot} : H p = some (.lst us) → DnA K F us l → F p = none → ArgsOk K F H vs ss none → ArgsOk K F H (.ref p :: vs) (.own l :: ss) (some p)
def OutOk (K : PySem.W.Frag) (F' H' : Hp) : Option Addr → Option (List D) → Prop
  | none, none => True
  | some p, some l => F' p = none ∧ ∃ us, H' p = some (.lst us) ∧ DnA K F' us l
  | _, _ => False
def RetOk (fr : Bool) (K : PySem.W.Frag) (F' H H' : Hp) (v : V) (d : D) : Prop :=
  if fr then ∃ p us ds, v = .ref p ∧ d = .lst ds ∧ H p = none ∧ F' p = none ∧ H' p = some (.lst us) ∧ DnA K F' us ds else Dn K F' v d
def SpOf (K : PySem.W.Frag) (xi : XI) (fr : Bool) (res : List Slot → R (D × Option (List D))) : Sp := fun vs H Q E => ∃ F o ss, Same F H ∧ ArgsOk K F H vs ss o ∧
  match res ss with
  | .ok r => ∀ v F' H', Bk ⟨F, H, fun a => o = some a, fun _ _ => False⟩ F' H' → OutOk K F' H' o r.2 → RetOk fr K F' H H' v r.1 → Q v H'
  | .ex c l => ∀ cls dx F' H', Bk ⟨F, H, fun a => o = some a, fun _ _ => False⟩ F' H' → xi c l cls dx F' H' → E cls dx H'
  | .bad => False
structure FnG (P : Program) (w : World) (K : PySem.W.Frag) (mg : Str → Option Value) (base : Heap) (k : Nat) (f : Addr) (fd : FuncData) (ps : List Str) (sp : Sp) : Prop where
  len : ∀ vs H Q E, sp vs H Q E → vs.length = ps.length
  run : ∀ (A : Around) (outer : List PySem.Env) (s : Shared) (H : Hp) (args : Args) (us : List Value) (vs : List V) (Q : VK) (E : XK), A.guards = some [] → Room k A → Env0 P w K mg base A outer s H → BindsTo s fd args (ps.zip us) → Vals vs us → sp vs H Q E →
    codeAny (model P w) A (.call (.ref f) args) (CR (L2.CX P w) outer P w H s Q E) s
theorem run_G {X : Cx} {k : Nat} {f : Addr} {fd : FuncData} {ps : List Str} {sp : Sp} {dvs : List V} {ds : List Value} {E : XK} {pins : List (Addr × Obj)} {σ : St} {H : Hp} {s : Shared} {Q : VK} {us : List Value} {vs : List V}
    (G : FnG X.prog X.w X.K X.mg X.base k f fd ps sp) (hg : X.A.guards = some []) (hr : Room k X.A) (hb : Binds X.K fd ps ds) (hd : Vals dvs ds) (hx : PassesAt (L2.CX X.prog X.w) X σ E) (I : Inv X pins σ H s) (r : Vals vs us) (h : sp (vs ++ dvs) H Q E) :
    wpAny (model X.prog X.w) X.A (call (.ref f) us) (EP X pins σ Q) X.xe s := by
  have all := r.append hd
  have same : (us ++ ds).length = ps.length := by
    rw [← all.length]
    exact G.len _ _ _ _ h
  have body := G.run X.A X.stack s H ⟨us, []⟩ _ _ Q E hg hr I.env0 (hb s us I.kIn same) all h
  refine wpAny_call (codeAny_mono body fun out s' end_ => ?_)
  match out, end_ with
  | .error e, z => exact hx pins H s e s' I z
  | .ok (.ret u), z => exact I.after z
  | .ok .next, z => exact z.elim
  | .ok .brk, z => exact z.elim
  | .ok .cont, z => exact z.elim
def tG (sp : Sp) (dvs : List V) (E : St → XK) (t : TA) : TE := fun σ H Q => t σ H fun vs H1 => sp (vs ++ dvs) H1 Q (E σ)
theorem pe_G {X : Cx} {k : Nat} {f : Addr} {fd : FuncData} {ps : List Str} {sp : Sp} {dvs : List V} {ds : List Value} {E : St → XK} {x : Str} {p pos : Pos} {e : Expr} {es : List Expr} {t : TA}
    (G : FnG X.prog X.w X.K X.mg X.base k f fd ps sp) (hg : X.A.guards = some []) (hr : Room k X.A) (gl : Gl X x) (hm : X.mg x = some (.ref f)) (hk : PySem.W.keepIn X.K (.ref f) = true) (hb : Binds X.K fd ps ds) (hd : Vals dvs ds)
    (hx : ∀ σ, PassesAt (L2.CX X.prog X.w) X σ (E σ)) (ha : PA X (e :: es) t) (hdb : (x == ("__debug__" : Str)) = false) (he : starEach (e :: es) X.env = (false, eval e X.env) :: starEach es X.env) (hpl : (backTo pos (starEach es X.env)).any (·.1) = false) :
    PE X (.Call (.Name x p) (e :: es) [] pos) (tG sp dvs E t) := by
  constructor
  intro pins s σ H Q I h
  refine wpAny_Call_Name_kw (ld_glob I gl hm ?_ hdb)
  have args := ha.run pos pins s σ H _ I h
  refine PySem.W.callWith_K (h₀ := X.base) I.ok.mod.kin hk (thn args ?_) he hpl
  rintro us s1 ⟨vs, H1, I1, r, q⟩
  exact ⟨I1.kIn, run_G G hg hr hb hd (hx σ) I1 r q⟩
section
variable {K : PySem.W.Frag} {F H F' H' : Hp} {σ : St} {en : En} {as : List AV} {vs : List V} {ss : List Slot}
def Bw (σ : St) (as : List AV) (a : Addr) : Prop := ∃ i, AV.b i ∈ as ∧ σ[i]? = some (some (V.ref a))
noncomputable def addB (F H : Hp) (σ : St) (as : List AV) : Hp := fun a => by
  classical
  exact if Bw σ as a then H a else F a
noncomputable def subB (F : Hp) (σ : St) (as : List AV) : Hp := fun a => by
  classical
  exact if Bw σ as a then none else F a
theorem addB_in {a : Addr} (h : Bw σ as a) : addB F H σ as a = H a := by
  unfold addB
  exact if_pos h
theorem addB_out {a : Addr} (h : ¬ Bw σ as a) : addB F H σ as a = F a := by
  unfold addB
  exact if_neg h
theorem subB_in {a : Addr} (h : Bw σ as a) : subB F σ as a = none := by
  unfold subB
  exact if_pos h
theorem subB_out {a : Addr} (h : ¬ Bw σ as a) : subB F σ as a = F a := by
  unfold subB
  exact if_neg h
theorem hasB_of {i : Nat} : ∀ {as : List AV}, AV.b i ∈ as → hasB as = true
  | .b _ :: _, _ => rfl
  | .d _ :: as, h => by
    rcases List.mem_cons.mp h with e | e
    · cases e
    · exact (hasB_of (as := as) e :)
  | .o _ :: as, h => by
    rcases List.mem_cons.mp h with e | e
    · cases e
    · exact (hasB_of (as := as) e :)
mutual
theorem Dn.subB (hF : ∀ a, Bw σ as a → ∃ us, F a = some (.lst us)) : ∀ (d : D) (v : V), d.nol = true → Dn K F v d → Dn K (Vm.subB F σ as) v d
  | .non, _, _, h => by cases h; exact .non
  | .bl _, _, _, h => by cases h; exact .bl _
  | .int _, _, _, h => by cases h; exact .int _
  | .str _, _, _, h => by cases h; exact .str _
  | .tup ds, _, n, h => by
    cases h with
    | tup h1 h2 =>
      refine .tup ?_ (DnA.subB hF ds _ n h2)
      rcases h1 with (h1 | ⟨o, h1⟩) | h1
      · refine .inl (.inl ?_)
        rw [subB_out (fun z => by obtain ⟨us, e⟩ := hF _ z; rw [h1] at e; cases e)]
        exact h1
      · refine .inl (.inr ⟨o, ?_⟩)
        rw [subB_out (fun z => by obtain ⟨us, e⟩ := hF _ z; rw [h1] at e; cases e)]
        exact h1
      · exact .inr h1
  | .lst _, _, n, _ => by cases n
  | .dic _, _, n, _ => by cases n
  | .exc _ _, _, n, _ => by cases n
  | .scr _, _, n, _ => by cases n
  | .cls _, _, n, _ => by cases n
theorem DnA.subB (hF : ∀ a, Bw σ as a → ∃ us, F a = some (.lst us)) : ∀ (ds : List D) (vs : List V), D.nolAll ds = true → DnA K F vs ds → DnA K (Vm.subB F σ as) vs ds
  | [], _, _, h => by cases h; exact .nil
  | d :: ds, _, n, h => by
    cases h with
    | cons h1 h2 =>
      have n' := (Bool.and_eq_true _ _).mp n
      exact .cons (Dn.subB hF d _ n'.1 h1) (DnA.subB hF ds _ n'.2 h2)
end
def ioAddr (σ : St) (as : List AV) : Option Addr := match ioOf as with
  | none => none
  | some i => (match σ[i]? with
    | some (some (.ref p)) => some p
    | _ => none)
theorem ioOf_none {as : List AV} (h : ioCount as = 0) : ioOf as = none := by
  induction as with
  | nil => rfl
  | cons a as ih =>
    cases a with
    | d _ => exact ih h
    | b _ => exact ih h
    | o _ => cases h
theorem argsOk {B : Bs} (k : Ok B K F H σ en) {G : Hp} (hG : Same F G) (hB : ∀ i l p us, en[i]? = some (Slot.own l) → σ[i]? = some (some (V.ref p)) → AV.b i ∈ as → H p = some (.lst us) → G p = some (.lst us))
    (hO : ∀ p, ioAddr σ as = some p → G p = none) : ∀ {bs : List AV} {vs : List V} {ss : List Slot}, AvA K F σ bs vs → resolve en bs = some ss → (∀ a ∈ bs, a ∈ as) → ioCount bs ≤ 1 → (ioOf bs = none ∨ ioOf bs = ioOf as) → ArgsOk K G H vs ss (ioAddr σ bs)
  | _, _, _, .nil, e, _, _, _ => by cases e; exact .nil rfl
  | _, _, _, .d (as := bs) h t, e, sub, c, io => by
    unfold resolve at e
    cases r : resolve en bs with
    | none => rw [r] at e; cases e
    | some q =>
      rw [r] at e
      cases e
      exact .val (h.up hG) (argsOk (bs := bs) k hG hB hO t r (fun a z => sub a (List.mem_cons_of_mem _ z)) c io)
  | _, _, _, .b (i := i) (as := bs) h t, e, sub, c, io => by
    unfold resolve at e
    cases o : ownAt en i with
    | none => simp only [o] at e; cases e
    | some l =>
      simp only [o] at e
      cases r : resolve en bs with
      | none => rw [r] at e; cases e
      | some q =>
        rw [r] at e
        cases e
        obtain ⟨p, us, e1, h1, h2, _⟩ := k.own i l (ownAt_some.mp o)
        rw [h] at e1
        cases e1
        exact .val (.lst (hB i l p us (ownAt_some.mp o) h (sub _ List.mem_cons_self) h1) (h2.up hG)) (argsOk (bs := bs) k hG hB hO t r (fun a z => sub a (List.mem_cons_of_mem _ z)) c io)
  | _, _, _, .o (i := i) (as := bs) h t, e, sub, c, io => by
    unfold resolve at e
    cases o : ownAt en i with
    | none => simp only [o] at e; cases e
    | some l =>
      simp only [o] at e
      cases r : resolve en bs with
      | none => rw [r] at e; cases e
      | some q =>
        rw [r] at e
        cases e
        obtain ⟨p, us, e1, h1, h2, h3, _⟩ := k.own i l (ownAt_some.mp o)
        rw [h] at e1
        cases e1
        have c0 : ioCount bs = 0 := by
          have c' : ioCount bs + 1 ≤ 1 := c
          omega
        have n0 := ioOf_none c0
        have tail : ArgsOk K G H _ _ (ioAddr σ bs) := argsOk (bs := bs) k hG hB hO t r (fun a z => sub a (List.mem_cons_of_mem _ z)) (by omega) (.inl n0)
        have e2 : ioAddr σ bs = none := by unfold ioAddr; rw [n0]
        rw [e2] at tail
        have e3 : ioAddr σ (.o i :: bs) = some p := by
          show (match σ[i]? with
            | some (some (.ref p)) => some p
            | _ => none) = some p
          rw [h]
        rw [e3]
        have io' : ioOf as = some i := by
          rcases io with z | z
          · cases z
          · exact z.symm
        have gp : G p = none := hO p (by unfold ioAddr; simp only [io', h])
        exact .own h1 (h2.up hG) gp tail
theorem bAt_of {i : Nat} : ∀ {as : List AV}, AV.b i ∈ as → bAt i as = true
  | .b j :: as, h => by
    rcases List.mem_cons.mp h with e | e
    · cases e
      show (decide (i = i) || _) = true
      rw [decide_eq_true rfl]
      rfl
    · show (decide (i = j) || bAt i as) = true
      rw [(bAt_of (as := as) e : bAt i as = true), Bool.or_true]
  | .d _ :: as, h => by
    rcases List.mem_cons.mp h with e | e
    · cases e
    · exact (bAt_of (as := as) e :)
  | .o _ :: as, h => by
    rcases List.mem_cons.mp h with e | e
    · cases e
    · exact (bAt_of (as := as) e :)
theorem resolve_b {i : Nat} : ∀ {as : List AV} {ss : List Slot}, resolve en as = some ss → AV.b i ∈ as → ∃ l, ownAt en i = some l
  | .b j :: as, ss, e, h => by
    unfold resolve at e
    cases o : ownAt en j with
    | none => simp only [o] at e; cases e
    | some l =>
      simp only [o] at e
      cases r : resolve en as with
      | none => rw [r] at e; cases e
      | some q =>
        rcases List.mem_cons.mp h with z | z
        · cases z
          exact ⟨l, o⟩
        · exact resolve_b (as := as) r z
  | .d _ :: as, ss, e, h => by
    unfold resolve at e
    cases r : resolve en as with
    | none => rw [r] at e; cases e
    | some q =>
      rcases List.mem_cons.mp h with z | z
      · cases z
      · exact resolve_b (as := as) r z
  | .o j :: as, ss, e, h => by
    unfold resolve at e
    cases o : ownAt en j with
    | none => simp only [o] at e; cases e
    | some l =>
      simp only [o] at e
      cases r : resolve en as with
      | none => rw [r] at e; cases e
      | some q =>
        rcases List.mem_cons.mp h with z | z
        · cases z
        · exact resolve_b (as := as) r z
theorem resolve_o {i : Nat} : ∀ {as : List AV} {ss : List Slot}, resolve en as = some ss → ioOf as = some i → ∃ l, ownAt en i = some l
  | .b j :: as, ss, e, h => by
    unfold resolve at e
    cases o : ownAt en j with
    | none => simp only [o] at e; cases e
    | some l =>
      simp only [o] at e
      cases r : resolve en as with
      | none => rw [r] at e; cases e
      | some q => exact resolve_o (as := as) r h
  | .d _ :: as, ss, e, h => by
    unfold resolve at e
    cases r : resolve en as with
    | none => rw [r] at e; cases e
    | some q => exact resolve_o (as := as) r h
  | .o j :: as, ss, e, h => by
    cases h
    unfold resolve at e
    cases o : ownAt en i with
    | none => simp only [o] at e; cases e
    | some l => exact ⟨l, rfl⟩
theorem bw_own {B : Bs} (k : Ok B K F H σ en) (rs : resolve en as = some ss) {a : Addr} (h : Bw σ as a) : ∃ i l us, AV.b i ∈ as ∧ en[i]? = some (Slot.own l) ∧ σ[i]? = some (some (V.ref a)) ∧ H a = some (.lst us) ∧ F a = none := by
  obtain ⟨i, hi, hs⟩ := h
  obtain ⟨l, o⟩ := resolve_b rs hi
  obtain ⟨p, us, e1, h1, _, h3, _⟩ := k.own i l (ownAt_some.mp o)
  rw [hs] at e1
  cases e1
  exact ⟨i, l, us, hi, ownAt_some.mp o, hs, h1, h3⟩
theorem io_own {B : Bs} (k : Ok B K F H σ en) (rs : resolve en as = some ss) {a : Addr} (h : ioAddr σ as = some a) : ∃ i l us, ioOf as = some i ∧ en[i]? = some (Slot.own l) ∧ σ[i]? = some (some (V.ref a)) ∧ H a = some (.lst us) ∧ F a = none ∧ (B.P a ∨ B.H a = none) := by
  unfold ioAddr at h
  cases e : ioOf as with
  | none => rw [e] at h; cases h
  | some i =>
    simp only [e] at h
    obtain ⟨l, o⟩ := resolve_o rs e
    obtain ⟨p, us, e1, h1, _, h3, h4⟩ := k.own i l (ownAt_some.mp o)
    simp only [e1] at h
    cases h
    exact ⟨i, l, us, rfl, ownAt_some.mp o, e1, h1, h3, h4⟩
theorem io_bw {B : Bs} (k : Ok B K F H σ en) (rs : resolve en as = some ss) (fine : ioFine as = true) {a : Addr} (h : ioAddr σ as = some a) : ¬ Bw σ as a := fun b => by
  obtain ⟨i, l, us, e1, e2, e3, _⟩ := io_own k rs h
  obtain ⟨j, m, us2, f1, f2, f3, _⟩ := bw_own k rs b
  have e := k.inj i j l m a e2 f2 e3 f3
  subst e
  have fine := ((Bool.and_eq_true _ _).mp fine).2
  rw [e1] at fine
  have q := bAt_of f1
  simp only [q] at fine
  cases fine
theorem subB_of {F : Hp} (h : hasB as = false) : subB F σ as = F := by
  funext a
  by_cases z : Bw σ as a
  · obtain ⟨i, hi, _⟩ := z
    rw [hasB_of hi] at h
    cases h
  · exact subB_out z
theorem DnA.ints : ∀ {l : List D} {us : List V}, l.all D.isI = true → DnA K F us l → ∀ v ∈ us, ∃ i : Int, v = .int i
  | [], _, _, h, v, hv => by cases h; cases hv
  | d :: l, _, n, h, v, hv => by
    cases h with
    | cons h1 h2 =>
      have n' := (Bool.and_eq_true _ _).mp (show (d.isI && l.all D.isI) = true from n)
      rcases List.mem_cons.mp hv with e | e
      · subst e
        cases d <;> first
          | (cases h1; exact ⟨_, rfl⟩)
          | exact nomatch n'.1
      · exact DnA.ints n'.2 h2 v e
theorem DnA.anyNI : ∀ {l : List D} {us : List V}, D.anyNI l = true → DnA K F us l → ∃ v ∈ us, ∀ i : Int, v ≠ .int i
  | [], _, n, _ => nomatch n
  | d :: l, _, n, h => by
    cases h with
    | cons h1 h2 =>
      have n : (!d.isI || D.anyNI l) = true := n
      cases e : d.isI with
      | false =>
        refine ⟨_, List.mem_cons_self, fun i z => ?_⟩
        rw [z] at h1
        cases h1
        cases e
      | true =>
        rw [e] at n
        obtain ⟨v, m, q⟩ := DnA.anyNI (l := l) n h2
        exact ⟨v, List.mem_cons_of_mem _ m, q⟩
theorem nolAll_ints : ∀ {l : List D}, l.all D.isI = true → D.nolAll l = true
  | [], _ => rfl
  | d :: l, n => by
    have n' := (Bool.and_eq_true _ _).mp (show (d.isI && l.all D.isI) = true from n)
    refine (Bool.and_eq_true _ _).mpr ⟨?_, nolAll_ints n'.2⟩
    cases d <;> first | rfl | exact nomatch n'.1
theorem DnA.subBI {F : Hp} (hN : ∀ a, Bw σ as a → ∃ us, F a = some (.lst us) ∧ ∃ v ∈ us, ∀ i : Int, v ≠ .int i) : ∀ {ds : List D} {vs : List V}, ds.all D.nolI = true → DnA K F vs ds → DnA K (Vm.subB F σ as) vs ds
  | [], _, _, h => by cases h; exact .nil
  | d :: ds, _, n, h => by
    have hF : ∀ a, Bw σ as a → ∃ us, F a = some (.lst us) := fun a z => let ⟨us, q, _⟩ := hN a z; ⟨us, q⟩
    cases h with
    | cons h1 h2 =>
      have n' := (Bool.and_eq_true _ _).mp (show (d.nolI && ds.all D.nolI) = true from n)
      refine .cons ?_ (DnA.subBI hN n'.2 h2)
      have d0 : (∃ l, d = .lst l) ∨ d.nol = true := by
        cases d <;> first
          | exact .inl ⟨_, rfl⟩
          | exact .inr n'.1
      rcases d0 with ⟨l, rfl⟩ | d0
      · have ni : l.all D.isI = true := n'.1
        cases h1 with
        | @lst a xs _ e1 e2 =>
          refine .lst ?_ (DnA.subB hF l _ (nolAll_ints ni) e2)
          rw [subB_out (fun z => by
            obtain ⟨us, q1, v, q2, q3⟩ := hN _ z
            rw [e1] at q1
            cases q1
            obtain ⟨i, e⟩ := DnA.ints ni e2 v q2
            exact q3 i e)]
          exact e1
      · exact Dn.subB hF d _ d0 h1
theorem bwNI_of {i : Nat} {l : List D} : ∀ {as : List AV}, bwNI en as = true → AV.b i ∈ as → ownAt en i = some l → D.anyNI l = true
  | [], _, h, _ => absurd h List.not_mem_nil
  | .b j :: as, n, h, o => by
    unfold bwNI at n
    obtain ⟨n1, n2⟩ := (Bool.and_eq_true _ _).mp n
    rcases List.mem_cons.mp h with e | e
    · cases e
      rw [o] at n1
      exact n1
    · exact bwNI_of (as := as) n2 e o
  | .d _ :: as, n, h, o => by
    rcases List.mem_cons.mp h with e | e
    · cases e
    · exact bwNI_of (as := as) n e o
  | .o _ :: as, n, h, o => by
    rcases List.mem_cons.mp h with e | e
    · cases e
    · exact bwNI_of (as := as) n e o
theorem call_back {B : Bs} {F1 H1 F' H' : Hp} {en1 en2 : En} {w : Option (List D)} (k : Ok B K F1 H1 σ en1) (rs : resolve en1 as = some ss) (fine : ioFine as = true)
    (bk : Bk ⟨addB F1 H1 σ as, H1, fun a => ioAddr σ as = some a, fun _ _ => False⟩ F' H') (out : OutOk K F' H' (ioAddr σ as) w) (safe : hasB as = false ∨ ∀ l, w = some l → ioB en1 as l = true) (pb : putBack as w en1 = .ok en2) :
    Go σ F1 H1 en1 (subB F' σ as) H' en2 ∧ Ok B K (subB F' σ as) H' σ en2 := by
  have bwF : ∀ a, Bw σ as a → ∃ us, F' a = some (.lst us) ∧ H' a = some (.lst us) ∧ F1 a = none := fun a h => by
    obtain ⟨i, l, us, _, _, _, h1, h2⟩ := bw_own k rs h
    have e : F' a = some (.lst us) := bk.bsub a _ (by show addB F1 H1 σ as a = _; rw [addB_in h]; exact h1)
    exact ⟨us, e, bk.sub _ _ e, h2⟩
  have sub : Same F1 (subB F' σ as) := fun a o h => by
    have nb : ¬ Bw σ as a := fun z => by
      obtain ⟨_, _, _, q⟩ := bwF a z
      rw [q] at h; cases h
    rw [subB_out nb]
    exact bk.bsub a _ (by show addB F1 H1 σ as a = _; rw [addB_out nb]; exact h)
  have new : ∀ a, F1 a = none → H1 a ≠ none → subB F' σ as a = none := fun a h h' => by
    by_cases z : Bw σ as a
    · exact subB_in z
    · rw [subB_out z]
      exact bk.bnew a (by show addB F1 H1 σ as a = _; rw [addB_out z]; exact h) h'
  have keep : ∀ a o, H1 a = some o → ioAddr σ as ≠ some a → H' a = some o := fun a o h h' => bk.bkeep a o h h'
  -- the environment behind
  have cases_ : (∃ i l p, ioOf as = some i ∧ w = some l ∧ en2 = en1.set i (.own l) ∧ ioAddr σ as = some p ∧ σ[i]? = some (some (V.ref p)) ∧ ∃ m, en1[i]? = some (Slot.own m)) ∨ (en2 = en1 ∧ ioAddr σ as = none) := by
    unfold putBack at pb
    cases e : ioOf as with
    | none =>
      rw [e] at pb
      cases w with
      | none => cases pb; exact .inr ⟨rfl, by unfold ioAddr; simp only [e]⟩
      | some l => cases pb
    | some i =>
      rw [e] at pb
      cases w with
      | none => cases pb
      | some l =>
        cases pb
        obtain ⟨m, o⟩ := resolve_o rs e
        obtain ⟨p, us, e1, _⟩ := k.own i m (ownAt_some.mp o)
        exact .inl ⟨i, l, p, rfl, rfl, rfl, by unfold ioAddr; simp only [e, e1], e1, m, ownAt_some.mp o⟩
  have owns : ∀ i : Nat, ownAt en1 i ≠ none → ownAt en2 i ≠ none := fun i h => by
    rcases cases_ with ⟨j, l, p, _, _, e, _, _, m, hm⟩ | ⟨e, _⟩
    · subst e
      by_cases z : i = j
      · subst z
        have lt := (List.getElem?_eq_some_iff.mp hm).1
        have q : (en1.set i (.own l))[i]? = some (Slot.own l) := by rw [List.getElem?_set_self lt]
        rw [ownAt_some.mpr q]
        exact fun z => nomatch z
      · have q : (en1.set j (.own l))[i]? = en1[i]? := List.getElem?_set_ne (Ne.symm z)
        unfold ownAt at h ⊢
        rw [q]
        exact h
    · rw [e]; exact h
  have vals : ∀ i : Nat, ownAt en1 i = none → en2[i]? = en1[i]? := fun i h => by
    rcases cases_ with ⟨j, l, p, _, _, e, _, _, m, hm⟩ | ⟨e, _⟩
    · subst e
      have z : i ≠ j := fun z => by subst z; rw [ownAt_some.mpr hm] at h; cases h
      exact List.getElem?_set_ne (Ne.symm z)
    · rw [e]
  have ioP : ∀ a, ioAddr σ as = some a → Own σ en1 a := fun a h => by
    obtain ⟨i, l, us, _, e2, e3, _⟩ := io_own k rs h
    exact ⟨i, l, e2, e3⟩
  have len : en2.length = en1.length := by
    rcases cases_ with ⟨j, l, p, _, _, e, _⟩ | ⟨e, _⟩
    · rw [e, List.length_set]
    · rw [e]
  have go : Go σ F1 H1 en1 (subB F' σ as) H' en2 := ⟨sub, new, fun a o h h' => keep a o h fun z => h' (ioP a z), bk.bdom, vals, owns, len⟩
  refine ⟨go, ⟨len.trans k.len, fun i d h => ?_, fun i l h => ?_, fun i j l m p h1 h2 h3 h4 => ?_, fun a o h => ?_, k.bsub.trans sub, fun a h h' => new a (k.bnew a h h') (k.bdom a h'), fun a o h h' => ?_, fun a h => bk.bdom a (k.bdom a h), fun i p h => ⟨(k.pin i p h).1, owns i (k.pin i p h).2⟩⟩⟩
  · have e : en1[i]? = some (Slot.val d) := by
      cases o : ownAt en1 i with
      | none => rw [← vals i o]; exact h
      | some m =>
        have q := owns i (by rw [o]; exact fun z => nomatch z)
        unfold ownAt at q
        rw [h] at q
        exact absurd rfl q
    obtain ⟨v, e1, e2⟩ := k.val i d e
    exact ⟨v, e1, e2.up sub⟩
  · -- an own slot
    have old : ∀ m, en1[i]? = some (Slot.own m) → (m = l) → (∀ p, σ[i]? = some (some (V.ref p)) → ioAddr σ as ≠ some p) → ∃ p us, σ[i]? = some (some (.ref p)) ∧ H' p = some (.lst us) ∧ DnA K (subB F' σ as) us l ∧ subB F' σ as p = none ∧ (B.P p ∨ B.H p = none) := fun m hm e nio => by
      subst e
      obtain ⟨p, us, e1, e2, e3, e4, e5⟩ := k.own i m hm
      exact ⟨p, us, e1, keep p _ e2 (nio p e1), e3.up sub, new p e4 (some_ne e2), e5⟩
    rcases cases_ with ⟨j, l', p, ej, ew, e, ea, es, m, hm⟩ | ⟨e, ea⟩
    · subst e
      by_cases z : i = j
      · subst z
        have lt := (List.getElem?_eq_some_iff.mp hm).1
        rw [List.getElem?_set_self lt] at h
        cases h
        obtain ⟨p2, us, e1, _, _, _, e5⟩ := k.own i m hm
        rw [es] at e1
        cases e1
        rw [ea, ew] at out
        obtain ⟨o1, us', o2, o3⟩ := out
        refine ⟨p, us', es, o2, ?_, ?_, e5⟩
        · rcases safe with s | s
          · rw [subB_of s]; exact o3
          · have s0 := s _ ew
            unfold ioB at s0
            rcases (Bool.or_eq_true _ _).mp s0 with s1 | s1
            · exact DnA.subB (fun a z => let ⟨us, q, _⟩ := bwF a z; ⟨us, q⟩) _ _ s1 o3
            · obtain ⟨s2, s3⟩ := (Bool.and_eq_true _ _).mp s1
              refine DnA.subBI (fun a z => ?_) s2 o3
              obtain ⟨q, lq, uq, t1, t2, t3, t4, t5⟩ := bw_own k rs z
              obtain ⟨p4, u4, r1, r2, r3, _, _⟩ := k.own q lq t2
              rw [t3] at r1
              cases r1
              obtain ⟨v, m1, m2⟩ := DnA.anyNI (bwNI_of s3 t1 (ownAt_some.mpr t2)) r3
              exact ⟨u4, bk.bsub _ _ (by show addB F1 H1 σ as _ = _; rw [addB_in z]; exact r2), v, m1, m2⟩
        · by_cases z : Bw σ as p
          · exact subB_in z
          · rw [subB_out z]; exact o1
      · have h' : (en1.set j (.own l'))[i]? = some (Slot.own l) := h
        rw [List.getElem?_set_ne (Ne.symm z)] at h'
        refine old l h' rfl fun p' q1 q2 => ?_
        rw [ea] at q2
        cases q2
        exact z (k.inj i j l m p h' hm q1 es)
    · subst e
      exact old l h rfl fun p q1 q2 => by rw [ea] at q2; cases q2
  · have back : ∀ i l, en2[i]? = some (Slot.own l) → ∃ m, en1[i]? = some (Slot.own m) := fun i l h => by
      cases o : ownAt en1 i with
      | some m => exact ⟨m, ownAt_some.mp o⟩
      | none =>
        rw [vals i o] at h
        rw [ownAt_some.mpr h] at o
        cases o
    obtain ⟨l1, q1⟩ := back i l h1
    obtain ⟨m1, q2⟩ := back j m h2
    exact k.inj i j l1 m1 p q1 q2 h3 h4
  · by_cases z : Bw σ as a
    · rw [subB_in z] at h; cases h
    · rw [subB_out z] at h; exact bk.sub _ _ h
  · refine keep a o (k.bkeep a o h h') fun z => ?_
    obtain ⟨_, _, _, _, _, _, _, _, q⟩ := io_own k rs z
    rcases q with q | q
    · exact h' q
    · rw [q] at h; cases h
end
end Vm
end
section
set_option Elab.async false
set_option linter.all false
set_option maxRecDepth 100000
namespace Vm
open PySem PySem.Spec L2
def visB (sc : Scope) (x : Str) : Bool := match sc.names.lookup x with
  | some .local => true
  | some .cell => true
  | some .free => true
  | _ => false
def locB (sc : Scope) (x : Str) : Bool := match sc.names.lookup x with
  | some .local => true
  | some .cell => true
  | _ => false
def glbB (sc : Scope) (x : Str) : Bool := decide (sc.names.lookup x = some .globalImplicit)
def okName (x : Str) : Bool := !(x == ("__debug__" : Str)) && !(x == ("__classdict__" : Str))
def dSame : D → D → Bool
  | .non, .non => true
  | .bl a, .bl b => a == b
  | .int a, .int b => decide (a = b)
  | .str a, .str b => decide (a = b)
  | _, _ => false
def lSame : List D → List D → Bool
  | [], [] => true
  | a :: l, b :: m => dSame a b && lSame l m
  | _, _ => false
def blts : List Str := ["len", "abs", "max", "min", "int", "repr", "list", "tuple", "sorted", "sum", "all", "any", "isinstance", "range", "enumerate", "zip", "bool", "str", "dict", "ValueError"]
def tyB (t : Ty) (x : Str) : Bool := match t with
  | .int => decide (x = "int")
  | .bool => decide (x = "bool")
  | .str => decide (x = "str")
  | .tuple => decide (x = "tuple")
  | .list => decide (x = "list")
def constB : D → Const → Bool
  | .non, .none => true
  | .bl a, .bool b => a == b
  | .int a, .int b => decide (a = b)
  | .str a, .str b => decide (a = b)
  | _, _ => false
def binB : Pr → Operator → Bool
  | .add, .Add => true
  | .sub, .Sub => true
  | .mul, .Mult => true
  | .fdiv, .FloorDiv => true
  | .mod, .Mod => true
  | .pow, .Pow => true
  | _, _ => false
def cmpB : Pr → CmpOp → Bool
  | .eq, .Eq => true
  | .ne, .NotEq => true
  | .lt, .Lt => true
  | .le, .LtE => true
  | .gt, .Gt => true
  | .ge, .GtE => true
  | _, _ => false
def call1B : Pr → Str → Bool
  | .len, x => decide (x = "len")
  | .abs, x => decide (x = "abs")
  | .int, x => decide (x = "int")
  | .repr, x => decide (x = "repr")
  | .list, x => decide (x = "list")
  | .tuple, x => decide (x = "tuple")
  | .sum, x => decide (x = "sum")
  | .all, x => decide (x = "all")
  | .any, x => decide (x = "any")
  | .sorted, x => decide (x = "sorted")
  | .max1, x => decide (x = "max")
  | .stri, x => decide (x = "str")
  | _, _ => false
def call2B : Pr → Str → Bool
  | .max2, x => decide (x = "max")
  | .min2, x => decide (x = "min")
  | .isx, x => decide (x = "isinstance")
  | _, _ => false
def still : E → Bool
  | .c _ => true
  | .v _ => true
  | _ => false
def isSlice : Expr → Bool
  | .Slice _ _ _ _ => true
  | _ => false
def varB (N : List Str) (sc : Scope) (i : Nat) : Expr → Bool
  | .Name x _ => decide (N[i]? = some x) && visB sc x && okName x
  | _ => false
def matO (f : E → Expr → Bool) (N : List Str) (sc : Scope) (c : E) (a : Expr) : Bool := match c with
  | .bw i => varB N sc i a
  | .io i => varB N sc i a
  | c => f c a
def noBw : E → Bool
  | .bw _ => false
  | .io _ => false
  | _ => true
def matL (f : E → Expr → Bool) : List E → List Expr → Bool
  | [], [] => true
  | c :: cs, a :: as => f c a && matL f cs as
  | _, _ => false
def nameB (N : List Str) (sc : Scope) (i : Nat) : Expr → Bool
  | .Name x _ => decide (N[i]? = some x) && locB sc x
  | _ => false
def namesB (N : List Str) (sc : Scope) : List Nat → List Expr → Bool
  | [], [] => true
  | i :: is, a :: as => nameB N sc i a && namesB N sc is as
  | _, _ => false
def matT (N : List Str) (sc : Scope) : Tg → Expr → Bool
  | .n i, a => nameB N sc i a
  | .t is, .Tuple es _ _ => namesB N sc is es
  | _, _ => false
def flatE : E → Bool
  | .c _ => true
  | .v _ => true
  | .g _ => true
  | .pr .ix [.v _, .c _] => true
  | _ => false
def strE : E → Bool
  | .c (.str _) => true
  | _ => false
def matJ (f : E → Expr → Bool) : List E → List Expr → Bool
  | [], [] => true
  | c :: cs, .Constant k kk p :: es => strE c && f c (.Constant k kk p) && matJ f cs es
  | c :: cs, .FormattedValue x (-1) none _ :: es => flatE c && f c x && matJ f cs es
  | _, _ => false
def tgIn (vs : List Nat) : Tg → Bool
  | .n i => vs.contains i
  | .t is => is.all fun i => vs.contains i
def tupT : Tg → Bool
  | .t _ => true
  | _ => false
def matI (f : E → Expr → Bool) (sc : Scope) (tg : Tg) (k : Ik) (l : List E) (a : Expr) : Bool := match k, l with
  | .seq, [c] => f c a
  | .rng1, l => (match a with
    | .Call (.Name x _) es [] _ => decide (x = "range") && glbB sc x && decide (es.length = 1) && matL f l es
    | _ => false)
  | .rng2, l => (match a with
    | .Call (.Name x _) es [] _ => decide (x = "range") && glbB sc x && decide (es.length = 2) && matL f l es
    | _ => false)
  | .rng3, l => (match a with
    | .Call (.Name x _) es [] _ => decide (x = "range") && glbB sc x && decide (es.length = 3) && matL f l es
    | _ => false)
  | .enum, l => (match a with
    | .Call (.Name x _) es [] _ => decide (x = "enumerate") && glbB sc x && decide (es.length = 1) && tupT tg && matL f l es
    | _ => false)
  | .zip, l => (match a with
    | .Call (.Name x _) es [] _ => decide (x = "zip") && glbB sc x && decide (es.length = 2) && tupT tg && matL f l es
    | _ => false)
  | _, _ => false
def ownL (N : List Str) (vs : List Nat) : List (Str × Nat) := vs.map fun v => (N.getD v "", v)
def matE : Nat → (Str → List D) → List Str → Scope → E → Expr → Bool
  | 0, _, _, _, _, _ => false
  | n + 1, df, N, sc, c, a => match c with
    | .c d => (match a with
      | .Constant k _ _ => constB d k
      | _ => false)
    | .g x => (match a with
      | .Name y _ => decide (x = y) && glbB sc x && okName x
      | _ => false)
    | .v i => varB N sc i a
    | .bw _ => false
    | .io _ => false
    | .pr p l => (match a, l with
      | .Tuple es _ _, l => decide (p = .tup) && l.all noBw && matL (matE n df N sc) l es
      | .List es _, l => decide (p = .lst) && l.all noBw && matL (matE n df N sc) l es
      | .JoinedStr (v1 :: v2 :: r) _, l => decide (p = .fmt) && l.all noBw && matJ (matE n df N sc) l (v1 :: v2 :: r)
      | .Call (.Attribute (.Name y yp) m apos) [.Constant (.str s) kk cp] [] pos, [c] => (match p with
        | .part s' => decide (m = "partition") && decide (s = s') && (apos.endLine == pos.line) && matE n df N sc c (.Name y yp)
        | _ => false)
      | .UnaryOp .Not x _, [c] => decide (p = .not) && matE n df N sc c x
      | .UnaryOp .USub x _, [c] => decide (p = .neg) && matE n df N sc c x
      | .BinOp x o y _, [c, d] => binB p o && matO (matE n df N sc) N sc c x && matO (matE n df N sc) N sc d y
      | .Compare x [.Is] [.Constant .none _ _] _, [c] => decide (p = .isn) && matO (matE n df N sc) N sc c x
      | .Compare x [.IsNot] [.Constant .none _ _] _, [c] => decide (p = .nisn) && matO (matE n df N sc) N sc c x
      | .Compare x [.In] [.Name y yp] _, [c, d] => decide (p = .inn) && matO (matE n df N sc) N sc c x && matO (matE n df N sc) N sc d (.Name y yp)
      | .Compare x [.In] [.ListComp y gs sp q] _, [c, d] => decide (p = .inn) && matO (matE n df N sc) N sc c x && matE n df N sc d (.ListComp y gs sp q)
      | .Compare x [.NotIn] [.Name y yp] _, [c, d] => decide (p = .nin) && matO (matE n df N sc) N sc c x && matO (matE n df N sc) N sc d (.Name y yp)
      | .Compare x [.NotIn] [.ListComp y gs sp q] _, [c, d] => decide (p = .nin) && matO (matE n df N sc) N sc c x && matE n df N sc d (.ListComp y gs sp q)
      | .Compare x [o] [y] _, [c, d] => cmpB p o && matO (matE n df N sc) N sc c x && matO (matE n df N sc) N sc d y
      | .Subscript x (.Slice none (some z) none _) _, [c, d] => decide (p = .slA) && matO (matE n df N sc) N sc c x && matE n df N sc d z
      | .Subscript x (.Slice (some y) none none _) _, [c, d] => decide (p = .slB) && matO (matE n df N sc) N sc c x && matE n df N sc d y
      | .Subscript x (.Slice (some y) (some z) none _) _, [c, d, e] => decide (p = .slC) && still e && matO (matE n df N sc) N sc c x && matE n df N sc d y && matE n df N sc e z
      | .Subscript x (.Slice none none (some (.UnaryOp .USub (.Constant (.int 1) _ _) _)) _) _, [c] => decide (p = .rev) && matO (matE n df N sc) N sc c x
      | .Subscript x y _, [c, d] => decide (p = .ix) && !isSlice y && matO (matE n df N sc) N sc c x && matO (matE n df N sc) N sc d y
      | .Call (.Name x _) [y] [] _, [c] => call1B p x && glbB sc x && matO (matE n df N sc) N sc c y
      | .Call (.Name x _) [y, .Name z _] [] _, [c] => (match p with
        | .isi t => decide (x = "isinstance") && glbB sc x && tyB t z && glbB sc z && matO (matE n df N sc) N sc c y
        | .isv => decide (x = "isinstance") && glbB sc x && decide (z = "ValueError") && glbB sc z && matO (matE n df N sc) N sc c y
        | _ => false)
      | .Call (.Name x _) [y, z] [] _, [c, d] => call2B p x && glbB sc x && matO (matE n df N sc) N sc c y && matO (matE n df N sc) N sc d z
      | _, _ => false)
    | .and_ c d => (match a with
      | .BoolOp .And (x :: y :: r) pos => matE n df N sc c x && (match r with
        | [] => matE n df N sc d y
        | _ :: _ => matE n df N sc d (.BoolOp .And (y :: r) pos))
      | _ => false)
    | .or_ c d => (match a with
      | .BoolOp .Or (x :: y :: r) pos => matE n df N sc c x && (match r with
        | [] => matE n df N sc d y
        | _ :: _ => matE n df N sc d (.BoolOp .Or (y :: r) pos))
      | _ => false)
    | .ite t c d => (match a with
      | .IfExp x y z _ => matE n df N sc t x && matE n df N sc c y && matE n df N sc d z
      | _ => false)
    | .ch o p c d e => (match a with
      | .Compare x [oo, pp] [y, z] _ => cmpB o oo && cmpB p pp && matE n df N sc c x && matE n df N sc d y && matE n df N sc e z
      | _ => false)
    | .call f l dl => (match a with
      | .Call (.Name x _) (y :: ys) [] _ => decide (x = f) && glbB sc x && okName x && (dl.isEmpty || lSame (df f) dl) && matL (matO (matE n df N sc) N sc) l (y :: ys)
      | _ => false)
    | .lc elt tg k l cond vs => (match a with
      | .ListComp x [g] scope _ => decide (g.is_async = 0) && matI (matE n df N sc) sc tg k l g.iter && matT N scope tg g.target && tgIn vs tg && matE n df N (relS scope sc) elt x && blkC N sc scope (ownL N vs) &&
        (match cond, g.ifs with
          | none, [] => true
          | some c, [y] => matE n df N (relS scope sc) c y
          | _, _ => false)
      | _ => false)
    | .lcb elt tg i cond vs => (match a with
      | .ListComp x [g] scope _ => decide (g.is_async = 0) && varB N sc i g.iter && matT N scope tg g.target && tgIn vs tg && matE n df N (relS scope sc) elt x && blkC N sc scope (ownL N vs) &&
        (match cond, g.ifs with
          | none, [] => true
          | some c, [y] => matE n df N (relS scope sc) c y
          | _, _ => false)
      | _ => false)
def CallOk (X : Cx) (C : Cg) (f : Str) : Prop := ∃ (k : Nat) (fa : Addr) (fd : FuncData) (ps : List Str), X.mg f = some (.ref fa) ∧ PySem.W.keepIn X.K (.ref fa) = true ∧ Room k X.A ∧
  FnG X.prog X.w X.K X.mg X.base k fa fd ps (SpOf X.K C.xi (C.T.fresh f) (C.T.call f)) ∧
  ∀ dl : List D, (dl.isEmpty || lSame (C.T.dflt f) dl) = true → ∃ ds dvs, Binds X.K fd ps ds ∧ Vals dvs ds ∧ ∀ F, DnA X.K F dvs dl
structure Gd (C : Cg) (X : Cx) (N : List Str) (sc : Scope) : Prop where
  hK : X.K = C.K
  hN : X.N = N
  hs : X.env.scope = sc
  calm : X.calm = true
  guards : X.A.guards = some []
  room : Room 1 X.A
  nd : X.N.Nodup
  glob : ∀ x d, C.T.glob x = some d → ∃ v u, X.mg x = some u ∧ RelV v u ∧ ∀ F, Dn X.K F v d
  blt : ∀ x ∈ blts, X.mg x = none
  call : ∀ f, C.T.has f = true → CallOk X C f
  xif : ∀ c l cls dx F F' H, C.xi c l cls dx F H → C.xi c l cls dx F' H
  pass : ∀ σ, PassesAt (L2.CX X.prog X.w) X σ (WE C.W σ)
  exc : ∀ c l, C.T.exc c = some l → X.mg c = some (.ref (He.ga X.K c)) ∧ xokB X.K c l = true ∧ (He.Fa.exc c).ok X.K = true
theorem vis_of {X : Cx} {sc : Scope} {x : Str} (hs : X.env.scope = sc) (h : visB sc x = true) : Vis X.env.scope x := by
  unfold visB at h
  rw [hs]
  unfold Vis
  split at h <;> first
    | (rename_i e; rw [e]; simp)
    | cases h
theorem loc_of {X : Cx} {sc : Scope} {x : Str} (hs : X.env.scope = sc) (h : locB sc x = true) : L2.Loc X.env.scope x := by
  unfold locB at h
  rw [hs]
  unfold L2.Loc
  split at h <;> first
    | (rename_i e; rw [e]; simp)
    | cases h
theorem glb_of {X : Cx} {sc : Scope} {x : Str} (hs : X.env.scope = sc) (h : glbB sc x = true) : Gl X x := by
  unfold Gl PySem.Env.kindOf
  rw [hs]
  exact of_decide_eq_true h
theorem okName_of {x : Str} (h : okName x = true) : (x == ("__debug__" : Str)) = false ∧ (x == ("__classdict__" : Str)) = false := by
  have q := (Bool.and_eq_true _ _).mp h
  refine ⟨?_, ?_⟩
  · cases z : (x == ("__debug__" : Str)) with
    | false => rfl
    | true => rw [z] at q; cases q.1
  · cases z : (x == ("__classdict__" : Str)) with
    | false => rfl
    | true => rw [z] at q; cases q.2
theorem and2 {a b : Bool} (h : (a && b) = true) : a = true ∧ b = true := (Bool.and_eq_true _ _).mp h
theorem ev_ok {n : Nat} {df : Str → List D} {N : List Str} {sc : Scope} {c : E} {a : Expr} (h : matE n df N sc c a = true) : (∀ env as, starEach (a :: as) env = (false, eval a env) :: starEach as env) ∧ (∀ env x, foldedSetIterable a env x = pure x) := by
  cases n with
  | zero => cases h
  | succ n =>
    cases a <;> first
      | exact ⟨fun _ _ => rfl, fun _ _ => rfl⟩
      | (exfalso; unfold matE at h; cases c <;> first | cases h | (simp only at h; first | cases h | (split at h <;> first | cases h | simp_all)))
end Vm
end
section
set_option Elab.async false
set_option linter.all false
set_option maxRecDepth 100000
namespace Vm
open PySem PySem.Spec L2
section
variable {C : Cg} {X : Cx} {N : List Str} {sc : Scope} {n : Nat}
abbrev Sx (C : Cg) (X : Cx) (n : Nat) (df : Str → List D) (N : List Str) (sc : Scope) : Prop := ∀ (c : E) (a : Expr), matE n df N sc c a = true → PE X a (tE C n c) ∧ PT X a (tT C n c)
theorem of_test {c : E} {σ : St} {H : Hp} {Q : Bool → Hp → Prop} (h : tT C n c σ H Q) : tE C n c σ H fun x H1 => ∃ b, x = .bl b ∧ Q b H1 := by
  obtain ⟨F, en, k, h⟩ := h
  refine ⟨F, en, k, ?_⟩
  cases r : evE C.T n c en with
  | bad => rw [r] at h; exact h
  | ex c l => rw [r] at h; exact h
  | ok p =>
    rw [r] at h
    obtain ⟨b, e, h⟩ := h
    intro v F' H' g k' dn
    rw [e] at dn
    cases dn
    exact ⟨b, rfl, h F' H' g k'⟩
theorem pt_of {c : E} {a : Expr} (h : PE X a (tE C n c)) (he : ∀ whole, isTrue a X.env whole = (do let v ← whole; standAt a.pos; holding [v] (truthy v))) : PT X a (tT C n c) :=
  PT.imp (pt_val h he) fun σ H Q q => of_test q
theorem pe_O {df : Str → List D} (G : Gd C X N sc) (ih : Sx C X n df N sc) {c : E} {a : Expr} (h : matO (matE n df N sc) N sc c a = true) : PE X a (tO C n c) := by
  have own : ∀ i : Nat, varB N sc i a = true → PE X a (tVar i) := fun i h => by
    unfold varB at h
    split at h
    · obtain ⟨h1, h3⟩ := and2 h
      obtain ⟨h1, h2⟩ := and2 h1
      obtain ⟨e1, e2⟩ := okName_of h3
      exact pe_var (by rw [G.hN]; exact of_decide_eq_true h1) (vis_of G.hs h2) e1 e2
    · cases h
  cases c with
  | bw i => exact own i h
  | io i => exact own i h
  | c _ => exact (ih _ _ h).1
  | g _ => exact (ih _ _ h).1
  | v _ => exact (ih _ _ h).1
  | pr _ _ => exact (ih _ _ h).1
  | and_ _ _ => exact (ih _ _ h).1
  | or_ _ _ => exact (ih _ _ h).1
  | ite _ _ _ => exact (ih _ _ h).1
  | ch _ _ _ _ _ => exact (ih _ _ h).1
  | call _ _ _ => exact (ih _ _ h).1
  | lc _ _ _ _ _ _ => exact (ih _ _ h).1
  | lcb _ _ _ _ _ => exact (ih _ _ h).1
theorem matO_star {df : Str → List D} {c : E} {a : Expr} (h : matO (matE n df N sc) N sc c a = true) : ∀ env as, starEach (a :: as) env = (false, eval a env) :: starEach as env := by
  have own : ∀ i : Nat, varB N sc i a = true → ∀ env as, starEach (a :: as) env = (false, eval a env) :: starEach as env := fun i h => by
    unfold varB at h
    split at h
    · exact fun _ _ => rfl
    · cases h
  cases c with
  | bw i => exact own i h
  | io i => exact own i h
  | c _ => exact (ev_ok h).1
  | g _ => exact (ev_ok h).1
  | v _ => exact (ev_ok h).1
  | pr _ _ => exact (ev_ok h).1
  | and_ _ _ => exact (ev_ok h).1
  | or_ _ _ => exact (ev_ok h).1
  | ite _ _ _ => exact (ev_ok h).1
  | ch _ _ _ _ _ => exact (ev_ok h).1
  | call _ _ _ => exact (ev_ok h).1
  | lc _ _ _ _ _ _ => exact (ev_ok h).1
  | lcb _ _ _ _ _ => exact (ev_ok h).1
theorem pa_O {df : Str → List D} (G : Gd C X N sc) (ih : Sx C X n df N sc) : ∀ {l : List E} {es : List Expr}, matL (matO (matE n df N sc) N sc) l es = true → PA X es (tA C n l)
  | [], [], _ => pa_nil
  | c :: cs, a :: as, h => by
    obtain ⟨h1, h2⟩ := and2 h
    exact pa_cons (pe_O G ih h1) (pa_O G ih h2) (matO_star h1 _ _)
  | [], _ :: _, h => by cases h
  | _ :: _, [], h => by cases h
theorem tO_strict {c : E} (h : noBw c = true) : tO C n c = tE C n c := by
  cases c <;> first | rfl | cases h
theorem matO_strict {f : E → Expr → Bool} {c : E} {a : Expr} (h : noBw c = true) : matO f N sc c a = f c a := by
  cases c <;> first | rfl | cases h
theorem prim_noex (p : Pr) (ds : List D) (c : Str) (m : List D) : prim p ds ≠ .ex c m := by
  intro h
  cases p <;> simp only [prim] at h <;> first
    | cases h
    | (simp only [p_tup, p_lst] at h; split at h <;> cases h)
    | (unfold p_ix at h; split at h <;> first
        | cases h
        | (unfold ixL at h; split at h <;> first | cases h | (split at h <;> cases h))
        | (split at h <;> first | cases h | (split at h <;> cases h)))
    | (unfold p_not at h; split at h <;> cases h)
    | (unfold p_neg at h; split at h <;> cases h)
    | (unfold p_add at h; split at h <;> first | cases h | (split at h <;> cases h))
    | (unfold p_sub at h; split at h <;> cases h)
    | (unfold p_mul at h; split at h <;> first | cases h | (split at h <;> cases h))
    | (unfold p_fdiv at h; split at h <;> first | cases h | (split at h <;> first | cases h | (split at h <;> cases h)))
    | (unfold p_mod at h; split at h <;> first | cases h | (split at h <;> cases h))
    | (unfold p_pow at h; split at h <;> first | cases h | (split at h <;> cases h))
    | (unfold p_eq at h; split at h <;> first | cases h | (split at h <;> cases h))
    | (unfold p_ne at h; split at h <;> first | cases h | (split at h <;> cases h))
    | (unfold p_lt at h; split at h <;> cases h)
    | (unfold p_le at h; split at h <;> cases h)
    | (unfold p_gt at h; split at h <;> cases h)
    | (unfold p_ge at h; split at h <;> cases h)
    | (unfold p_isn at h; split at h <;> cases h)
    | (unfold p_nisn at h; split at h <;> cases h)
    | (unfold p_slA at h; split at h <;> first | cases h | (split at h <;> cases h))
    | (unfold p_slB at h; split at h <;> first | cases h | (split at h <;> cases h))
    | (unfold p_slC at h; split at h <;> cases h)
    | (unfold p_len at h; split at h <;> first | cases h | (split at h <;> cases h))
    | (unfold p_rev at h; split at h <;> cases h)
    | (unfold p_abs at h; split at h <;> cases h)
    | (unfold p_max1 at h; split at h <;> first | cases h | (split at h <;> first | cases h | (split at h <;> cases h)))
    | (unfold p_max2 at h; split at h <;> cases h)
    | (unfold p_min2 at h; split at h <;> cases h)
    | (unfold p_int at h; split at h <;> first | cases h | (split at h <;> first | cases h | (split at h <;> cases h)))
    | (unfold p_repr at h; split at h <;> first | cases h | (split at h <;> cases h))
    | (unfold p_list at h; split at h <;> cases h)
    | (unfold p_tuple at h; split at h <;> cases h)
    | (unfold p_sum at h; split at h <;> first | cases h | (split at h <;> cases h))
    | (unfold p_all at h; split at h <;> first | cases h | (split at h <;> cases h))
    | (unfold p_any at h; split at h <;> first | cases h | (split at h <;> cases h))
    | (unfold p_inn at h; split at h <;> first | cases h | (split at h <;> cases h))
    | (unfold p_nin at h; split at h <;> first | cases h | (split at h <;> cases h))
    | (unfold p_sorted at h; split at h <;> first | cases h | (split at h <;> cases h))
    | (unfold p_stri at h; split at h <;> first | cases h | (split at h <;> cases h))
    | (unfold p_fmt at h; split at h <;> cases h)
    | (unfold p_part at h; split at h <;> first | cases h | (split at h <;> cases h))
    | (unfold p_isv at h; split at h <;> cases h)
    | (unfold p_isx at h; split at h <;> first | cases h | (split at h <;> cases h))
    | (unfold p_isi at h; split at h <;> first | cases h | (split at h <;> cases h))
theorem op1 {p : Pr} {c : E} {σ : St} {H : Hp} {Q : VK} {r : V → Hp → VK → Prop} (hr : ∀ {F H : Hp} {Q : VK} {d d1 : D} {x : V}, prim p [d1] = .ok d → DA C.K F H x d1 → Same F H → Qz C.K F H d Q → r x H Q) (hn : ∀ ds d, prim p ds = .ok d → ds.length = 1)
    (h : tE C (n + 1) (.pr p [c]) σ H Q) : tO C n c σ H fun x H1 => r x H1 Q := by
  obtain ⟨F, en, k, h⟩ := h
  have q := prim_run (R := fun vs H1 => ∃ x, vs = [x] ∧ r x H1 Q) k h (fun vs ds d F1 H1 a e s q => by
    have l := hn ds d e
    match ds, l with
    | [d1], _ =>
      obtain ⟨x, rfl, a1⟩ := a.inv1
      exact ⟨x, rfl, hr e a1 s q⟩) (prim_noex p)
  have q : tO C n c σ H fun x H1 => ∃ y, [x] = [y] ∧ r y H1 Q := q
  have e : (fun (x : V) (H1 : Hp) => ∃ y, [x] = [y] ∧ r y H1 Q) = fun x H1 => r x H1 Q := by
    funext x H1
    exact propext ⟨fun ⟨y, e, q⟩ => by cases e; exact q, fun q => ⟨x, rfl, q⟩⟩
  rw [e] at q
  exact q
theorem op2 {p : Pr} {c c2 : E} {σ : St} {H : Hp} {Q : VK} {r : R2} (hr : ∀ {F H : Hp} {Q : VK} {d d1 d2 : D} {x y : V}, prim p [d1, d2] = .ok d → DA C.K F H x d1 → DA C.K F H y d2 → Same F H → Qz C.K F H d Q → r x y H Q) (hn : ∀ ds d, prim p ds = .ok d → ds.length = 2)
    (h : tE C (n + 1) (.pr p [c, c2]) σ H Q) : tOp r (tO C n c) (tO C n c2) σ H Q := by
  obtain ⟨F, en, k, h⟩ := h
  have q := prim_run (R := fun vs H1 => ∃ x y, vs = [x, y] ∧ r x y H1 Q) k h (fun vs ds d F1 H1 a e s q => by
    have l := hn ds d e
    match ds, l with
    | [d1, d2], _ =>
      obtain ⟨x, y, rfl, a1, a2⟩ := a.inv2
      exact ⟨x, y, rfl, hr e a1 a2 s q⟩) (prim_noex p)
  have q : tO C n c σ H fun x H1 => tO C n c2 σ H1 fun y H2 => ∃ x' y', [x, y] = [x', y'] ∧ r x' y' H2 Q := q
  have e : (fun (x : V) (H1 : Hp) => tO C n c2 σ H1 fun y H2 => ∃ x' y', [x, y] = [x', y'] ∧ r x' y' H2 Q) = fun x H1 => tO C n c2 σ H1 fun y H2 => r x y H2 Q := by
    funext x H1
    congr 1
    funext y H2
    exact propext ⟨fun ⟨x', y', e, q⟩ => by cases e; exact q, fun q => ⟨x, y, rfl, q⟩⟩
  rw [e] at q
  exact q
end
end Vm
end
section
set_option Elab.async false
set_option linter.all false
set_option maxRecDepth 100000
namespace Vm
open PySem PySem.Spec L2
theorem prim_len1 {p : Pr} (hp : p = .not ∨ p = .neg ∨ p = .isn ∨ p = .nisn ∨ p = .len ∨ p = .abs ∨ p = .int ∨ p = .repr ∨ p = .list ∨ p = .tuple ∨ p = .sum ∨ p = .all ∨ p = .any ∨ p = .sorted ∨ p = .max1 ∨ p = .rev ∨ p = .isv ∨ p = .stri ∨ (∃ t, p = .part t) ∨ ∃ t, p = .isi t) (ds : List D) (d : D) (h : prim p ds = .ok d) : ds.length = 1 := by
  match ds with
  | [] => rcases hp with rfl | rfl | rfl | rfl | rfl | rfl | rfl | rfl | rfl | rfl | rfl | rfl | rfl | rfl | rfl | rfl | rfl | rfl | ⟨t, rfl⟩ | ⟨t, rfl⟩ <;> cases h
  | [_] => rfl
  | x :: y :: _ => rcases hp with rfl | rfl | rfl | rfl | rfl | rfl | rfl | rfl | rfl | rfl | rfl | rfl | rfl | rfl | rfl | rfl | rfl | rfl | ⟨t, rfl⟩ | ⟨t, rfl⟩ <;> first | cases h | (cases x <;> cases h)
theorem prim_len2 {p : Pr} (hp : p = .add ∨ p = .sub ∨ p = .mul ∨ p = .fdiv ∨ p = .mod ∨ p = .pow ∨ p = .eq ∨ p = .ne ∨ p = .lt ∨ p = .le ∨ p = .gt ∨ p = .ge ∨ p = .ix ∨ p = .slA ∨ p = .slB ∨ p = .max2 ∨ p = .min2 ∨ p = .isx) (ds : List D) (d : D) (h : prim p ds = .ok d) : ds.length = 2 := by
  match ds with
  | [] => rcases hp with rfl | rfl | rfl | rfl | rfl | rfl | rfl | rfl | rfl | rfl | rfl | rfl | rfl | rfl | rfl | rfl | rfl | rfl <;> cases h
  | [x] => rcases hp with rfl | rfl | rfl | rfl | rfl | rfl | rfl | rfl | rfl | rfl | rfl | rfl | rfl | rfl | rfl | rfl | rfl | rfl <;> first | cases h | (cases x <;> cases h)
  | [_, _] => rfl
  | x :: y :: _ :: _ => rcases hp with rfl | rfl | rfl | rfl | rfl | rfl | rfl | rfl | rfl | rfl | rfl | rfl | rfl | rfl | rfl | rfl | rfl | rfl <;> first | cases h | (cases x <;> first | cases h | (cases y <;> cases h))
section
variable {C : Cg} {X : Cx} {N : List Str} {sc : Scope} {n : Nat}
theorem pe_const {d : D} {k : Const} {kk : Nat} {pos : Pos} (h : constB d k = true) (G : Gd C X N sc) : PE X (.Constant k kk pos) (tE C (n + 1) (.c d)) := by
  have fin : ∀ v, (∀ F, Dn C.K F v d) → PE X (.Constant k kk pos) (tC v) → PE X (.Constant k kk pos) (tE C (n + 1) (.c d)) := fun v dn p =>
    PE.imp p fun σ H Q ⟨F, en, ok, q⟩ => q v F H Go.refl ok (dn F)
  unfold constB at h
  split at h
  · exact fin .non (fun _ => .non) pe_non
  · have e := eq_of_beq h
    subst e
    exact fin (.bl _) (fun _ => .bl _) pe_bl
  · have e := of_decide_eq_true h
    subst e
    exact fin (.int _) (fun _ => .int _) pe_int
  · have e := of_decide_eq_true h
    subst e
    exact fin (.str _) (fun _ => .str _) pe_str
  · cases h
theorem pe_slot {i : Nat} {a : Expr} (h : varB N sc i a = true) (G : Gd C X N sc) : PE X a (tE C (n + 1) (.v i)) := by
  unfold varB at h
  split at h
  · obtain ⟨h1, h3⟩ := and2 h
    obtain ⟨h1, h2⟩ := and2 h1
    obtain ⟨e1, e2⟩ := okName_of h3
    refine PE.imp (pe_var (i := i) (by rw [G.hN]; exact of_decide_eq_true h1) (vis_of G.hs h2) e1 e2) fun σ H Q ⟨F, en, ok, q⟩ => ?_
    have q : Res C σ F H en (match valAt en i with
      | some d => .ok (d, en)
      | none => .bad) Q := q
    cases e : valAt en i with
    | none => rw [e] at q; exact q.elim
    | some d =>
      rw [e] at q
      obtain ⟨v, ev, dn⟩ := ok.val i d (valAt_some.mp e)
      exact ⟨v, ev, q v F H Go.refl ok dn⟩
  · cases h
theorem pe_globE {x : Str} {pos : Pos} (h : (glbB sc x && okName x) = true) (G : Gd C X N sc) : PE X (.Name x pos) (tE C (n + 1) (.g x)) := by
  obtain ⟨h1, h2⟩ := and2 h
  cases e : C.T.glob x with
  | none =>
    refine ⟨fun pins s σ H Q I ⟨F, en, ok, q⟩ => ?_⟩
    have q : Res C σ F H en (match C.T.glob x with
      | some d => .ok (d, en)
      | none => .bad) Q := q
    rw [e] at q
    exact q.elim
  | some d =>
    obtain ⟨v, u, hm, r, dn⟩ := G.glob x d e
    refine PE.imp (pe_glob (glb_of G.hs h1) hm r (okName_of h2).1) fun σ H Q ⟨F, en, ok, q⟩ => ?_
    have q : Res C σ F H en (match C.T.glob x with
      | some d => .ok (d, en)
      | none => .bad) Q := q
    rw [e] at q
    exact q v F H Go.refl ok (by rw [← G.hK]; exact dn F)
theorem test_bind {σ : St} {H : Hp} {t : E} {f : D → En → R (D × En)} {Q : VK} {K : Bool → Hp → Prop} (hf : ∀ d en, (∀ b, d ≠ .bl b) → f d en = .bad)
    (h : ∃ F en, Ok C.B C.K F H σ en ∧ Res C σ F H en ((evE C.T n t en).bind fun p => f p.1 p.2) Q)
    (k : ∀ b F1 H1 en1, Ok C.B C.K F1 H1 σ en1 → Res C σ F1 H1 en1 (f (.bl b) en1) Q → K b H1) : tT C n t σ H K := by
  obtain ⟨F, en, ok, h⟩ := h
  refine ⟨F, en, ok, ?_⟩
  cases r : evE C.T n t en with
  | bad => rw [r] at h; exact h
  | ex c l => rw [r] at h; exact h
  | ok p =>
    rw [r] at h
    have h : Res C σ F H en (f p.1 p.2) Q := h
    cases e : p.1 with
    | bl b =>
      refine ⟨b, e, fun F1 H1 g1 k1 => k b F1 H1 p.2 k1 ?_⟩
      rw [e] at h
      cases r2 : f (.bl b) p.2 with
      | bad => rw [r2] at h; exact h
      | ex c l => rw [r2] at h; exact Wish.mono h g1.sub
      | ok q =>
        rw [r2] at h
        intro v F2 H2 g2 k2 dn
        exact h v F2 H2 (g1.trans g2) k2 dn
    | non => rw [hf p.1 p.2 (fun b z => by rw [e] at z; cases z)] at h; exact h.elim
    | int _ => rw [hf p.1 p.2 (fun b z => by rw [e] at z; cases z)] at h; exact h.elim
    | str _ => rw [hf p.1 p.2 (fun b z => by rw [e] at z; cases z)] at h; exact h.elim
    | tup _ => rw [hf p.1 p.2 (fun b z => by rw [e] at z; cases z)] at h; exact h.elim
    | lst _ => rw [hf p.1 p.2 (fun b z => by rw [e] at z; cases z)] at h; exact h.elim
    | dic _ => rw [hf p.1 p.2 (fun b z => by rw [e] at z; cases z)] at h; exact h.elim
    | exc _ _ => rw [hf p.1 p.2 (fun b z => by rw [e] at z; cases z)] at h; exact h.elim
    | scr _ => rw [hf p.1 p.2 (fun b z => by rw [e] at z; cases z)] at h; exact h.elim
    | cls _ => rw [hf p.1 p.2 (fun b z => by rw [e] at z; cases z)] at h; exact h.elim
theorem test_bindT {σ : St} {H : Hp} {t : E} {f : D → En → R (D × En)} {Q : Bool → Hp → Prop} {K : Bool → Hp → Prop} (hf : ∀ d en, (∀ b, d ≠ .bl b) → f d en = .bad)
    (h : ∃ F en, Ok C.B C.K F H σ en ∧ ResT C σ F H en ((evE C.T n t en).bind fun p => f p.1 p.2) Q)
    (k : ∀ b F1 H1 en1, Ok C.B C.K F1 H1 σ en1 → ResT C σ F1 H1 en1 (f (.bl b) en1) Q → K b H1) : tT C n t σ H K := by
  obtain ⟨F, en, ok, h⟩ := h
  refine ⟨F, en, ok, ?_⟩
  cases r : evE C.T n t en with
  | bad => rw [r] at h; exact h
  | ex c l => rw [r] at h; exact h
  | ok p =>
    rw [r] at h
    have h : ResT C σ F H en (f p.1 p.2) Q := h
    cases e : p.1 with
    | bl b =>
      refine ⟨b, e, fun F1 H1 g1 k1 => k b F1 H1 p.2 k1 ?_⟩
      rw [e] at h
      cases r2 : f (.bl b) p.2 with
      | bad => rw [r2] at h; exact h
      | ex c l => rw [r2] at h; exact Wish.mono h g1.sub
      | ok q =>
        rw [r2] at h
        obtain ⟨b2, e2, h⟩ := h
        exact ⟨b2, e2, fun F2 H2 g2 k2 => h F2 H2 (g1.trans g2) k2⟩
    | non => rw [hf p.1 p.2 (fun b z => by rw [e] at z; cases z)] at h; exact h.elim
    | int _ => rw [hf p.1 p.2 (fun b z => by rw [e] at z; cases z)] at h; exact h.elim
    | str _ => rw [hf p.1 p.2 (fun b z => by rw [e] at z; cases z)] at h; exact h.elim
    | tup _ => rw [hf p.1 p.2 (fun b z => by rw [e] at z; cases z)] at h; exact h.elim
    | lst _ => rw [hf p.1 p.2 (fun b z => by rw [e] at z; cases z)] at h; exact h.elim
    | dic _ => rw [hf p.1 p.2 (fun b z => by rw [e] at z; cases z)] at h; exact h.elim
    | exc _ _ => rw [hf p.1 p.2 (fun b z => by rw [e] at z; cases z)] at h; exact h.elim
    | scr _ => rw [hf p.1 p.2 (fun b z => by rw [e] at z; cases z)] at h; exact h.elim
    | cls _ => rw [hf p.1 p.2 (fun b z => by rw [e] at z; cases z)] at h; exact h.elim
def fAnd (T : Tab) (n : Nat) (b : E) : D → En → R (D × En) := fun d en => match d with
  | .bl true => evE T n b en
  | .bl false => .ok (.bl false, en)
  | _ => .bad
def fOr (T : Tab) (n : Nat) (b : E) : D → En → R (D × En) := fun d en => match d with
  | .bl true => .ok (.bl true, en)
  | .bl false => evE T n b en
  | _ => .bad
def fIte (T : Tab) (n : Nat) (a b : E) : D → En → R (D × En) := fun d en => match d with
  | .bl true => evE T n a en
  | .bl false => evE T n b en
  | _ => .bad
theorem fAnd_bad {T : Tab} {b : E} : ∀ d en, (∀ z, d ≠ .bl z) → fAnd T n b d en = .bad := fun d en h => by
  cases d <;> first | rfl | (rename_i z; exact absurd rfl (h z))
theorem fOr_bad {T : Tab} {b : E} : ∀ d en, (∀ z, d ≠ .bl z) → fOr T n b d en = .bad := fun d en h => by
  cases d <;> first | rfl | (rename_i z; exact absurd rfl (h z))
theorem fIte_bad {T : Tab} {a b : E} : ∀ d en, (∀ z, d ≠ .bl z) → fIte T n a b d en = .bad := fun d en h => by
  cases d <;> first | rfl | (rename_i z; exact absurd rfl (h z))
theorem pe_andE {a b : E} {x y : Expr} {r : List Expr} {pos : Pos} (ha : PE X x (tE C n a)) (hb : PE X (.BoolOp .And (y :: r) pos) (tE C n b)) : PE X (.BoolOp .And (x :: y :: r) pos) (tE C (n + 1) (.and_ a b)) := by
  refine PE.imp (pe_and ha hb) fun σ H Q h => ?_
  refine of_test (n := n) (Q := fun c H1 => if c = true then tE C n b σ H1 Q else Q (.bl false) H1) (test_bind (f := fAnd C.T n b) fAnd_bad h fun c F1 H1 en1 k1 h1 => ?_)
  cases c with
  | true => exact iteT ⟨F1, en1, k1, h1⟩
  | false => exact iteF (h1 (.bl false) F1 H1 Go.refl k1 (.bl _))
theorem pe_orE {a b : E} {x y : Expr} {r : List Expr} {pos : Pos} (ha : PE X x (tE C n a)) (hb : PE X (.BoolOp .Or (y :: r) pos) (tE C n b)) : PE X (.BoolOp .Or (x :: y :: r) pos) (tE C (n + 1) (.or_ a b)) := by
  refine PE.imp (pe_or ha hb) fun σ H Q h => ?_
  refine of_test (n := n) (Q := fun c H1 => if c = true then Q (.bl true) H1 else tE C n b σ H1 Q) (test_bind (f := fOr C.T n b) fOr_bad h fun c F1 H1 en1 k1 h1 => ?_)
  cases c with
  | false => exact iteF ⟨F1, en1, k1, h1⟩
  | true => exact iteT (h1 (.bl true) F1 H1 Go.refl k1 (.bl _))
theorem pt_andE {a b : E} {x y : Expr} {r : List Expr} {pos : Pos} (ha : PT X x (tT C n a)) (hb : PW X (.BoolOp .And (y :: r) pos) (tT C n b)) : PW X (.BoolOp .And (x :: y :: r) pos) (tT C (n + 1) (.and_ a b)) := by
  refine ⟨fun wh pins s σ H Q I h => (pw_and ha hb).run wh pins s σ H Q I ?_⟩
  refine test_bindT (f := fAnd C.T n b) fAnd_bad h fun c F1 H1 en1 k1 h1 => ?_
  cases c with
  | true => exact iteT ⟨F1, en1, k1, h1⟩
  | false =>
    obtain ⟨b, e, q⟩ := h1
    cases e
    exact iteF (q F1 H1 Go.refl k1)
theorem pt_orE {a b : E} {x y : Expr} {r : List Expr} {pos : Pos} (ha : PT X x (tT C n a)) (hb : PW X (.BoolOp .Or (y :: r) pos) (tT C n b)) : PW X (.BoolOp .Or (x :: y :: r) pos) (tT C (n + 1) (.or_ a b)) := by
  refine ⟨fun wh pins s σ H Q I h => (pw_or ha hb).run wh pins s σ H Q I ?_⟩
  refine test_bindT (f := fOr C.T n b) fOr_bad h fun c F1 H1 en1 k1 h1 => ?_
  cases c with
  | false => exact iteF ⟨F1, en1, k1, h1⟩
  | true =>
    obtain ⟨b, e, q⟩ := h1
    cases e
    exact iteT (q F1 H1 Go.refl k1)
theorem pe_iteE {t a b : E} {x y z : Expr} {pos : Pos} (ht : PT X x (tT C n t)) (ha : PE X y (tE C n a)) (hb : PE X z (tE C n b)) : PE X (.IfExp x y z pos) (tE C (n + 1) (.ite t a b)) := by
  refine PE.imp (pe_ifExp ht ha hb) fun σ H Q h => ?_
  refine test_bind (f := fIte C.T n a b) fIte_bad h fun c F1 H1 en1 k1 h1 => ?_
  cases c with
  | true => exact iteT ⟨F1, en1, k1, h1⟩
  | false => exact iteF ⟨F1, en1, k1, h1⟩
end
end Vm
end
section
set_option Elab.async false
set_option linter.all false
set_option maxRecDepth 100000
set_option maxHeartbeats 1000000
namespace Vm
open PySem PySem.Spec PyProof.Rows L2
def ItzM (K : PySem.W.Frag) (a b : Addr) : L2.It :=
  ⟨fun i H => ∃ (xs ys : List V) (x y : V), SqT K H a xs ∧ SqL K H b ys ∧ xs[i]? = some x ∧ ys[i]? = some y, fun i H v H' => ∃ T x y, v = .ref T ∧ H T = none ∧ H' = upd H T (.tup [x, y]) ∧ (∀ xs, SqT K H a xs → xs[i]? = some x) ∧ ∀ ys, SqL K H b ys → ys[i]? = some y, fun i H => ∃ xs ys : List V, SqT K H a xs ∧ SqL K H b ys ∧ (xs.length = i ∧ i ≤ ys.length ∨ ys.length = i ∧ i ≤ xs.length)⟩
theorem turn_zM {P : Program} {w : World} {K : PySem.W.Frag} {elts : List Expr} {kk : Nat} {tpos : Pos} {a b z TI TO u1 u2 : Addr} (S : ZipSep2 z TI TO u1 u2 [u1, a] [u2, b]) (n1 : a ≠ u1) (n2 : b ≠ u2) :
    Turn P w K (.Tuple elts kk tpos) (ItzM K a b) [z, TI, TO, u1, u2] z (fun i h => IsZip h z TI TO .none ∧ IsTupOf2 h TI (.ref u1) (.ref u2) ∧ (∃ x y, IsTupOf2 h TO x y) ∧ h.IsTupleIter u1 a i ∧ h.IsListIter u2 b i) where
  mem := by simp
  obj := fun i h st c hc => by
    obtain ⟨kz, kI, ⟨x, y, kO⟩, ⟨p1, g1, _, d1⟩, ⟨p2, g2, _, d2⟩⟩ := st
    have cases5 : c = z ∨ c = TI ∨ c = TO ∨ c = u1 ∨ c = u2 := by simpa using hc
    rcases cases5 with rfl | rfl | rfl | rfl | rfl
    · exact ⟨_, kz, fun v q => nomatch q⟩
    · exact ⟨_, kI, fun v q => nomatch q⟩
    · exact ⟨_, kO, fun v q => nomatch q⟩
    · exact ⟨p1, g1, fun v q => by rw [d1] at q; cases q⟩
    · exact ⟨p2, g2, fun v q => by rw [d2] at q; cases q⟩
  keep := fun i h h' st k => let ⟨kz, kI, ⟨x, y, kO⟩, j1, j2⟩ := st; ⟨k z (by simp) _ kz, k TI (by simp) _ kI, ⟨x, y, k TO (by simp) _ kO⟩, j1.at fun o q => k u1 (by simp) o q, j2.at fun o q => k u2 (by simp) o q⟩
  item := by
    intro X hP hw hK hc i pins s σ H E I hf st hg
    subst hP hw hK
    obtain ⟨kz, kI, ⟨x0, y0, kO⟩, j1, j2⟩ := st
    obtain ⟨xs, ys, x, y, qx, qy, ex, ey⟩ := hg
    obtain ⟨its, rv, p, _⟩ := I.tuple qx
    obtain ⟨its2, rv2, p2, _⟩ := I.list qy
    obtain ⟨v1, hv1, r1⟩ := rv.get ex
    obtain ⟨v2, hv2, r2⟩ := rv2.get ey
    have zl : z < s.heap.objs.size := Heap.lt_size kz
    have hh : X.A.in1.handled = none := I.ok.hd hc
    have lt1 : i < its.toArray.size := by rw [List.size_toArray]; exact (List.getElem?_eq_some_iff.mp hv1).1
    have lt2 : i < its2.toArray.size := by rw [List.size_toArray]; exact (List.getElem?_eq_some_iff.mp hv2).1
    refine wpAny_pyNext_zipD2_item S (Draws.tuple hh u1 a n1 its.toArray) (Draws.list hh u2 b n2 its2.toArray) kz kI kO ⟨j1, p⟩ ⟨j2, p2.isList⟩ lt1 lt2 fun w1 w2 h' tk e1 e2 z' O' t1 t2 hT hsz hk => ?_
    have g1 : w1 = v1 := by
      have q : its.toArray[i]? = some v1 := by simpa using hv1
      have e1 : its.toArray[i]? = some w1 := e1
      rw [q] at e1
      exact (Option.some.inj e1).symm
    have g2 : w2 = v2 := by
      have q : its2.toArray[i]? = some v2 := by simpa using hv2
      have e2 : its2.toArray[i]? = some w2 := e2
      rw [q] at e2
      exact (Option.some.inj e2).symm
    subst g1 g2
    refine ⟨_, rfl, wpAny_letOwnedTupleGo_zip (s := { s with heap := h', toks := tk }) z' fun h'' z'' sb => ?_⟩
    have hT2 : h''.get? s.heap.objs.size = some { cls := .type "tuple", data := .seq #[w1, w2] } := (sb.2 _ (Nat.ne_of_gt zl)).trans hT
    have new : ObjOk X.prog X.w (upd H s.heap.objs.size (.tup [x, y])) h'' s.heap.objs.size (.tup [x, y]) := ⟨by show 2 ≤ sizeLine; decide, [w1, w2], .cons r1 (.cons r2 .nil), ⟨_, hT2, rfl, _, rfl⟩⟩
    have I1 : Inv X pins σ (upd H s.heap.objs.size (.tup [x, y])) { s with heap := h'', toks := tk } :=
      I.turnedNew (ch := [z, TI, TO, u1, u2]) (fun c o hb q => (sb.2 c (fun m => hb (by simp [m]))).trans (hk c o (fun m => hb (by simp [m])) (fun m => hb (by simp [m])) (fun m => hb (by simp [m])) (fun m => hb (by simp [m])) q)) hf (Nat.le_refl _) new
    have nz1 : u1 ≠ z := fun m => S.zf1 (by rw [← m]; exact S.mem1)
    have nz2 : u2 ≠ z := fun m => S.zf2 (by rw [← m]; exact S.mem2)
    refine ⟨.ref s.heap.objs.size, _, I1, rfl, ⟨_, x, y, rfl, I.hok.fresh (Nat.le_refl _), rfl, fun l hl => by rw [I.tuple_inj hl qx]; exact ex, fun l hl => by rw [I.list_inj hl qy]; exact ey⟩, ⟨z'', (sb.2 _ S.TIz).trans (hk _ _ S.TIz S.TITO S.TIi1 S.TIi2 kI), ⟨w1, w2, (sb.2 _ S.TOz).trans O'⟩, t1.1.at fun o q => (sb.2 _ nz1).trans q, t2.1.at fun o q => (sb.2 _ nz2).trans q⟩, fun c hcm => ?_⟩
    have lt : c < s.heap.objs.size := by
      have cases5 : c = z ∨ c = TI ∨ c = TO ∨ c = u1 ∨ c = u2 := by simpa using hcm
      rcases cases5 with rfl | rfl | rfl | rfl | rfl
      · exact zl
      · exact Heap.lt_size kI
      · exact Heap.lt_size kO
      · exact let ⟨_, q, _⟩ := j1; Heap.lt_size q
      · exact let ⟨_, q, _⟩ := j2; Heap.lt_size q
    rw [upd_ne (Nat.ne_of_lt lt)]
    exact (hf c hcm).1
  done := by
    intro X hP hw hK hc i pins s σ H E I hf st hg
    subst hP hw hK
    obtain ⟨kz, kI, ⟨x0, y0, kO⟩, j1, j2⟩ := st
    obtain ⟨xs, ys, qx, qy, fin⟩ := hg
    obtain ⟨its, rv, p, _⟩ := I.tuple qx
    obtain ⟨its2, rv2, p2, _⟩ := I.list qy
    have m1 := rv.length
    have m2 := rv2.length
    have hh : X.A.in1.handled = none := I.ok.hd hc
    refine wpAny_pyNext_zipD2_end S (Draws.tuple hh u1 a n1 its.toArray) (Draws.list hh u2 b n2 its2.toArray) kz kI kO ⟨j1, p⟩ ⟨j2, p2.isList⟩ (by rw [List.size_toArray]; omega) (by rw [List.size_toArray]; omega) (by rw [List.size_toArray, List.size_toArray]; omega) fun h' tk hk => ⟨rfl, ?_⟩
    exact I.turnedL (t' := tk) (ch := [z, TI, TO, u1, u2]) (fun c o hb q => hk c o (fun m => hb (by simp [m])) (fun m => hb (by simp [m])) (fun m => hb (by simp [m])) (fun m => hb (by simp [m])) q) hf
  self := fun A i s Q E st h => wpAny_pyIter_zip st.1 h
def ItzN (K : PySem.W.Frag) (a b : Addr) : L2.It :=
  ⟨fun i H => ∃ (xs ys : List V) (x y : V), SqL K H a xs ∧ SqT K H b ys ∧ xs[i]? = some x ∧ ys[i]? = some y, fun i H v H' => ∃ T x y, v = .ref T ∧ H T = none ∧ H' = upd H T (.tup [x, y]) ∧ (∀ xs, SqL K H a xs → xs[i]? = some x) ∧ ∀ ys, SqT K H b ys → ys[i]? = some y, fun i H => ∃ xs ys : List V, SqL K H a xs ∧ SqT K H b ys ∧ (xs.length = i ∧ i ≤ ys.length ∨ ys.length = i ∧ i ≤ xs.length)⟩
theorem turn_zN {P : Program} {w : World} {K : PySem.W.Frag} {elts : List Expr} {kk : Nat} {tpos : Pos} {a b z TI TO u1 u2 : Addr} (S : ZipSep2 z TI TO u1 u2 [u1, a] [u2, b]) (n1 : a ≠ u1) (n2 : b ≠ u2) :
    Turn P w K (.Tuple elts kk tpos) (ItzN K a b) [z, TI, TO, u1, u2] z (fun i h => IsZip h z TI TO .none ∧ IsTupOf2 h TI (.ref u1) (.ref u2) ∧ (∃ x y, IsTupOf2 h TO x y) ∧ h.IsListIter u1 a i ∧ h.IsTupleIter u2 b i) where
  mem := by simp
  obj := fun i h st c hc => by
    obtain ⟨kz, kI, ⟨x, y, kO⟩, ⟨p1, g1, _, d1⟩, ⟨p2, g2, _, d2⟩⟩ := st
    have cases5 : c = z ∨ c = TI ∨ c = TO ∨ c = u1 ∨ c = u2 := by simpa using hc
    rcases cases5 with rfl | rfl | rfl | rfl | rfl
    · exact ⟨_, kz, fun v q => nomatch q⟩
    · exact ⟨_, kI, fun v q => nomatch q⟩
    · exact ⟨_, kO, fun v q => nomatch q⟩
    · exact ⟨p1, g1, fun v q => by rw [d1] at q; cases q⟩
    · exact ⟨p2, g2, fun v q => by rw [d2] at q; cases q⟩
  keep := fun i h h' st k => let ⟨kz, kI, ⟨x, y, kO⟩, j1, j2⟩ := st; ⟨k z (by simp) _ kz, k TI (by simp) _ kI, ⟨x, y, k TO (by simp) _ kO⟩, j1.at fun o q => k u1 (by simp) o q, j2.at fun o q => k u2 (by simp) o q⟩
  item := by
    intro X hP hw hK hc i pins s σ H E I hf st hg
    subst hP hw hK
    obtain ⟨kz, kI, ⟨x0, y0, kO⟩, j1, j2⟩ := st
    obtain ⟨xs, ys, x, y, qx, qy, ex, ey⟩ := hg
    obtain ⟨its, rv, p, _⟩ := I.list qx
    obtain ⟨its2, rv2, p2, _⟩ := I.tuple qy
    obtain ⟨v1, hv1, r1⟩ := rv.get ex
    obtain ⟨v2, hv2, r2⟩ := rv2.get ey
    have zl : z < s.heap.objs.size := Heap.lt_size kz
    have hh : X.A.in1.handled = none := I.ok.hd hc
    have lt1 : i < its.toArray.size := by rw [List.size_toArray]; exact (List.getElem?_eq_some_iff.mp hv1).1
    have lt2 : i < its2.toArray.size := by rw [List.size_toArray]; exact (List.getElem?_eq_some_iff.mp hv2).1
    refine wpAny_pyNext_zipD2_item S (Draws.list hh u1 a n1 its.toArray) (Draws.tuple hh u2 b n2 its2.toArray) kz kI kO ⟨j1, p.isList⟩ ⟨j2, p2⟩ lt1 lt2 fun w1 w2 h' tk e1 e2 z' O' t1 t2 hT hsz hk => ?_
    have g1 : w1 = v1 := by
      have q : its.toArray[i]? = some v1 := by simpa using hv1
      have e1 : its.toArray[i]? = some w1 := e1
      rw [q] at e1
      exact (Option.some.inj e1).symm
    have g2 : w2 = v2 := by
      have q : its2.toArray[i]? = some v2 := by simpa using hv2
      have e2 : its2.toArray[i]? = some w2 := e2
      rw [q] at e2
      exact (Option.some.inj e2).symm
    subst g1 g2
    refine ⟨_, rfl, wpAny_letOwnedTupleGo_zip (s := { s with heap := h', toks := tk }) z' fun h'' z'' sb => ?_⟩
    have hT2 : h''.get? s.heap.objs.size = some { cls := .type "tuple", data := .seq #[w1, w2] } := (sb.2 _ (Nat.ne_of_gt zl)).trans hT
    have new : ObjOk X.prog X.w (upd H s.heap.objs.size (.tup [x, y])) h'' s.heap.objs.size (.tup [x, y]) := ⟨by show 2 ≤ sizeLine; decide, [w1, w2], .cons r1 (.cons r2 .nil), ⟨_, hT2, rfl, _, rfl⟩⟩
    have I1 : Inv X pins σ (upd H s.heap.objs.size (.tup [x, y])) { s with heap := h'', toks := tk } :=
      I.turnedNew (ch := [z, TI, TO, u1, u2]) (fun c o hb q => (sb.2 c (fun m => hb (by simp [m]))).trans (hk c o (fun m => hb (by simp [m])) (fun m => hb (by simp [m])) (fun m => hb (by simp [m])) (fun m => hb (by simp [m])) q)) hf (Nat.le_refl _) new
    have nz1 : u1 ≠ z := fun m => S.zf1 (by rw [← m]; exact S.mem1)
    have nz2 : u2 ≠ z := fun m => S.zf2 (by rw [← m]; exact S.mem2)
    refine ⟨.ref s.heap.objs.size, _, I1, rfl, ⟨_, x, y, rfl, I.hok.fresh (Nat.le_refl _), rfl, fun l hl => by rw [I.list_inj hl qx]; exact ex, fun l hl => by rw [I.tuple_inj hl qy]; exact ey⟩, ⟨z'', (sb.2 _ S.TIz).trans (hk _ _ S.TIz S.TITO S.TIi1 S.TIi2 kI), ⟨w1, w2, (sb.2 _ S.TOz).trans O'⟩, t1.1.at fun o q => (sb.2 _ nz1).trans q, t2.1.at fun o q => (sb.2 _ nz2).trans q⟩, fun c hcm => ?_⟩
    have lt : c < s.heap.objs.size := by
      have cases5 : c = z ∨ c = TI ∨ c = TO ∨ c = u1 ∨ c = u2 := by simpa using hcm
      rcases cases5 with rfl | rfl | rfl | rfl | rfl
      · exact zl
      · exact Heap.lt_size kI
      · exact Heap.lt_size kO
      · exact let ⟨_, q, _⟩ := j1; Heap.lt_size q
      · exact let ⟨_, q, _⟩ := j2; Heap.lt_size q
    rw [upd_ne (Nat.ne_of_lt lt)]
    exact (hf c hcm).1
  done := by
    intro X hP hw hK hc i pins s σ H E I hf st hg
    subst hP hw hK
    obtain ⟨kz, kI, ⟨x0, y0, kO⟩, j1, j2⟩ := st
    obtain ⟨xs, ys, qx, qy, fin⟩ := hg
    obtain ⟨its, rv, p, _⟩ := I.list qx
    obtain ⟨its2, rv2, p2, _⟩ := I.tuple qy
    have m1 := rv.length
    have m2 := rv2.length
    have hh : X.A.in1.handled = none := I.ok.hd hc
    refine wpAny_pyNext_zipD2_end S (Draws.list hh u1 a n1 its.toArray) (Draws.tuple hh u2 b n2 its2.toArray) kz kI kO ⟨j1, p.isList⟩ ⟨j2, p2⟩ (by rw [List.size_toArray]; omega) (by rw [List.size_toArray]; omega) (by rw [List.size_toArray, List.size_toArray]; omega) fun h' tk hk => ⟨rfl, ?_⟩
    exact I.turnedL (t' := tk) (ch := [z, TI, TO, u1, u2]) (fun c o hb q => hk c o (fun m => hb (by simp [m])) (fun m => hb (by simp [m])) (fun m => hb (by simp [m])) (fun m => hb (by simp [m])) q) hf
  self := fun A i s Q E st h => wpAny_pyIter_zip st.1 h
def iZM (K : PySem.W.Frag) (ta : TA) : TI := fun σ H R => ta σ H fun vs H1 => ∃ a b xs ys, vs = [.ref a, .ref b] ∧ ((SqL K H1 a xs ∧ SqL K H1 b ys ∧ R (Itz K a b) H1) ∨ (SqT K H1 a xs ∧ SqT K H1 b ys ∧ R (RZ.ItzT K a b) H1) ∨ (SqT K H1 a xs ∧ SqL K H1 b ys ∧ R (ItzM K a b) H1) ∨ (SqL K H1 a xs ∧ SqT K H1 b ys ∧ R (ItzN K a b) H1))
theorem not2 {x y c : Nat} (h1 : x ≠ y) (h2 : x ≠ c) : (x : Addr) ∉ ([y, c] : List Addr) := fun m => by
  rcases List.mem_cons.mp m with e | e
  · exact h1 e
  · exact h2 (List.mem_singleton.mp e)
theorem sep_new {n a b : Nat} (ha : a < n) (hb : b < n) : ZipSep2 (n + 4) (n + 2) (n + 3) n (n + 1) [n, a] [n + 1, b] where
  TIz := show @Ne Nat (n + 2) (n + 4) by omega
  TOz := show @Ne Nat (n + 3) (n + 4) by omega
  TITO := show @Ne Nat (n + 2) (n + 3) by omega
  TIi1 := show @Ne Nat (n + 2) n by omega
  mem1 := List.mem_cons_self
  zf1 := not2 (by omega) (by omega)
  Tf1 := not2 (by omega) (by omega)
  TIi2 := show @Ne Nat (n + 2) (n + 1) by omega
  mem2 := List.mem_cons_self
  zf2 := not2 (by omega) (by omega)
  Tf2 := not2 (by omega) (by omega)
  sep1_2 := not2 (by omega) (by omega)
  sep2_1 := not2 (by omega) (by omega)
theorem pi_zM {X : Cx} {e e2 : Expr} {ta : TA} {p pos tpos : Pos} {elts : List Expr} {kk : Nat} (hg : Gl X "zip") (hm : X.mg "zip" = none) (ha : PA X [e, e2] ta)
    (hs : starEach [e, e2] X.env = (false, eval e X.env) :: starEach [e2] X.env) (hpl : (backTo pos (starEach [e2] X.env)).any (·.1) = false) : PI X (.Tuple elts kk tpos) (.Call (.Name "zip" p) [e, e2] [] pos) (iZM X.K ta) := by
  refine ⟨fun pins s σ H R I h => ?_⟩
  refine Call_ (ld_blt I hg hm boot_zip (callWith_type1 (thn (ha.run pos pins s σ H _ I h) fun us s1 ⟨vs, H1, I1, r1, q1⟩ => ?_) hs hpl))
  obtain ⟨a, b, xs, ys, ex, q1⟩ := q1
  subst ex
  cases r1 with
  | cons r rr =>
   cases rr with
   | cons r' rr =>
    cases rr
    cases r
    cases r'
    have le5 : ∀ c ∈ [s1.heap.objs.size + 4, s1.heap.objs.size + 2, s1.heap.objs.size + 3, s1.heap.objs.size, s1.heap.objs.size + 1], s1.heap.objs.size ≤ c := fun c hcm => by
      simp only [List.mem_cons, List.not_mem_nil, or_false] at hcm
      omega
    have fps : ∀ c ∈ [s1.heap.objs.size + 4, s1.heap.objs.size + 2, s1.heap.objs.size + 3, s1.heap.objs.size, s1.heap.objs.size + 1], FpOk X pins H1 c := fun c hcm => I1.fpOk (le5 c hcm) (I1.hok.fresh (le5 c hcm))
    rcases q1 with ⟨qx, qy, q⟩ | ⟨qx, qy, q⟩ | ⟨qx, qy, q⟩ | ⟨qx, qy, q⟩
    · obtain ⟨its, rv, p1, _⟩ := I1.list qx
      obtain ⟨its2, rv2, p2, _⟩ := I1.list qy
      refine call_zip_2 p1.isList p2.isList fun h' kz kI kO j1 j2 hsz hk => wpAny_pyIter_zip kz ?_
      have I2 : Inv X pins σ H1 { s1 with heap := h' } := I1.kept (t' := s1.toks) hk
      exact ⟨s1.heap.objs.size + 4, _, _, _, H1, rfl, I2, turn_zip (PySem.W.ktu_apart s1.heap.objs.size a b p1.lt p2.lt), ⟨kz, kI, ⟨_, _, kO⟩, j1, j2⟩, fps, q⟩
    · obtain ⟨its, rv, p1, _⟩ := I1.tuple qx
      obtain ⟨its2, rv2, p2, _⟩ := I1.tuple qy
      have l1 : a < s1.heap.objs.size := let ⟨_, q, _⟩ := id p1; Heap.lt_size q
      have l2 : b < s1.heap.objs.size := let ⟨_, q, _⟩ := id p2; Heap.lt_size q
      refine RZ.call_zipT (show s1.heap.IsTuple a its.toArray from p1) (show s1.heap.IsTuple b its2.toArray from p2) fun h' kz kI kO j1 j2 hsz hk => wpAny_pyIter_zip kz ?_
      have I2 : Inv X pins σ H1 { s1 with heap := h' } := I1.kept (t' := s1.toks) hk
      exact ⟨s1.heap.objs.size + 4, _, _, _, H1, rfl, I2, RZ.turn_zipT (PySem.W.ktu_apart s1.heap.objs.size a b l1 l2), ⟨kz, kI, ⟨_, _, kO⟩, j1, j2⟩, fps, q⟩
    · obtain ⟨its, rv, p1, _⟩ := I1.tuple qx
      obtain ⟨its2, rv2, p2, _⟩ := I1.list qy
      have l1 : a < s1.heap.objs.size := let ⟨_, q, _⟩ := id p1; Heap.lt_size q
      refine zip_begins2 (begins_tuple a its.toArray) (begins_list b its2.toArray) p1 p2.isList fun h' kz kI kO j1 j2 hsz hk => wpAny_pyIter_zip kz ?_
      have I2 : Inv X pins σ H1 { s1 with heap := h' } := I1.kept (t' := s1.toks) hk
      exact ⟨s1.heap.objs.size + 4, _, _, _, H1, rfl, I2, turn_zM (sep_new l1 p2.lt) (Nat.ne_of_lt l1) (Nat.ne_of_lt (Nat.lt_succ_of_lt p2.lt)), ⟨kz, kI, ⟨_, _, kO⟩, ⟨_, j1, rfl, rfl⟩, ⟨_, j2, rfl, rfl⟩⟩, fps, q⟩
    · obtain ⟨its, rv, p1, _⟩ := I1.list qx
      obtain ⟨its2, rv2, p2, _⟩ := I1.tuple qy
      have l2 : b < s1.heap.objs.size := let ⟨_, q, _⟩ := id p2; Heap.lt_size q
      refine zip_begins2 (begins_list a its.toArray) (begins_tuple b its2.toArray) p1.isList p2 fun h' kz kI kO j1 j2 hsz hk => wpAny_pyIter_zip kz ?_
      have I2 : Inv X pins σ H1 { s1 with heap := h' } := I1.kept (t' := s1.toks) hk
      exact ⟨s1.heap.objs.size + 4, _, _, _, H1, rfl, I2, turn_zN (sep_new p1.lt l2) (Nat.ne_of_lt p1.lt) (Nat.ne_of_lt (Nat.lt_succ_of_lt l2)), ⟨kz, kI, ⟨_, _, kO⟩, ⟨_, j1, rfl, rfl⟩, ⟨_, j2, rfl, rfl⟩⟩, fps, q⟩
end Vm
end
section
set_option Elab.async false
set_option linter.all false
set_option maxRecDepth 100000
namespace Vm
open PySem PySem.Spec L2
section
variable {C : Cg} {X : Cx} {N : List Str} {sc : Scope} {n : Nat}
def tLs (C : Cg) (n : Nat) : List E → TA
  | [] => tNil
  | e :: es => tCons (tE C n e) (tLs C n es)
def ResL (C : Cg) (σ : St) (F H : Hp) (en : En) (r : R (List D × En)) (Q : List V → Hp → Prop) : Prop := match r with
  | .ok p => ∀ vs F' H', Go σ F H en F' H' p.2 → Ok C.B C.K F' H' σ p.2 → DnA C.K F' vs p.1 → Q vs H'
  | .ex c l => Wish C σ F c l
  | .bad => False
theorem list_run {σ : St} : ∀ (l : List E) {F H : Hp} {en : En} {Q : List V → Hp → Prop}, Ok C.B C.K F H σ en → ResL C σ F H en (evList (evE C.T n) l en) Q → tLs C n l σ H Q
  | [], F, H, en, Q, k, h => h [] F H Go.refl k .nil
  | e :: es, F, H, en, Q, k, h => by
    refine ⟨F, en, k, ?_⟩
    have h : ResL C σ F H en ((evE C.T n e en).bind fun p => (evList (evE C.T n) es p.2).bind fun q => .ok (p.1 :: q.1, q.2)) Q := h
    cases r : evE C.T n e en with
    | bad => rw [r] at h; exact h
    | ex c l => rw [r] at h; exact h
    | ok p =>
      rw [r] at h
      intro v F1 H1 g1 k1 a1
      refine list_run es k1 ?_
      have h : ResL C σ F H en ((evList (evE C.T n) es p.2).bind fun q => .ok (p.1 :: q.1, q.2)) Q := h
      cases r2 : evList (evE C.T n) es p.2 with
      | bad => rw [r2] at h; exact h
      | ex c l => rw [r2] at h; exact Wish.mono h g1.sub
      | ok q =>
        rw [r2] at h
        intro vs F2 H2 g2 k2 a2
        exact h (v :: vs) F2 H2 (g1.trans g2) k2 (.cons (a1.up g2.sub) a2)
theorem pa_L {df : Str → List D} (ih : Sx C X n df N sc) : ∀ {l : List E} {es : List Expr}, matL (matE n df N sc) l es = true → PA X es (tLs C n l)
  | [], [], _ => pa_nil
  | c :: cs, a :: as, h => by
    obtain ⟨h1, h2⟩ := and2 h
    exact pa_cons (ih _ _ h1).1 (pa_L ih h2) ((ev_ok h1).1 _ _)
  | [], _ :: _, h => by cases h
  | _ :: _, [], h => by cases h
def Wk (K : PySem.W.Frag) (F : Hp) (J : L2.It) (xs : List D) : Prop := ∀ (i : Nat) (F' H' : Hp), Same F F' → Same F' H' →
  (∀ d, xs[i]? = some d → J.go i H' ∧ ∀ x H'', J.yld i H' x H'' → ∃ F'', Px F' H' F'' H'' ∧ Dn K F'' x d) ∧ (xs.length = i → J.stop i H')
theorem wk_list {K : PySem.W.Frag} {F : Hp} {a : Addr} {us : List V} {ds : List D} (h : F a = some (.lst us)) (dn : DnA K F us ds) : Wk K F (Itl K a) ds := fun i F' H' s s' => by
  have hs : SqL K H' a us := SqL.of (s' _ _ (s _ _ h))
  refine ⟨fun d e => ?_, fun e => ⟨us, hs, by rw [dn.len]; exact Nat.le_of_eq e⟩⟩
  obtain ⟨v, hv, dv⟩ := dn.getD e
  refine ⟨⟨us, v, hs, hv⟩, fun x H'' y => ?_⟩
  obtain ⟨e1, y⟩ := y
  subst e1
  have e2 := y us hs
  rw [hv] at e2
  cases e2
  exact ⟨F', Px.refl s', dv.up s⟩
theorem wk_tup {K : PySem.W.Frag} {F : Hp} {a : Addr} {us : List V} {ds : List D} (h : SqT K F a us) (dn : DnA K F us ds) : Wk K F (Itt K a) ds := fun i F' H' s s' => by
  have hs : SqT K H' a us := sqT_sub s' (sqT_sub s h)
  refine ⟨fun d e => ?_, fun e => ⟨us, hs, by rw [dn.len]; exact Nat.le_of_eq e⟩⟩
  obtain ⟨v, hv, dv⟩ := dn.getD e
  refine ⟨⟨us, v, hs, hv⟩, fun x H'' y => ?_⟩
  obtain ⟨e1, y⟩ := y
  subst e1
  have e2 := y us hs
  rw [hv] at e2
  cases e2
  exact ⟨F', Px.refl s', dv.up s⟩
theorem wk_str {K : PySem.W.Frag} {F : Hp} {x : Str} : Wk K F (Its x) (chrsD x) := fun i F' H' s s' => by
  have len : (chrsD x).length = x.cps.size := by unfold chrsD; rw [List.length_map, Array.length_toList]
  refine ⟨fun d e => ?_, fun e => by rw [len] at e; exact Nat.le_of_eq e⟩
  unfold chrsD at e
  rw [List.getElem?_map] at e
  obtain ⟨c, h1, h2⟩ := Option.map_eq_some_iff.mp e
  rw [Array.getElem?_toList] at h1
  have lt : i < x.cps.size := (Array.getElem?_eq_some_iff.mp h1).1
  refine ⟨lt, fun v H'' y => ?_⟩
  obtain ⟨e1, c', e2, e3⟩ := y
  rw [h1] at e2
  cases e2
  subst e1; subst e3; subst h2
  exact ⟨F', Px.refl s', .str _⟩
theorem rngD_get {lo : Int} {m i : Nat} {d : D} (h : (rngD lo m)[i]? = some d) : i < m ∧ d = .int (lo + i) := by
  unfold rngD at h
  rw [List.getElem?_map] at h
  obtain ⟨j, h1, h2⟩ := Option.map_eq_some_iff.mp h
  obtain ⟨h3, h4⟩ := List.getElem?_eq_some_iff.mp h1
  rw [List.length_range] at h3
  rw [List.getElem_range] at h4
  subst h4
  exact ⟨h3, h2.symm⟩
theorem rngD_len (lo : Int) (m : Nat) : (rngD lo m).length = m := by unfold rngD; rw [List.length_map, List.length_range]
theorem wk_rng {K : PySem.W.Frag} {F : Hp} {lo : Int} {m : Nat} : Wk K F (Itr lo m) (rngD lo m) := fun i F' H' s s' => by
  refine ⟨fun d e => ?_, fun e => by rw [rngD_len] at e; exact Nat.le_of_eq e⟩
  obtain ⟨h1, h2⟩ := rngD_get e
  refine ⟨h1, fun x H'' y => ?_⟩
  obtain ⟨e1, e2⟩ := y
  subst e1; subst e2; subst h2
  exact ⟨F', Px.refl s', .int _⟩
theorem rngDn_get {lo c : Int} {m i : Nat} {d : D} (h : (rngDn lo c m)[i]? = some d) : i < m ∧ d = .int (lo + (i : Int) * c) := by
  unfold rngDn at h
  rw [List.getElem?_map] at h
  obtain ⟨j, h1, h2⟩ := Option.map_eq_some_iff.mp h
  obtain ⟨h3, h4⟩ := List.getElem?_eq_some_iff.mp h1
  rw [List.length_range] at h3
  rw [List.getElem_range] at h4
  subst h4
  exact ⟨h3, h2.symm⟩
theorem rngDn_len (lo c : Int) (m : Nat) : (rngDn lo c m).length = m := by unfold rngDn; rw [List.length_map, List.length_range]
theorem wk_rngn {K : PySem.W.Frag} {F : Hp} {lo c : Int} {m : Nat} : Wk K F (Itc lo c m) (rngDn lo c m) := fun i F' H' s s' => by
  refine ⟨fun d e => ?_, fun e => by rw [rngDn_len] at e; exact Nat.le_of_eq e⟩
  obtain ⟨h1, h2⟩ := rngDn_get e
  refine ⟨h1, fun x H'' y => ?_⟩
  obtain ⟨e1, e2⟩ := y
  subst e1; subst e2; subst h2
  exact ⟨F', Px.refl s', .int _⟩
theorem enumD_get : ∀ (ds : List D) (k i : Nat), (enumD k ds)[i]? = (ds[i]?).map fun d => .tup [.int ((k + i : Nat) : Int), d]
  | [], k, i => by unfold enumD; simp
  | d :: ds, k, 0 => by unfold enumD; simp
  | d :: ds, k, i + 1 => by
    unfold enumD
    rw [List.getElem?_cons_succ, List.getElem?_cons_succ, enumD_get ds (k + 1) i, show k + 1 + i = k + (i + 1) by omega]
theorem enumD_len : ∀ (ds : List D) (k : Nat), (enumD k ds).length = ds.length
  | [], _ => rfl
  | d :: ds, k => by unfold enumD; rw [List.length_cons, List.length_cons, enumD_len ds]
theorem wk_enum {K : PySem.W.Frag} {F : Hp} {a : Addr} {us : List V} {ds : List D} (h : F a = some (.lst us)) (dn : DnA K F us ds) : Wk K F (Ite K a) (enumD 0 ds) := fun i F' H' s s' => by
  have hs : SqL K H' a us := SqL.of (s' _ _ (s _ _ h))
  refine ⟨fun d e => ?_, fun e => ⟨us, hs, by rw [enumD_len] at e; rw [dn.len]; exact Nat.le_of_eq e⟩⟩
  rw [enumD_get] at e
  obtain ⟨d0, e0, e1⟩ := Option.map_eq_some_iff.mp e
  obtain ⟨v, hv, dv⟩ := dn.getD e0
  refine ⟨⟨us, v, hs, hv⟩, fun x H'' y => ?_⟩
  obtain ⟨T, x', rfl, hT, rfl, y⟩ := y
  have e2 := y us hs
  rw [hv] at e2
  cases e2
  subst e1
  refine ⟨upd F' T (.tup [.int i, v]), Px.add s' hT, .tup (SqT.of upd_same) (.cons ?_ (.cons ((dv.up s).up (Px.add s' hT (o := .tup [.int i, v])).sub) .nil))⟩
  rw [Nat.zero_add]
  exact .int _
theorem wk_enumT {K : PySem.W.Frag} {F : Hp} {a : Addr} {us : List V} {ds : List D} (h : SqT K F a us) (dn : DnA K F us ds) : Wk K F (IteT K a) (enumD 0 ds) := fun i F' H' s s' => by
  have hs : SqT K H' a us := sqT_sub s' (sqT_sub s h)
  refine ⟨fun d e => ?_, fun e => ⟨us, hs, by rw [enumD_len] at e; rw [dn.len]; exact e⟩⟩
  rw [enumD_get] at e
  obtain ⟨d0, e0, e1⟩ := Option.map_eq_some_iff.mp e
  obtain ⟨v, hv, dv⟩ := dn.getD e0
  refine ⟨⟨us, v, hs, hv⟩, fun x H'' y => ?_⟩
  obtain ⟨T, x', rfl, hT, rfl, y⟩ := y
  have e2 := y us hs
  rw [hv] at e2
  cases e2
  subst e1
  refine ⟨upd F' T (.tup [.int i, v]), Px.add s' hT, .tup (SqT.of upd_same) (.cons ?_ (.cons ((dv.up s).up (Px.add s' hT (o := .tup [.int i, v])).sub) .nil))⟩
  rw [Nat.zero_add]
  exact .int _
theorem zipD_get : ∀ (l m : List D) (i : Nat) (d : D), (zipD l m)[i]? = some d → ∃ a b, l[i]? = some a ∧ m[i]? = some b ∧ d = .tup [a, b]
  | [], _, _, _, h => by unfold zipD at h; simp at h
  | _ :: _, [], _, _, h => by unfold zipD at h; simp at h
  | a :: l, b :: m, 0, d, h => by
    unfold zipD at h
    exact ⟨a, b, rfl, rfl, (Option.some.inj h).symm⟩
  | a :: l, b :: m, i + 1, d, h => by
    unfold zipD at h
    exact zipD_get l m i d (by simpa using h)
theorem zipD_len : ∀ l m : List D, (zipD l m).length = min l.length m.length
  | [], _ => by unfold zipD; simp
  | _ :: _, [] => by unfold zipD; simp
  | a :: l, b :: m => by unfold zipD; rw [List.length_cons, zipD_len l m, List.length_cons, List.length_cons]; omega
theorem wk_zipL {K : PySem.W.Frag} {F : Hp} {a b : Addr} {us vs : List V} {ds es : List D} (h : F a = some (.lst us)) (dn : DnA K F us ds) (h2 : F b = some (.lst vs)) (dn2 : DnA K F vs es) : Wk K F (Itz K a b) (zipD ds es) := fun i F' H' s s' => by
  have hs : SqL K H' a us := SqL.of (s' _ _ (s _ _ h))
  have hs2 : SqL K H' b vs := SqL.of (s' _ _ (s _ _ h2))
  refine ⟨fun d e => ?_, fun e => ⟨us, vs, hs, hs2, by rw [zipD_len] at e; rw [dn.len, dn2.len]; omega⟩⟩
  obtain ⟨d1, d2, e1, e2, rfl⟩ := zipD_get ds es i d e
  obtain ⟨v, hv, dv⟩ := dn.getD e1
  obtain ⟨v2, hv2, dv2⟩ := dn2.getD e2
  refine ⟨⟨us, vs, v, v2, hs, hs2, hv, hv2⟩, fun x H'' y => ?_⟩
  obtain ⟨T, x1, x2, rfl, hT, rfl, y1, y2⟩ := y
  have q1 := y1 us hs
  have q2 := y2 vs hs2
  rw [hv] at q1; rw [hv2] at q2
  cases q1; cases q2
  have up := (Px.add s' hT (o := .tup [v, v2])).sub
  exact ⟨upd F' T (.tup [v, v2]), Px.add s' hT, .tup (SqT.of upd_same) (.cons ((dv.up s).up up) (.cons ((dv2.up s).up up) .nil))⟩
theorem wk_zipT {K : PySem.W.Frag} {F : Hp} {a b : Addr} {us vs : List V} {ds es : List D} (h : SqT K F a us) (dn : DnA K F us ds) (h2 : SqT K F b vs) (dn2 : DnA K F vs es) : Wk K F (RZ.ItzT K a b) (zipD ds es) := fun i F' H' s s' => by
  have hs : SqT K H' a us := sqT_sub s' (sqT_sub s h)
  have hs2 : SqT K H' b vs := sqT_sub s' (sqT_sub s h2)
  refine ⟨fun d e => ?_, fun e => ⟨us, vs, hs, hs2, by rw [zipD_len] at e; rw [dn.len, dn2.len]; omega⟩⟩
  obtain ⟨d1, d2, e1, e2, rfl⟩ := zipD_get ds es i d e
  obtain ⟨v, hv, dv⟩ := dn.getD e1
  obtain ⟨v2, hv2, dv2⟩ := dn2.getD e2
  refine ⟨⟨us, vs, v, v2, hs, hs2, hv, hv2⟩, fun x H'' y => ?_⟩
  obtain ⟨T, x1, x2, rfl, hT, rfl, y1, y2⟩ := y
  have q1 := y1 us hs
  have q2 := y2 vs hs2
  rw [hv] at q1; rw [hv2] at q2
  cases q1; cases q2
  have up := (Px.add s' hT (o := .tup [v, v2])).sub
  exact ⟨upd F' T (.tup [v, v2]), Px.add s' hT, .tup (SqT.of upd_same) (.cons ((dv.up s).up up) (.cons ((dv2.up s).up up) .nil))⟩
theorem wk_zipM {K : PySem.W.Frag} {F : Hp} {a b : Addr} {us vs : List V} {ds es : List D} (h : SqT K F a us) (dn : DnA K F us ds) (h2 : F b = some (.lst vs)) (dn2 : DnA K F vs es) : Wk K F (ItzM K a b) (zipD ds es) := fun i F' H' s s' => by
  have hs : SqT K H' a us := sqT_sub s' (sqT_sub s h)
  have hs2 : SqL K H' b vs := SqL.of (s' _ _ (s _ _ h2))
  refine ⟨fun d e => ?_, fun e => ⟨us, vs, hs, hs2, by rw [zipD_len] at e; rw [dn.len, dn2.len]; omega⟩⟩
  obtain ⟨d1, d2, e1, e2, rfl⟩ := zipD_get ds es i d e
  obtain ⟨v, hv, dv⟩ := dn.getD e1
  obtain ⟨v2, hv2, dv2⟩ := dn2.getD e2
  refine ⟨⟨us, vs, v, v2, hs, hs2, hv, hv2⟩, fun x H'' y => ?_⟩
  obtain ⟨T, x1, x2, rfl, hT, rfl, y1, y2⟩ := y
  have q1 := y1 us hs
  have q2 := y2 vs hs2
  rw [hv] at q1; rw [hv2] at q2
  cases q1; cases q2
  have up := (Px.add s' hT (o := .tup [v, v2])).sub
  exact ⟨upd F' T (.tup [v, v2]), Px.add s' hT, .tup (SqT.of upd_same) (.cons ((dv.up s).up up) (.cons ((dv2.up s).up up) .nil))⟩
theorem wk_zipN {K : PySem.W.Frag} {F : Hp} {a b : Addr} {us vs : List V} {ds es : List D} (h : F a = some (.lst us)) (dn : DnA K F us ds) (h2 : SqT K F b vs) (dn2 : DnA K F vs es) : Wk K F (ItzN K a b) (zipD ds es) := fun i F' H' s s' => by
  have hs : SqL K H' a us := SqL.of (s' _ _ (s _ _ h))
  have hs2 : SqT K H' b vs := sqT_sub s' (sqT_sub s h2)
  refine ⟨fun d e => ?_, fun e => ⟨us, vs, hs, hs2, by rw [zipD_len] at e; rw [dn.len, dn2.len]; omega⟩⟩
  obtain ⟨d1, d2, e1, e2, rfl⟩ := zipD_get ds es i d e
  obtain ⟨v, hv, dv⟩ := dn.getD e1
  obtain ⟨v2, hv2, dv2⟩ := dn2.getD e2
  refine ⟨⟨us, vs, v, v2, hs, hs2, hv, hv2⟩, fun x H'' y => ?_⟩
  obtain ⟨T, x1, x2, rfl, hT, rfl, y1, y2⟩ := y
  have q1 := y1 us hs
  have q2 := y2 vs hs2
  rw [hv] at q1; rw [hv2] at q2
  cases q1; cases q2
  have up := (Px.add s' hT (o := .tup [v, v2])).sub
  exact ⟨upd F' T (.tup [v, v2]), Px.add s' hT, .tup (SqT.of upd_same) (.cons ((dv.up s).up up) (.cons ((dv2.up s).up up) .nil))⟩
def ResI (C : Cg) (σ : St) (F H : Hp) (en : En) (k : Ik) (r : R (List D × En)) (R : L2.It → Hp → Prop) : Prop := match r with
  | .ok p => ∃ xs, items k p.1 = some xs ∧ ∀ J F1 H1, Go σ F H en F1 H1 p.2 → Ok C.B C.K F1 H1 σ p.2 → Wk C.K F1 J xs → R J H1
  | .ex c l => Wish C σ F c l
  | .bad => False
def tI (C : Cg) (n : Nat) (k : Ik) (l : List E) : TI := fun σ H R => ∃ F en, Ok C.B C.K F H σ en ∧ ResI C σ F H en k (evList (evE C.T n) l en) R
theorem ResI.run {σ : St} {F H : Hp} {en : En} {k : Ik} {l : List E} {R : L2.It → Hp → Prop} {Q : List V → Hp → Prop} (ok : Ok C.B C.K F H σ en) (h : ResI C σ F H en k (evList (evE C.T n) l en) R)
    (q : ∀ ds xs en1 vs F1 H1, evList (evE C.T n) l en = .ok (ds, en1) → items k ds = some xs → Go σ F H en F1 H1 en1 → Ok C.B C.K F1 H1 σ en1 → DnA C.K F1 vs ds → (∀ J, Wk C.K F1 J xs → R J H1) → Q vs H1) : tLs C n l σ H Q := by
  refine list_run l ok ?_
  cases r : evList (evE C.T n) l en with
  | bad => rw [r] at h; exact h
  | ex c l => rw [r] at h; exact h
  | ok p =>
    rw [r] at h
    obtain ⟨xs, e, h⟩ := h
    intro vs F1 H1 g k1 dn
    exact q p.1 xs p.2 vs F1 H1 r e g k1 dn fun J w => h J F1 H1 g k1 w
theorem items1 {k : Ik} (hk : k = .seq ∨ k = .enum) {ds : List D} {xs : List D} (h : items k ds = some xs) : ∃ d, ds = [d] := by
  match ds with
  | [] => rcases hk with rfl | rfl <;> cases h
  | [d] => exact ⟨d, rfl⟩
  | a :: b :: _ => rcases hk with rfl | rfl <;> (cases a <;> cases h)
theorem pi_seqE {tg a : Expr} {c : E} (h : PE X a (tE C n c)) (G : Gd C X N sc) : PI X tg a (tI C n .seq [c]) := by
  refine ⟨fun pins s σ H R I h0 => ?_⟩
  obtain ⟨F, en, ok, hr⟩ := h0
  have stuck : (∀ ds en1, evList (evE C.T n) [c] en = .ok (ds, en1) → False) → PIE X pins σ tg R = PIE X pins σ tg R := fun _ => rfl
  cases r : evList (evE C.T n) [c] en with
  | bad => rw [r] at hr; exact hr.elim
  | ex cc l =>
    refine (pi_list h).run pins s σ H R I ?_
    have q : tLs C n [c] σ H fun vs H1 => False := list_run [c] ok (by rw [r] at hr ⊢; exact hr)
    have q : tE C n c σ H fun x H1 => False := q
    obtain ⟨F2, en2, ok2, q⟩ := q
    refine ⟨F2, en2, ok2, ?_⟩
    cases r2 : evE C.T n c en2 with
    | bad => rw [r2] at q; exact q
    | ex c l => rw [r2] at q; exact q
    | ok p => rw [r2] at q; exact fun v F' H' g k dn => (q v F' H' g k dn).elim
  | ok p =>
    have hr2 := hr
    rw [r] at hr2
    obtain ⟨xs, e, _⟩ := hr2
    obtain ⟨d, e1⟩ := items1 (.inl rfl) e
    have run : ∀ Q : List V → Hp → Prop, (∀ v F1 H1, Go σ F H en F1 H1 p.2 → Ok C.B C.K F1 H1 σ p.2 → Dn C.K F1 v d → (∀ J, Wk C.K F1 J xs → R J H1) → Q [v] H1) → tLs C n [c] σ H Q := fun Q q => by
      refine hr.run ok fun ds xs' en1 vs F1 H1 e2 e3 g k1 dn w => ?_
      rw [r] at e2
      cases e2
      have e1 : ds = [d] := e1
      subst e1
      rw [e] at e3
      cases e3
      cases dn with
      | cons d1 t =>
        cases t
        exact q _ F1 H1 g k1 d1 w
    rw [e1] at e
    cases d with
    | lst l =>
      cases e
      refine (pi_list h).run pins s σ H R I ?_
      have z := run (fun vs H1 => ∀ x, vs = [x] → ∃ a, x = .ref a ∧ (∃ xs, SqL X.K H1 a xs) ∧ R (Itl X.K a) H1) fun v F1 H1 g k1 dn w x ex => by
        cases ex
        cases dn with
        | lst h1 h2 =>
          refine ⟨_, rfl, ⟨_, SqL.of (k1.sub _ _ h1)⟩, ?_⟩
          rw [G.hK]
          exact w _ (wk_list h1 h2)
      have z : tE C n c σ H fun x H1 => ∀ y, [x] = [y] → ∃ a, y = .ref a ∧ (∃ xs, SqL X.K H1 a xs) ∧ R (Itl X.K a) H1 := z
      obtain ⟨F2, en2, ok2, q⟩ := z
      refine ⟨F2, en2, ok2, ?_⟩
      cases r2 : evE C.T n c en2 with
      | bad => rw [r2] at q; exact q
      | ex c l => rw [r2] at q; exact q
      | ok p => rw [r2] at q; exact fun v F' H' g k dn => q v F' H' g k dn v rfl
    | tup l =>
      cases e
      refine (pi_tup h).run pins s σ H R I ?_
      have z := run (fun vs H1 => ∀ x, vs = [x] → ∃ a, x = .ref a ∧ (∃ xs, SqT X.K H1 a xs) ∧ R (Itt X.K a) H1) fun v F1 H1 g k1 dn w x ex => by
        cases ex
        cases dn with
        | tup h1 h2 =>
          refine ⟨_, rfl, ⟨_, by rw [G.hK]; exact sqT_sub k1.sub h1⟩, ?_⟩
          rw [G.hK]
          exact w _ (wk_tup h1 h2)
      have z : tE C n c σ H fun x H1 => ∀ y, [x] = [y] → ∃ a, y = .ref a ∧ (∃ xs, SqT X.K H1 a xs) ∧ R (Itt X.K a) H1 := z
      obtain ⟨F2, en2, ok2, q⟩ := z
      refine ⟨F2, en2, ok2, ?_⟩
      cases r2 : evE C.T n c en2 with
      | bad => rw [r2] at q; exact q
      | ex c l => rw [r2] at q; exact q
      | ok p => rw [r2] at q; exact fun v F' H' g k dn => q v F' H' g k dn v rfl
    | str z0 =>
      cases e
      refine (pi_str h).run pins s σ H R I ?_
      have z := run (fun vs H1 => ∀ x, vs = [x] → ∃ a, x = .str a ∧ R (Its a) H1) fun v F1 H1 g k1 dn w x ex => by
        cases ex
        cases dn with
        | str => exact ⟨_, rfl, w _ wk_str⟩
      have z : tE C n c σ H fun x H1 => ∀ y, [x] = [y] → ∃ a, y = .str a ∧ R (Its a) H1 := z
      obtain ⟨F2, en2, ok2, q⟩ := z
      refine ⟨F2, en2, ok2, ?_⟩
      cases r2 : evE C.T n c en2 with
      | bad => rw [r2] at q; exact q
      | ex c l => rw [r2] at q; exact q
      | ok p => rw [r2] at q; exact fun v F' H' g k dn => q v F' H' g k dn v rfl
    | non => cases e
    | bl _ => cases e
    | int _ => cases e
    | dic _ => cases e
    | exc _ _ => cases e
    | scr _ => cases e
    | cls _ => cases e
theorem star1 {df : Str → List D} {e : Expr} : ∀ {l : List E}, matL (matE n df N sc) l [e] = true → ∀ env, starEach [e] env = [(false, eval e env)]
  | [], h, _ => by cases h
  | [c], h, env => (ev_ok (and2 h).1).1 _ _
  | c :: _ :: _, h, _ => by
    have h := (and2 h).2
    cases h
theorem star2 {df : Str → List D} {e e2 : Expr} : ∀ {l : List E}, matL (matE n df N sc) l [e, e2] = true → ∀ env, starEach [e, e2] env = [(false, eval e env), (false, eval e2 env)] ∧ starEach [e2] env = [(false, eval e2 env)]
  | [], h, _ => by cases h
  | c :: l, h, env => by
    have h1 := and2 h
    have q := star1 h1.2 env
    exact ⟨by rw [(ev_ok h1.1).1 env [e2], q], q⟩
theorem star3 {df : Str → List D} {e e2 e3 : Expr} : ∀ {l : List E}, matL (matE n df N sc) l [e, e2, e3] = true → ∀ env, starEach [e, e2, e3] env = (false, eval e env) :: starEach [e2, e3] env ∧ starEach [e2, e3] env = [(false, eval e2 env), (false, eval e3 env)]
  | [], h, _ => by cases h
  | c :: l, h, env => by
    have h1 := and2 h
    exact ⟨(ev_ok h1.1).1 env [e2, e3], (star2 h1.2 env).1⟩
theorem pi_rngE {tg e : Expr} {l : List E} {x : Str} {p pos : Pos} {df : Str → List D} (G : Gd C X N sc) (ih : Sx C X n df N sc) (hx : x = "range") (hg : glbB sc x = true) (h : matL (matE n df N sc) l [e] = true) : PI X tg (.Call (.Name x p) [e] [] pos) (tI C n .rng1 l) := by
  subst hx
  refine ⟨fun pins s σ H R I ⟨F, en, ok, hr⟩ => ?_⟩
  have st := star1 h X.env
  refine (pi_range1 (glb_of G.hs hg) (G.blt _ (by decide)) (pa_L ih h) st).run pins s σ H R I ?_
  refine hr.run ok fun ds xs en1 vs F1 H1 e2 e3 g k1 dn w => ?_
  match ds, e3, dn with
  | [.int m], e3, .cons d1 .nil =>
    cases d1
    have e3 : (if -(2 ^ 62) ≤ m ∧ m < 2 ^ 62 then some (rngD 0 m.toNat) else none) = some xs := e3
    split at e3
    · rename_i hb
      cases e3
      exact ⟨m, rfl, hb.1, hb.2, w _ wk_rng⟩
    · cases e3
theorem pi_rng2E {tg e e2 : Expr} {l : List E} {x : Str} {p pos : Pos} {df : Str → List D} (G : Gd C X N sc) (ih : Sx C X n df N sc) (hx : x = "range") (hg : glbB sc x = true) (h : matL (matE n df N sc) l [e, e2] = true) : PI X tg (.Call (.Name x p) [e, e2] [] pos) (tI C n .rng2 l) := by
  subst hx
  refine ⟨fun pins s σ H R I ⟨F, en, ok, hr⟩ => ?_⟩
  have st := star2 h X.env
  refine (pi_range2 (glb_of G.hs hg) (G.blt _ (by decide)) (pa_L ih h) st.1 st.2).run pins s σ H R I ?_
  refine hr.run ok fun ds xs en1 vs F1 H1 e2 e3 g k1 dn w => ?_
  match ds, e3, dn with
  | [.int i, .int m], e3, .cons d1 (.cons d2 .nil) =>
    cases d1
    cases d2
    have e3 : (if -(2 ^ 62) ≤ i ∧ i < 2 ^ 62 ∧ -(2 ^ 62) ≤ m ∧ m < 2 ^ 62 then some (rngD i (m - i).toNat) else none) = some xs := e3
    split at e3
    · rename_i hb
      cases e3
      exact ⟨i, m, rfl, hb, w _ wk_rng⟩
    · cases e3
theorem pi_rng3E {tg e e2 e3 : Expr} {l : List E} {x : Str} {p pos : Pos} {df : Str → List D} (G : Gd C X N sc) (ih : Sx C X n df N sc) (hx : x = "range") (hg : glbB sc x = true) (h : matL (matE n df N sc) l [e, e2, e3] = true) : PI X tg (.Call (.Name x p) [e, e2, e3] [] pos) (tI C n .rng3 l) := by
  subst hx
  refine ⟨fun pins s σ H R I ⟨F, en, ok, hr⟩ => ?_⟩
  have st := star3 h X.env
  refine (pi_range3 (glb_of G.hs hg) (G.blt _ (by decide)) (pa_L ih h) st.1 (by rw [st.2]; rfl)).run pins s σ H R I ?_
  refine hr.run ok fun ds xs en1 vs F1 H1 e2 e3 g k1 dn w => ?_
  match ds, e3, dn with
  | [.int i, .int m, .int c], e3, .cons d1 (.cons d2 (.cons d3 .nil)) =>
    cases d1
    cases d2
    cases d3
    have e3 : (if c = -1 ∧ -(2 ^ 62) ≤ i ∧ i < 2 ^ 62 ∧ -(2 ^ 62) ≤ m ∧ m < 2 ^ 62 then some (rngDn i c (i - m).toNat) else none) = some xs := e3
    split at e3
    · rename_i hb
      cases e3
      obtain ⟨rfl, b1, b2, b3, b4⟩ := hb
      exact ⟨i, m, -1, (i - m).toNat, rfl, .neg b1 b2 b3 b4, w _ wk_rngn⟩
    · cases e3
theorem pi_enumE {e : Expr} {elts : List Expr} {kk : Nat} {tpos : Pos} {l : List E} {x : Str} {p pos : Pos} {df : Str → List D} (G : Gd C X N sc) (ih : Sx C X n df N sc) (hx : x = "enumerate") (hg : glbB sc x = true) (h : matL (matE n df N sc) l [e] = true) :
    PI X (.Tuple elts kk tpos) (.Call (.Name x p) [e] [] pos) (tI C n .enum l) := by
  subst hx
  refine ⟨fun pins s σ H R I ⟨F, en, ok, hr⟩ => ?_⟩
  have st := star1 h X.env
  refine (pi_enT (glb_of G.hs hg) (G.blt _ (by decide)) (pa_L ih h) st).run pins s σ H R I ?_
  refine hr.run ok fun ds xs en1 vs F1 H1 e2 e3 g k1 dn w => ?_
  match ds, e3, dn with
  | [.lst l], e3, .cons d1 .nil =>
    cases e3
    cases d1 with
    | lst h1 h2 =>
      refine ⟨_, _, rfl, .inl ⟨SqL.of (k1.sub _ _ h1), ?_⟩⟩
      rw [G.hK]
      exact w _ (wk_enum h1 h2)
  | [.tup l], e3, .cons d1 .nil =>
    cases e3
    cases d1 with
    | tup h1 h2 =>
      refine ⟨_, _, rfl, .inr ⟨by rw [G.hK]; exact sqT_sub k1.sub h1, ?_⟩⟩
      rw [G.hK]
      exact w _ (wk_enumT h1 h2)
theorem pi_zipE {e e2 : Expr} {elts : List Expr} {kk : Nat} {tpos : Pos} {l : List E} {x : Str} {p pos : Pos} {df : Str → List D} (G : Gd C X N sc) (ih : Sx C X n df N sc) (hx : x = "zip") (hg : glbB sc x = true) (h : matL (matE n df N sc) l [e, e2] = true) :
    PI X (.Tuple elts kk tpos) (.Call (.Name x p) [e, e2] [] pos) (tI C n .zip l) := by
  subst hx
  refine ⟨fun pins s σ H R I ⟨F, en, ok, hr⟩ => ?_⟩
  have st0 := star2 h X.env
  have st : starEach [e, e2] X.env = (false, eval e X.env) :: starEach [e2] X.env ∧ (backTo pos (starEach [e2] X.env)).any (·.1) = false := ⟨by rw [st0.2]; exact st0.1, by rw [st0.2]; rfl⟩
  refine (pi_zM (glb_of G.hs hg) (G.blt _ (by decide)) (pa_L ih h) st.1 st.2).run pins s σ H R I ?_
  refine hr.run ok fun ds xs en1 vs F1 H1 e2 e3 g k1 dn w => ?_
  match ds, e3, dn with
  | [.lst l, .lst m], e3, .cons d1 (.cons d2 .nil) =>
    cases e3
    cases d1 with
    | lst h1 h2 =>
      cases d2 with
      | lst h3 h4 =>
        refine ⟨_, _, _, _, rfl, .inl ⟨SqL.of (k1.sub _ _ h1), SqL.of (k1.sub _ _ h3), ?_⟩⟩
        rw [G.hK]
        exact w _ (wk_zipL h1 h2 h3 h4)
  | [.tup l, .tup m], e3, .cons d1 (.cons d2 .nil) =>
    cases e3
    cases d1 with
    | tup h1 h2 =>
      cases d2 with
      | tup h3 h4 =>
        refine ⟨_, _, _, _, rfl, .inr (.inl ⟨by rw [G.hK]; exact sqT_sub k1.sub h1, by rw [G.hK]; exact sqT_sub k1.sub h3, ?_⟩)⟩
        rw [G.hK]
        exact w _ (wk_zipT h1 h2 h3 h4)
  | [.tup l, .lst m], e3, .cons d1 (.cons d2 .nil) =>
    cases e3
    cases d1 with
    | tup h1 h2 =>
      cases d2 with
      | lst h3 h4 =>
        refine ⟨_, _, _, _, rfl, .inr (.inr (.inl ⟨by rw [G.hK]; exact sqT_sub k1.sub h1, SqL.of (k1.sub _ _ h3), ?_⟩))⟩
        rw [G.hK]
        exact w _ (wk_zipM h1 h2 h3 h4)
  | [.lst l, .tup m], e3, .cons d1 (.cons d2 .nil) =>
    cases e3
    cases d1 with
    | lst h1 h2 =>
      cases d2 with
      | tup h3 h4 =>
        refine ⟨_, _, _, _, rfl, .inr (.inr (.inr ⟨SqL.of (k1.sub _ _ h1), by rw [G.hK]; exact sqT_sub k1.sub h3, ?_⟩))⟩
        rw [G.hK]
        exact w _ (wk_zipN h1 h2 h3 h4)
theorem pi_E {tg : Tg} {ta a : Expr} {k : Ik} {l : List E} {df : Str → List D} {sc2 : Scope} (G : Gd C X N sc) (ih : Sx C X n df N sc) (h : matI (matE n df N sc) sc tg k l a = true) (ht : matT N sc2 tg ta = true) : PI X ta a (tI C n k l) := by
  have tupA : tupT tg = true → ∃ es kk p, ta = .Tuple es kk p := fun z => by
    cases tg with
    | n i => cases z
    | t is =>
      cases ta <;> first
        | exact ⟨_, _, _, rfl⟩
        | cases ht
  unfold matI at h
  split at h
  · exact pi_seqE (ih _ _ h).1 G
  · split at h
    · rename_i x p es pos
      obtain ⟨h0, h4⟩ := and2 h
      obtain ⟨h00, h3⟩ := and2 h0
      obtain ⟨h1, h2⟩ := and2 h00
      have l1 := of_decide_eq_true h3
      match es, l1 with
      | [e], _ => exact pi_rngE G ih (of_decide_eq_true h1) h2 h4
    · cases h
  · split at h
    · rename_i x p es pos
      obtain ⟨h0, h4⟩ := and2 h
      obtain ⟨h00, h3⟩ := and2 h0
      obtain ⟨h1, h2⟩ := and2 h00
      have l1 := of_decide_eq_true h3
      match es, l1 with
      | [e, e2], _ => exact pi_rng2E G ih (of_decide_eq_true h1) h2 h4
    · cases h
  · split at h
    · rename_i x p es pos
      obtain ⟨h0, h4⟩ := and2 h
      obtain ⟨h00, h3⟩ := and2 h0
      obtain ⟨h1, h2⟩ := and2 h00
      have l1 := of_decide_eq_true h3
      match es, l1 with
      | [e, e2, e3], _ => exact pi_rng3E G ih (of_decide_eq_true h1) h2 h4
    · cases h
  · split at h
    · rename_i x p es pos
      obtain ⟨h0, h5⟩ := and2 h
      obtain ⟨h00, h4⟩ := and2 h0
      obtain ⟨h000, h3⟩ := and2 h00
      obtain ⟨h1, h2⟩ := and2 h000
      obtain ⟨es', kk, tp, rfl⟩ := tupA h4
      have l1 := of_decide_eq_true h3
      match es, l1 with
      | [e], _ => exact pi_enumE G ih (of_decide_eq_true h1) h2 h5
    · cases h
  · split at h
    · rename_i x p es pos
      obtain ⟨h0, h5⟩ := and2 h
      obtain ⟨h00, h4⟩ := and2 h0
      obtain ⟨h000, h3⟩ := and2 h00
      obtain ⟨h1, h2⟩ := and2 h000
      obtain ⟨es', kk, tp, rfl⟩ := tupA h4
      have l1 := of_decide_eq_true h3
      match es, l1 with
      | [e, e2], _ => exact pi_zipE G ih (of_decide_eq_true h1) h2 h5
    · cases h
  · cases h
end
end Vm
end
section
set_option Elab.async false
set_option linter.all false
set_option maxRecDepth 100000
namespace Vm
open PySem PySem.Spec L2
structure Sd (vs : List Nat) (σ σ2 : St) (en en2 : En) : Prop where
  len : en2.length = en.length
  slen : σ2.length = σ.length
  out : ∀ i, i ∉ vs → en2[i]? = en[i]? ∧ σ2[i]? = σ[i]?
  inn : ∀ i, i ∈ vs → ownAt en i = none ∧ ownAt en2 i = none
theorem Sd.trans {vs : List Nat} {σ σ1 σ2 : St} {e e1 e2 : En} (a : Sd vs σ σ1 e e1) (b : Sd vs σ1 σ2 e1 e2) : Sd vs σ σ2 e e2 :=
  ⟨b.len.trans a.len, b.slen.trans a.slen, fun i h => ⟨(b.out i h).1.trans (a.out i h).1, (b.out i h).2.trans (a.out i h).2⟩, fun i h => ⟨(a.inn i h).1, (b.inn i h).2⟩⟩
theorem wipeE_get (e : En) : ∀ (vs : List Nat) (i : Nat), (wipeE e vs)[i]? = if i ∈ vs then (e[i]?).map (fun _ => Slot.no) else e[i]?
  | [], i => by simp [wipeE]
  | v :: vs, i => by
    unfold wipeE
    by_cases h : v = i
    · subst h
      rw [List.getElem?_set, if_pos rfl, if_pos List.mem_cons_self]
      have q := wipeE_get e vs v
      have len : (wipeE e vs).length = e.length := by
        have : ∀ vs : List Nat, (wipeE e vs).length = e.length := fun vs => by
          induction vs with
          | nil => rfl
          | cons a as ih => unfold wipeE; rw [List.length_set, ih]
        exact this vs
      rw [len]
      by_cases lt : v < e.length
      · rw [if_pos lt, List.getElem?_eq_getElem lt]; rfl
      · rw [if_neg lt, List.getElem?_eq_none (by omega)]; rfl
    · rw [List.getElem?_set_ne h, wipeE_get e vs i]
      simp [List.mem_cons, Ne.symm h]
theorem wipeE_len (e : En) : ∀ vs : List Nat, (wipeE e vs).length = e.length
  | [] => rfl
  | v :: vs => by unfold wipeE; rw [List.length_set, wipeE_len e vs]
theorem restE_len (f e : En) : ∀ vs : List Nat, (restE f vs e).length = e.length
  | [] => rfl
  | v :: vs => by unfold restE; rw [List.length_set, restE_len f e vs]
theorem restE_get (f e : En) : ∀ (vs : List Nat) (i : Nat), (restE f vs e)[i]? = if i ∈ vs then (e[i]?).map (fun _ => f[i]?.getD .no) else e[i]?
  | [], i => by simp [restE]
  | v :: vs, i => by
    unfold restE
    by_cases h : v = i
    · subst h
      rw [List.getElem?_set, if_pos rfl, if_pos List.mem_cons_self, restE_len]
      by_cases lt : v < e.length
      · rw [if_pos lt, List.getElem?_eq_getElem (l := e) lt]; rfl
      · rw [if_neg lt, List.getElem?_eq_none (l := e) (by omega)]; rfl
    · rw [List.getElem?_set_ne h, restE_get f e vs i]
      simp [List.mem_cons, Ne.symm h]
theorem wipe_get (σ : St) : ∀ (vs : List Nat) (i : Nat), (L2.wipe σ vs)[i]? = if i ∈ vs then (σ[i]?).map (fun _ => none) else σ[i]?
  | [], i => by simp [L2.wipe]
  | v :: vs, i => by
    unfold L2.wipe
    by_cases h : v = i
    · subst h
      rw [List.getElem?_set, if_pos rfl, if_pos List.mem_cons_self, wipe_length]
      by_cases lt : v < σ.length
      · rw [if_pos lt, List.getElem?_eq_getElem lt]; rfl
      · rw [if_neg lt, List.getElem?_eq_none (by omega)]; rfl
    · rw [List.getElem?_set_ne h, wipe_get σ vs i]
      simp [List.mem_cons, Ne.symm h]
theorem noOwn_of {en : En} : ∀ {vs : List Nat}, noOwn en vs = true → ∀ i ∈ vs, ownAt en i = none
  | v :: vs, h, i, hi => by
    unfold noOwn at h
    obtain ⟨h1, h2⟩ := and2 h
    rcases List.mem_cons.mp hi with e | e
    · subst e
      unfold ownAt
      split
      · rename_i l q; rw [q] at h1; cases h1
      · rfl
    · exact noOwn_of h2 i e
theorem own_no {en : En} {i : Nat} (h : ownAt en i = none) {l : List D} (e : en[i]? = some (.own l)) : False := by
  rw [ownAt_some.mpr e] at h; cases h
section
variable {B : Bs} {K : PySem.W.Frag} {F H : Hp} {σ : St} {en : En}
theorem sd_wipe {vs : List Nat} (h : ∀ i ∈ vs, ownAt en i = none) : Sd vs σ (L2.wipe σ vs) en (wipeE en vs) :=
  ⟨wipeE_len en vs, wipe_length σ vs, fun i hi => ⟨by rw [wipeE_get, if_neg hi], by rw [wipe_get, if_neg hi]⟩, fun i hi => ⟨h i hi, by
    unfold ownAt
    split
    · rename_i l q
      rw [wipeE_get, if_pos hi] at q
      cases z : en[i]? with
      | none => rw [z] at q; cases q
      | some _ => rw [z] at q; cases q
    · rfl⟩⟩
theorem sd_set {vs : List Nat} {i : Nat} {v : V} {d : D} (hi : i ∈ vs) (h : ∀ j ∈ vs, ownAt en j = none) : Sd vs σ (σ.set i (some v)) en (en.set i (.val d)) :=
  ⟨List.length_set, List.length_set, fun j hj => by
    have ne : i ≠ j := fun e => hj (e ▸ hi)
    exact ⟨List.getElem?_set_ne ne, List.getElem?_set_ne ne⟩, fun j hj => ⟨h j hj, by
    unfold ownAt
    split
    · rename_i l q
      by_cases e : i = j
      · subst e
        rw [List.getElem?_set, if_pos rfl] at q
        split at q <;> cases q
      · rw [List.getElem?_set_ne e] at q
        exact (own_no (h j hj) q).elim
    · rfl⟩⟩
theorem Ok.side {vs : List Nat} {σ2 : St} {en2 : En} (k : Ok B K F H σ en) (s : Sd vs σ σ2 en en2) (hv : ∀ i ∈ vs, ∀ d, en2[i]? = some (.val d) → ∃ v, σ2[i]? = some (some v) ∧ Dn K F v d) : Ok B K F H σ2 en2 where
  len := by rw [s.len, s.slen, k.len]
  val := fun i d h => by
    by_cases hi : i ∈ vs
    · exact hv i hi d h
    · rw [(s.out i hi).1] at h
      rw [(s.out i hi).2]
      exact k.val i d h
  own := fun i l h => by
    by_cases hi : i ∈ vs
    · exact (own_no (s.inn i hi).2 h).elim
    · rw [(s.out i hi).1] at h
      rw [(s.out i hi).2]
      exact k.own i l h
  inj := fun i j l m p h1 h2 h3 h4 => by
    by_cases hi : i ∈ vs
    · exact (own_no (s.inn i hi).2 h1).elim
    · by_cases hj : j ∈ vs
      · exact (own_no (s.inn j hj).2 h2).elim
      · rw [(s.out i hi).1] at h1
        rw [(s.out i hi).2] at h3
        rw [(s.out j hj).1] at h2
        rw [(s.out j hj).2] at h4
        exact k.inj i j l m p h1 h2 h3 h4
  sub := k.sub
  bsub := k.bsub
  bnew := k.bnew
  bkeep := k.bkeep
  bdom := k.bdom
  pin := fun i p h => by
    have q := k.pin i p h
    have hi : i ∉ vs := fun hi => q.2 (s.inn i hi).1
    refine ⟨by rw [(s.out i hi).2]; exact q.1, ?_⟩
    have e : ownAt en2 i = ownAt en i := by unfold ownAt; rw [(s.out i hi).1]
    rw [e]; exact q.2
theorem Ok.wiped {vs : List Nat} (k : Ok B K F H σ en) (h : ∀ i ∈ vs, ownAt en i = none) : Ok B K F H (L2.wipe σ vs) (wipeE en vs) :=
  k.side (sd_wipe h) fun i hi d e => by
    rw [wipeE_get, if_pos hi] at e
    cases z : en[i]? with
    | none => rw [z] at e; cases e
    | some _ => rw [z] at e; cases e
theorem Ok.set {i : Nat} {v : V} {d : D} (k : Ok B K F H σ en) (h : ownAt en i = none) (dn : Dn K F v d) : Ok B K F H (σ.set i (some v)) (en.set i (.val d)) :=
  k.side (vs := [i]) (sd_set List.mem_cons_self fun j hj => by rw [List.mem_singleton.mp hj]; exact h) fun j hj e he => by
    have z := List.mem_singleton.mp hj
    subst z
    rw [List.getElem?_set, if_pos rfl] at he
    split at he
    · rename_i lt
      cases he
      exact ⟨v, by rw [List.getElem?_set_self (by rw [← k.len]; exact lt)], dn⟩
    · cases he
theorem side_back {vs : List Nat} {σ2 : St} {e2 e4 : En} {F4 H4 : Hp} (k : Ok B K F H σ en) (s : Sd vs σ σ2 en e2) (g : Go σ2 F H e2 F4 H4 e4) (k4 : Ok B K F4 H4 σ2 e4) :
    Go σ F H en F4 H4 (restE en vs e4) ∧ Ok B K F4 H4 σ (restE en vs e4) ∧ wipeE (restE en vs e4) vs = wipeE e4 vs := by
  have len4 : e4.length = en.length := g.len.trans s.len
  have rin : ∀ i ∈ vs, (restE en vs e4)[i]? = en[i]? := fun i hi => by
    rw [restE_get, if_pos hi]
    by_cases lt : i < en.length
    · rw [List.getElem?_eq_getElem (l := e4) (by rw [len4]; exact lt), List.getElem?_eq_getElem (l := en) lt]; rfl
    · rw [List.getElem?_eq_none (l := e4) (by rw [len4]; omega), List.getElem?_eq_none (l := en) (by omega)]; rfl
  have rout : ∀ i, i ∉ vs → (restE en vs e4)[i]? = e4[i]? := fun i hi => by rw [restE_get, if_neg hi]
  have own4 : ∀ i ∈ vs, ownAt e4 i = none := fun i hi => by
    have q := g.vals i (s.inn i hi).2
    have z := (s.inn i hi).2
    unfold ownAt at z ⊢
    rw [q]; exact z
  have ownr : ∀ i ∈ vs, ownAt (restE en vs e4) i = none := fun i hi => by
    have z := (s.inn i hi).1
    unfold ownAt at z ⊢
    rw [rin i hi]; exact z
  have owns_eq : ∀ a, Own σ2 e2 a → Own σ en a := fun a ⟨i, l, h1, h2⟩ => by
    by_cases hi : i ∈ vs
    · exact (own_no (s.inn i hi).2 h1).elim
    · exact ⟨i, l, by rw [← (s.out i hi).1]; exact h1, by rw [← (s.out i hi).2]; exact h2⟩
  have sd : Sd vs σ2 σ e4 (restE en vs e4) := ⟨by rw [restE_len], s.slen.symm, fun i hi => ⟨rout i hi, (s.out i hi).2.symm⟩, fun i hi => ⟨own4 i hi, ownr i hi⟩⟩
  refine ⟨⟨g.sub, g.new, fun a o h h' => g.keep a o h fun z => h' (owns_eq a z), g.dom, fun i hi => ?_, fun i hi => ?_, by rw [restE_len]; exact len4⟩, k4.side sd fun i hi d e => ?_, ?_⟩
  · by_cases m : i ∈ vs
    · exact rin i m
    · rw [rout i m]
      have z : ownAt e2 i = none := by unfold ownAt at hi ⊢; rw [(s.out i m).1]; exact hi
      rw [g.vals i z, (s.out i m).1]
  · by_cases m : i ∈ vs
    · exact absurd (s.inn i m).1 hi
    · have z : ownAt e2 i ≠ none := by unfold ownAt at hi ⊢; rw [(s.out i m).1]; exact hi
      have z2 := g.owns i z
      unfold ownAt at z2 ⊢
      rw [rout i m]; exact z2
  · rw [rin i hi] at e
    obtain ⟨v, e1, e2'⟩ := k.val i d e
    exact ⟨v, e1, e2'.up g.sub⟩
  · apply List.ext_getElem?
    intro i
    rw [wipeE_get, wipeE_get]
    by_cases m : i ∈ vs
    · rw [if_pos m, if_pos m, restE_get, if_pos m]
      cases e4[i]? <;> rfl
    · rw [if_neg m, if_neg m, rout i m]
theorem rest_wipe {vs : List Nat} {e e1 : En} (hl : e.length = e1.length) (h : ∀ i ∈ vs, e[i]? = e1[i]?) : restE e1 vs (wipeE e vs) = e := by
  apply List.ext_getElem?
  intro i
  rw [restE_get]
  by_cases m : i ∈ vs
  · rw [if_pos m, wipeE_get, if_pos m, h i m]
    cases e1[i]? <;> rfl
  · rw [if_neg m, wipeE_get, if_neg m]
theorem wipe_set {vs : List Nat} {σ2 : St} (hl : σ2.length = σ.length) (h : ∀ i, i ∉ vs → σ2[i]? = σ[i]?) : L2.wipe σ2 vs = L2.wipe σ vs := by
  apply List.ext_getElem?
  intro i
  rw [wipe_get, wipe_get]
  by_cases m : i ∈ vs
  · rw [if_pos m, if_pos m]
    by_cases lt : i < σ.length
    · rw [List.getElem?_eq_getElem lt, List.getElem?_eq_getElem (by rw [hl]; exact lt)]; rfl
    · rw [List.getElem?_eq_none (show σ2.length ≤ i by omega), List.getElem?_eq_none (show σ.length ≤ i by omega)]
  · rw [if_neg m, if_neg m, h i m]
end
def gTs : List Nat → TGs
  | [] => gNil
  | i :: is => gCons (gName i) (gTs is)
def gOr (g1 g2 : TG) : TG := fun v σ H Q => g1 v σ H Q ∨ g2 v σ H Q
theorem pg_or {X : Cx} {a : Expr} {g1 g2 : TG} (h1 : PG X a g1) (h2 : PG X a g2) : PG X a (gOr g1 g2) := ⟨fun pins s σ H v u Q I r hw => hw.elim (fun w => h1.1 pins s σ H v u Q I r w) (fun w => h2.1 pins s σ H v u Q I r w)⟩
def gT (K : PySem.W.Frag) : Tg → TG
  | .n i => gName i
  | .t is => gOr (gTup K is.length (gTs is)) (gUnl K is.length (gTs is))
def tgS : Tg → List Nat
  | .n i => [i]
  | .t is => is
section
variable {X : Cx} {N : List Str} {sc : Scope}
theorem pg_nameE {i : Nat} {a : Expr} (hN : X.N = N) (nd : X.N.Nodup) (hl : ∀ x, locB sc x = true → L2.Loc X.env.scope x ∧ (X.fn x = true ∨ X.env.scope.names.lookup x = some .local)) (h : nameB N sc i a = true) : PG X a (gName i) := by
  unfold nameB at h
  split at h
  · obtain ⟨h1, h2⟩ := and2 h
    obtain ⟨q1, q2⟩ := hl _ h2
    exact pg_name nd (by rw [hN]; exact of_decide_eq_true h1) q1 q2
  · cases h
theorem pgs_E (hN : X.N = N) (nd : X.N.Nodup) (hl : ∀ x, locB sc x = true → L2.Loc X.env.scope x ∧ (X.fn x = true ∨ X.env.scope.names.lookup x = some .local)) : ∀ {is : List Nat} {as : List Expr}, namesB N sc is as = true →
    PGs X as (gTs is) ∧ assignEach as X.env = as.map fun a => (false, assign a X.env)
  | [], [], _ => ⟨pgs_nil, rfl⟩
  | i :: is, a :: as, h => by
    obtain ⟨h1, h2⟩ := and2 h
    obtain ⟨q1, q2⟩ := pgs_E hN nd hl h2
    have e : assignEach (a :: as) X.env = (false, assign a X.env) :: assignEach as X.env := by
      unfold nameB at h1
      split at h1
      · rfl
      · cases h1
    refine ⟨pgs_cons (pg_nameE hN nd hl h1) q1 (by rw [e]; rfl), by rw [e, q2]; rfl⟩
  | [], _ :: _, h => by cases h
  | _ :: _, [], h => by cases h
theorem namesB_len : ∀ {is : List Nat} {as : List Expr}, namesB N sc is as = true → as.length = is.length
  | [], [], _ => rfl
  | i :: is, a :: as, h => by rw [List.length_cons, List.length_cons, namesB_len (and2 h).2]
  | [], _ :: _, h => by cases h
  | _ :: _, [], h => by cases h
theorem pg_T {tg : Tg} {a : Expr} (hN : X.N = N) (nd : X.N.Nodup) (hc : X.calm = true) (hl : ∀ x, locB sc x = true → L2.Loc X.env.scope x ∧ (X.fn x = true ∨ X.env.scope.names.lookup x = some .local)) (h : matT N sc tg a = true) : PG X a (gT X.K tg) := by
  cases tg with
  | n i => exact pg_nameE hN nd hl h
  | t is =>
    cases a <;> first | cases h | skip
    rename_i es kk pos
    have h : namesB N sc is es = true := h
    obtain ⟨q1, q2⟩ := pgs_E hN nd hl h
    have st : (assignEach es X.env).findIdx? (·.1) = none := by
      rw [q2]
      have : ∀ es : List Expr, List.findIdx? (fun (x : Bool × (Value → Sem Unit)) => x.1) (es.map fun a => (false, assign a X.env)) = none := fun es => by
        induction es with
        | nil => rfl
        | cons a as ih => rw [List.map_cons, List.findIdx?_cons]; simp [ih]
      exact this es
    have ln : (assignEach es X.env).length = is.length := by rw [q2, List.length_map, namesB_len h]
    exact pg_or (pg_tup hc q1 ln st) (pg_unl hc q1 ln st)
theorem setMany_run {B : Bs} {K : PySem.W.Frag} {F H : Hp} {vs : List Nat} : ∀ {is : List Nat} {ds : List D} {us : List V} {σ : St} {en en2 : En} {Q : St → Hp → Prop}, setMany is ds en = some en2 → Ok B K F H σ en → DnA K F us ds → (∀ i ∈ is, i ∈ vs) → (∀ j ∈ vs, ownAt en j = none) →
    (∀ σ2, Ok B K F H σ2 en2 → Sd vs σ σ2 en en2 → Q σ2 H) → gTs is us σ H Q
  | [], [], _, σ, en, en2, Q, h, k, .nil, _, hv, q => by
    cases h
    exact ⟨rfl, q σ k ⟨rfl, rfl, fun _ _ => ⟨rfl, rfl⟩, fun i hi => ⟨hv i hi, hv i hi⟩⟩⟩
  | i :: is, d :: ds, _, σ, en, en2, Q, h, k, .cons (v := v) (vs := us) h1 h2, hi, hv, q => by
    unfold setMany at h
    have hn := hv i (hi i List.mem_cons_self)
    rw [hn] at h
    have h : setMany is ds (en.set i (.val d)) = some en2 := h
    have s1 := sd_set (σ := σ) (v := v) (d := d) (hi i List.mem_cons_self) hv
    refine ⟨v, us, rfl, ?_⟩
    exact setMany_run h (k.set hn h1) h2 (fun j hj => hi j (List.mem_cons_of_mem _ hj)) (fun j hj => (s1.inn j hj).2) fun σ2 k2 s2 => q σ2 k2 (s1.trans s2)
  | [], _ :: _, _, _, _, _, _, h, _, _, _, _, _ => by cases h
  | _ :: _, [], _, _, _, _, _, h, _, _, _, _, _ => by cases h
theorem setTg_run {B : Bs} {K : PySem.W.Frag} {F H : Hp} {vs : List Nat} {tg : Tg} {d : D} {v : V} {σ : St} {en en2 : En} {Q : St → Hp → Prop} (h : setTg tg d en = some en2) (k : Ok B K F H σ en) (dn : Dn K F v d) (hi : ∀ i ∈ tgS tg, i ∈ vs) (hv : ∀ j ∈ vs, ownAt en j = none)
    (q : ∀ σ2, Ok B K F H σ2 en2 → Sd vs σ σ2 en en2 → Q σ2 H) : gT K tg v σ H Q := by
  cases tg with
  | n i =>
    have hn := hv i (hi i List.mem_cons_self)
    have h : (if (ownAt en i).isSome then none else some (en.set i (.val d))) = some en2 := h
    rw [hn] at h
    cases h
    exact q _ (k.set hn dn) (sd_set (hi i List.mem_cons_self) hv)
  | t is =>
    have len : ∀ {is : List Nat} {ds : List D} {en : En}, setMany is ds en = some en2 → is.length = ds.length := by
      intro is
      induction is with
      | nil => intro ds en h; cases ds with
        | nil => rfl
        | cons _ _ => cases h
      | cons a as ih => intro ds en h; cases ds with
        | nil => cases h
        | cons d ds =>
          unfold setMany at h
          split at h
          · cases h
          · rw [List.length_cons, List.length_cons, ih h]
    cases dn with
    | non => cases h
    | bl b => cases h
    | int b => cases h
    | str b => cases h
    | scr h1 => cases h
    | exc _ _ => cases h
    | cls => cases h
    | tup h1 h2 =>
      have h : setMany is _ en = some en2 := h
      exact .inl ⟨_, _, rfl, sqT_sub k.sub h1, by rw [h2.len, len h], setMany_run h k h2 hi hv q⟩
    | lst h1 h2 =>
      have h : setMany is _ en = some en2 := h
      exact .inr ⟨_, _, rfl, sqL_sub k.sub (.inl (.inl h1)), by rw [h2.len, len h], setMany_run h k h2 hi hv q⟩
end
end Vm
end
section
set_option Elab.async false
set_option linter.all false
set_option maxRecDepth 100000
namespace Vm
open PySem PySem.Spec L2
def quiet (C : Cg) : Cg := { C with W := fun _ _ _ _ => False }
section
variable {C : Cg} {X : Cx} {N : List Str} {sc : Scope} {n : Nat}
theorem takes_quiet {X : Cx} : Takes X (fun _ _ _ _ => False) := fun u s' ⟨_, _, _, _, _, _, _, _, _, _, _, _, _, _, _, _, w⟩ => w.elim
theorem Gd.blk (G : Gd C X N sc) (s : Shared) (H : Hp) (scope : Scope) (cl : List (Str × Addr)) (A : Addr) (fp : List Addr) : Gd (quiet C) (X.blk s H scope (compEnvC scope cl A X.env) fp) N (relS scope sc) where
  hK := G.hK
  hN := G.hN
  hs := by
    show relS scope X.env.scope = _
    rw [G.hs]
  calm := G.calm
  guards := G.guards
  room := G.room
  nd := G.nd
  glob := G.glob
  blt := G.blt
  call := G.call
  xif := G.xif
  pass := fun σ => passAt takes_quiet σ
  exc := G.exc
def tC0 (C : Cg) (n : Nat) : Option E → TT
  | none => tYes
  | some c => tT C n c
def condF (T : Tab) (n : Nat) : Option E → En → R (D × En)
  | some c => evE T n c
  | none => fun en => .ok (.bl true, en)
theorem cond_run {F H : Hp} {σ : St} {en : En} {cond : Option E} {Q : Bool → Hp → Prop} (k : Ok C.B C.K F H σ en) {b : Bool} {en1 : En} (h : (condF C.T n cond en).noex = .ok (.bl b, en1)) (q : ∀ F1 H1, Go σ F H en F1 H1 en1 → Ok C.B C.K F1 H1 σ en1 → Q b H1) : tC0 C n cond σ H Q := by
  cases cond with
  | none =>
    cases h
    exact q F H Go.refl k
  | some c =>
    refine ⟨F, en, k, ?_⟩
    have h : (evE C.T n c en).noex = .ok (.bl b, en1) := h
    cases r : evE C.T n c en with
    | bad => rw [r] at h; cases h
    | ex _ _ => rw [r] at h; cases h
    | ok p =>
      rw [r] at h
      have e : p = (.bl b, en1) := by
        cases h; rfl
      subst e
      exact ⟨b, rfl, q⟩
theorem elt_run {F H : Hp} {σ : St} {en : En} {c : E} {Q : VK} (k : Ok C.B C.K F H σ en) {d : D} {en1 : En} (h : (evE C.T n c en).noex = .ok (d, en1)) (q : ∀ v F1 H1, Go σ F H en F1 H1 en1 → Ok C.B C.K F1 H1 σ en1 → Dn C.K F1 v d → Q v H1) : tE C n c σ H Q := by
  refine ⟨F, en, k, ?_⟩
  cases r : evE C.T n c en with
  | bad => rw [r] at h; cases h
  | ex _ _ => rw [r] at h; cases h
  | ok p =>
    rw [r] at h
    have e : p = (d, en1) := by
      cases h; rfl
    subst e
    exact q
theorem noex_ne {α : Type} {r : R α} {c : Str} {l : List D} : r.noex ≠ .ex c l := by
  cases r <;> exact fun z => nomatch z
inductive Turned (cond elt : En → R (D × En)) (tg : Tg) (vs : List Nat) (d : D) (en : En) : List D → En → Prop
  | yes {en1 en2 en3 : En} {x : D} : setTg tg d en = some en1 → (cond en1).noex = .ok (.bl true, en2) → (elt en2).noex = .ok (x, en3) → Turned cond elt tg vs d en [x] (wipeE en3 vs)
  | no {en1 en2 : En} : setTg tg d en = some en1 → (cond en1).noex = .ok (.bl false, en2) → Turned cond elt tg vs d en [] (wipeE en2 vs)
def lcStep (cond elt : En → R (D × En)) (tg : Tg) (vs : List Nat) (d : D) (en : En) (g : En → R (List D × En)) : R (List D × En) := match setTg tg d en with
    | none => .bad
    | some en1 => (cond en1).noex.bind fun p => match p.1 with
      | .bl true => (elt p.2).noex.bind fun q => (g (wipeE q.2 vs)).bind fun r => .ok (q.1 :: r.1, r.2)
      | .bl false => g (wipeE p.2 vs)
      | _ => .bad
theorem lcGo_eq {cond elt : En → R (D × En)} {tg : Tg} {vs : List Nat} {d : D} {ds : List D} {en : En} : lcGo cond elt tg vs (d :: ds) en = lcStep cond elt tg vs d en (lcGo cond elt tg vs ds) := rfl
theorem lcStep_cases {cond elt : En → R (D × En)} {tg : Tg} {vs : List Nat} {d : D} {en : En} {g : En → R (List D × En)} (hb : lcStep cond elt tg vs d en g ≠ .bad) :
    ∃ xs en2, Turned cond elt tg vs d en xs en2 ∧ lcStep cond elt tg vs d en g = (g en2).bind fun q => .ok (xs ++ q.1, q.2) := by
  unfold lcStep at hb ⊢
  cases e1 : setTg tg d en with
  | none => rw [e1] at hb; exact absurd rfl hb
  | some en1 =>
    rw [e1] at hb
    simp only at hb ⊢
    cases e2 : (cond en1).noex with
    | bad => rw [e2] at hb; exact absurd rfl hb
    | ex c l => exact absurd e2 noex_ne
    | ok p =>
      rw [e2] at hb
      obtain ⟨b, en2⟩ := p
      cases b <;> first | exact absurd rfl hb | skip
      rename_i b
      cases b with
      | false =>
        refine ⟨[], wipeE en2 vs, .no e1 e2, ?_⟩
        show g (wipeE en2 vs) = (g (wipeE en2 vs)).bind fun q => .ok ([] ++ q.1, q.2)
        cases g (wipeE en2 vs) <;> rfl
      | true =>
        have hb : ((elt en2).noex.bind fun q => (g (wipeE q.2 vs)).bind fun r => .ok (q.1 :: r.1, r.2)) ≠ .bad := hb
        cases e3 : (elt en2).noex with
        | bad => rw [e3] at hb; exact absurd rfl hb
        | ex c l => exact absurd e3 noex_ne
        | ok q =>
          obtain ⟨x, en3⟩ := q
          refine ⟨[x], wipeE en3 vs, .yes e1 e2 e3, ?_⟩
          show ((elt en2).noex.bind fun q => (g (wipeE q.2 vs)).bind fun r => .ok (q.1 :: r.1, r.2)) = _
          rw [e3]
          rfl
theorem lcGo_cons {cond elt : En → R (D × En)} {tg : Tg} {vs : List Nat} {d : D} {ds : List D} {en : En} {r : R (List D × En)} (h : lcGo cond elt tg vs (d :: ds) en = r) (hb : r ≠ .bad) :
    ∃ xs en2, Turned cond elt tg vs d en xs en2 ∧ r = (lcGo cond elt tg vs ds en2).bind fun q => .ok (xs ++ q.1, q.2) := by
  subst h
  rw [lcGo_eq] at hb ⊢
  exact lcStep_cases hb
theorem lcGo_noex {cond elt : En → R (D × En)} {tg : Tg} {vs : List Nat} : ∀ {ds : List D} {en : En} {c : Str} {l : List D}, lcGo cond elt tg vs ds en ≠ .ex c l
  | [], _, _, _ => fun z => nomatch z
  | d :: ds, en, c, l => fun h => by
    obtain ⟨xs, en2, _, e⟩ := lcGo_cons h (fun z => nomatch z)
    cases e2 : lcGo cond elt tg vs ds en2 with
    | ok _ => rw [e2] at e; cases e
    | bad => rw [e2] at e; cases e
    | ex _ _ => exact absurd e2 lcGo_noex
theorem upd_dom {H : Hp} {A a : Addr} {o : HO} (h : H a ≠ none) : upd H A o a ≠ none := by
  by_cases z : a = A
  · subst z; rw [upd_same]; exact fun z => nomatch z
  · rw [upd_ne z]; exact h
theorem Ok.updA {B : Bs} {K : PySem.W.Frag} {F H : Hp} {σ : St} {en : En} (k : Ok B K F H σ en) {A : Addr} {o : HO} (hF : F A = none) (hB : B.H A = none) (hn : ¬ Own σ en A) : Ok B K F (upd H A o) σ en where
  len := k.len
  val := k.val
  own := fun i l h => by
    obtain ⟨p, us, e1, e2, e3, e4, e5⟩ := k.own i l h
    exact ⟨p, us, e1, by rw [upd_ne (fun z => hn ⟨i, l, h, by rw [e1, z]⟩)]; exact e2, e3, e4, e5⟩
  inj := k.inj
  sub := fun a o h => by
    rw [upd_ne (ne_of_none h hF)]; exact k.sub _ _ h
  bsub := k.bsub
  bnew := k.bnew
  bkeep := fun a o h h' => by
    rw [upd_ne (ne_of_none h hB)]; exact k.bkeep a o h h'
  bdom := fun a h => upd_dom (k.bdom a h)
  pin := k.pin
theorem Go.updA {σ : St} {F H F' H' : Hp} {en en' : En} (g : Go σ F H en F' H' en') {A : Addr} {o : HO} (h : H A = none) : Go σ F H en F' (upd H' A o) en' :=
  ⟨g.sub, g.new, fun a o e e' => by rw [upd_ne (ne_of_none e h)]; exact g.keep a o e e', fun a e => upd_dom (g.dom a e), g.vals, g.owns, g.len⟩
def LcI (C : Cg) (n : Nat) (cond : Option E) (elt : E) (tg : Tg) (vs : List Nat) (σ : St) (F1 H1 : Hp) (en1 : En) (A : Addr) (ds : List D) (xs : List D) (enF : En) (i : Nat) (H : Hp) : Prop :=
  ∃ F e us acc rest, Go σ F1 H1 en1 F H e ∧ Ok C.B C.K F H σ e ∧ H A = some (.lst us) ∧ F A = none ∧ DnA C.K F us acc ∧ acc.length ≤ i ∧ i ≤ ds.length ∧
    lcGo (condF C.T n cond) (evE C.T n elt) tg vs (ds.drop i) (wipeE e vs) = .ok (rest, enF) ∧ xs = acc ++ rest
def WkP (K : PySem.W.Frag) (F H : Hp) (O : Addr → Prop) (J : L2.It) (xs : List D) : Prop := ∀ (i : Nat) (F' H' : Hp), Same F F' → (∀ a o, H a = some o → ¬ O a → H' a = some o) → Same F' H' →
  (∀ d, xs[i]? = some d → J.go i H' ∧ ∀ x H'', J.yld i H' x H'' → ∃ F'', Px F' H' F'' H'' ∧ Dn K F'' x d) ∧ (xs.length = i → J.stop i H')
theorem Wk.p {K : PySem.W.Frag} {F H : Hp} {O : Addr → Prop} {J : L2.It} {xs : List D} (w : Wk K F J xs) : WkP K F H O J xs := fun i F' H' s _ s' => w i F' H' s s'
theorem wk_own {K : PySem.W.Frag} {F H : Hp} {O : Addr → Prop} {a : Addr} {us : List V} {ds : List D} (h : H a = some (.lst us)) (no : ¬ O a) (dn : DnA K F us ds) : WkP K F H O (Itl K a) ds := fun i F' H' s kp s' => by
  have hs : SqL K H' a us := SqL.of (kp _ _ h no)
  refine ⟨fun d e => ?_, fun e => ⟨us, hs, by rw [dn.len]; exact Nat.le_of_eq e⟩⟩
  obtain ⟨v, hv, dv⟩ := dn.getD e
  refine ⟨⟨us, v, hs, hv⟩, fun x H'' y => ?_⟩
  obtain ⟨e1, y⟩ := y
  subst e1
  have e2 := y us hs
  rw [hv] at e2
  cases e2
  exact ⟨F', Px.refl s', dv.up s⟩
theorem lc_turn {cond : Option E} {elt : E} {tg : Tg} {vs : List Nat} {σ : St} {F1 H1 : Hp} {en1 : En} {A : Addr} {ds xs : List D} {enF : En} {J : L2.It} {i : Nat} {H : Hp} (k1 : Ok C.B C.K F1 H1 σ en1) (hA : H1 A = none) (hv : ∀ j ∈ vs, ownAt en1 j = none) (ht : ∀ j ∈ tgS tg, j ∈ vs) (hz : ds.length ≤ lineN)
    (w : WkP C.K F1 H1 (Own σ en1) J ds) (I : LcI C n cond elt tg vs σ F1 H1 en1 A ds xs enF i H) (lt : i < ds.length) :
    J.go i H ∧ ∀ x H', J.yld i H x H' → gT C.K tg x (L2.wipe σ vs) H' fun σ2 H2 => L2.wipe σ2 vs = L2.wipe σ vs ∧ tC0 (quiet C) n cond σ2 H2 fun b H3 =>
      if b = true then tE (quiet C) n elt σ2 H3 fun y H4 => ∃ acc, H4 A = some (.lst acc) ∧ acc.length < sizeLine ∧ LcI C n cond elt tg vs σ F1 H1 en1 A ds xs enF (i + 1) (upd H4 A (.lst (acc ++ [y]))) else LcI C n cond elt tg vs σ F1 H1 en1 A ds xs enF (i + 1) H3 := by
  obtain ⟨F, e, us, acc, rest, g, k, hH, hF, dn, la, li, hr, ex⟩ := I
  obtain ⟨w1, _⟩ := w i F H g.sub g.keep k.sub
  obtain ⟨go, yl⟩ := w1 ds[i] (List.getElem?_eq_getElem lt)
  refine ⟨go, fun x H'' y => ?_⟩
  obtain ⟨F2, px, dx⟩ := yl x H'' y
  have k2 := k.px px
  have hH2 : H'' A = some (.lst us) := px.hsub _ _ hH
  have hF2 : F2 A = none := px.new A hF (some_ne hH)
  have hve : ∀ j ∈ vs, ownAt e j = none := fun j hj => by
    have q := hv j hj
    have z := g.vals j q
    unfold ownAt at q ⊢
    rw [z]; exact q
  have nown : ¬ Own σ e A := fun z => by
    obtain ⟨j, l, h1, h2⟩ := (own_iff g A).mp z
    obtain ⟨p, us', e1, e2, _⟩ := k1.own j l h1
    rw [h2] at e1
    cases e1
    rw [hA] at e2; cases e2
  have bA : C.B.H A = none := by
    cases z : C.B.H A with
    | none => rfl
    | some o => exact absurd hA (k1.bdom A (some_ne z))
  rw [List.drop_eq_getElem_cons lt] at hr
  obtain ⟨xs', en2, tu, e2⟩ := lcGo_cons hr (fun z => nomatch z)
  have s1 := sd_wipe (σ := σ) hve
  have kw := k2.wiped hve
  have back : ∀ {σ2 : St} {ea eb : En} {F4 H4 : Hp}, Sd vs σ σ2 e ea → Go σ2 F2 H'' ea F4 H4 eb → Ok C.B C.K F4 H4 σ2 eb → en2 = wipeE eb vs →
      ∃ e', Go σ F1 H1 en1 F4 H4 e' ∧ Ok C.B C.K F4 H4 σ e' ∧ wipeE e' vs = en2 ∧ H4 A = some (.lst us) ∧ F4 A = none ∧ DnA C.K F4 us acc ∧ ¬ Own σ e' A := fun {σ2 ea eb F4 H4} s g4 k4 ee => by
    obtain ⟨b1, b2, b3⟩ := side_back k2 s g4 k4
    have gg := g.trans (px.go.trans b1)
    refine ⟨_, gg, b2, b3.trans ee.symm, b1.keep A _ hH2 nown, b1.new A hF2 (some_ne hH2), (dn.up px.sub).up b1.sub, fun z => nown ((own_iff (px.go.trans b1) A).mp z)⟩
  cases tu with
  | yes t1 t2 t3 =>
    refine setTg_run t1 kw dx ht (fun j hj => (s1.inn j hj).2) fun σ2 k3 s2 => ?_
    have s := s1.trans s2
    refine ⟨wipe_set s.slen fun j hj => (s.out j hj).2, cond_run (C := quiet C) k3 t2 fun F3 H3 g3 k4 => ?_⟩
    rw [if_pos rfl]
    refine elt_run (C := quiet C) k4 t3 fun v F4 H4 g4 k5 dv => ?_
    obtain ⟨e', gg, b2, b3, a1, a2, a3, a4⟩ := back s (g3.trans g4) k5 rfl
    refine ⟨us, a1, ?_, ?_⟩
    · have q := dn.len
      have z : lineN ≤ sizeLine := by decide
      omega
    · cases e6 : lcGo (condF C.T n cond) (evE C.T n elt) tg vs (ds.drop (i + 1)) (wipeE _ vs) with
      | bad => rw [e6] at e2; cases e2
      | ex _ _ => rw [e6] at e2; cases e2
      | ok q =>
        rw [e6] at e2
        cases e2
        refine ⟨F4, e', us ++ [v], acc ++ [_], q.1, gg.updA hA, b2.updA a2 bA a4, upd_same, a2, a3.app (.cons dv .nil), by rw [List.length_append]; exact Nat.succ_le_succ la, lt, ?_, ?_⟩
        · rw [b3]; exact e6
        · rw [ex, List.append_assoc]
  | no t1 t2 =>
    refine setTg_run t1 kw dx ht (fun j hj => (s1.inn j hj).2) fun σ2 k3 s2 => ?_
    have s := s1.trans s2
    refine ⟨wipe_set s.slen fun j hj => (s.out j hj).2, cond_run (C := quiet C) k3 t2 fun F3 H3 g3 k4 => ?_⟩
    rw [if_neg (fun z => nomatch z)]
    obtain ⟨e', gg, b2, b3, a1, a2, a3, a4⟩ := back s g3 k4 rfl
    cases e6 : lcGo (condF C.T n cond) (evE C.T n elt) tg vs (ds.drop (i + 1)) (wipeE _ vs) with
    | bad => rw [e6] at e2; cases e2
    | ex _ _ => rw [e6] at e2; cases e2
    | ok q =>
      rw [e6] at e2
      cases e2
      exact ⟨F3, e', us, acc, q.1, gg, b2, a1, a2, a3, Nat.le_succ_of_le la, lt, by rw [b3]; exact e6, ex⟩
theorem lc_tF {elt : E} {tg : Tg} {k : Ik} {l : List E} {cond : Option E} {vs : List Nat} {σ : St} {H : Hp} {Q : VK} (ht : ∀ j ∈ tgS tg, j ∈ vs) (h : tF C (n + 1) (.lc elt tg k l cond vs) σ H Q) : tLc (tI C n k l) (gT C.K tg) (tC0 (quiet C) n cond) (tE (quiet C) n elt) vs σ H Q := by
  obtain ⟨F, en, ok, h⟩ := h
  refine ⟨F, en, ok, ?_⟩
  have h : ResF C σ F H en ((evList (evE C.T n) l en).bind fun q => match items k q.1 with
      | none => .bad
      | some ds => if noOwn q.2 vs && decide (ds.length ≤ lineN) then
          (lcGo (condF C.T n cond) (evE C.T n elt) tg vs ds (wipeE q.2 vs)).bind fun r => .ok (.lst r.1, restE q.2 vs r.2)
        else .bad) Q := by
    cases cond <;> exact h
  cases r : evList (evE C.T n) l en with
  | bad => rw [r] at h; exact h
  | ex c l => rw [r] at h; exact h
  | ok p =>
    obtain ⟨ls, en1⟩ := p
    rw [r] at h
    have h : ResF C σ F H en (match items k ls with
      | none => .bad
      | some ds => if noOwn en1 vs && decide (ds.length ≤ lineN) then
          (lcGo (condF C.T n cond) (evE C.T n elt) tg vs ds (wipeE en1 vs)).bind fun r => .ok (.lst r.1, restE en1 vs r.2)
        else .bad) Q := h
    cases e : items k ls with
    | none => rw [e] at h; exact h.elim
    | some ds =>
      rw [e] at h
      have h : ResF C σ F H en (if noOwn en1 vs && decide (ds.length ≤ lineN) then
          (lcGo (condF C.T n cond) (evE C.T n elt) tg vs ds (wipeE en1 vs)).bind fun r => .ok (.lst r.1, restE en1 vs r.2)
        else .bad) Q := h
      refine ⟨ds, e, fun J F1 H1 g1 k1 w A hA => ?_⟩
      cases hc : noOwn en1 vs && decide (ds.length ≤ lineN) with
      | false => rw [hc] at h; exact h.elim
      | true =>
        rw [hc] at h
        obtain ⟨c1, c2⟩ := and2 hc
        have hv := noOwn_of c1
        have h : ResF C σ F H en ((lcGo (condF C.T n cond) (evE C.T n elt) tg vs ds (wipeE en1 vs)).bind fun r => .ok (.lst r.1, restE en1 vs r.2)) Q := h
        cases e3 : lcGo (condF C.T n cond) (evE C.T n elt) tg vs ds (wipeE en1 vs) with
        | bad => rw [e3] at h; exact h.elim
        | ex _ _ => exact absurd e3 lcGo_noex
        | ok q =>
          obtain ⟨xs, enF⟩ := q
          rw [e3] at h
          obtain ⟨xs', e4, h⟩ := h
          cases e4
          have bA : C.B.H A = none := by
            cases z : C.B.H A with
            | none => rfl
            | some o => exact absurd hA (k1.bdom A (some_ne z))
          have fA : F1 A = none := k1.sub.free hA
          have no1 : ¬ Own σ en1 A := fun ⟨j, l, h1, h2⟩ => by
            obtain ⟨p, us', e1, e2, _⟩ := k1.own j l h1
            rw [h2] at e1
            cases e1
            rw [hA] at e2; cases e2
          refine ⟨fun i m H => m = ds.length - i ∧ LcI C n cond elt tg vs σ F1 H1 en1 A ds xs enF i H, ⟨ds.length - 0, rfl, F1, en1, [], [], xs, Go.refl.updA hA, k1.updA fA bA no1, upd_same, fA, .nil, Nat.le_refl _, Nat.zero_le _, e3, rfl⟩, ?_⟩
          rintro i m H5 ⟨rfl, I⟩
          rcases Nat.lt_or_ge i ds.length with lt | ge
          · obtain ⟨go, st⟩ := lc_turn k1 hA hv ht (of_decide_eq_true c2) w.p I lt
            exact .inr ⟨go, fun H' => LcI C n cond elt tg vs σ F1 H1 en1 A ds xs enF (i + 1) H', fun H' q => ⟨ds.length - (i + 1), by omega, rfl, q⟩, st⟩
          · obtain ⟨F5, e5, us, acc, rest, g, k, hH, hF, dn, la, li, hr, ex⟩ := I
            have i1 : i = ds.length := by omega
            subst i1
            refine .inl ⟨(w ds.length F5 H5 g.sub k.sub).2 rfl, ?_⟩
            rw [List.drop_length] at hr
            cases hr
            have e6 : restE en1 vs (wipeE e5 vs) = e5 := rest_wipe g.len fun j hj => g.vals j (hv j hj)
            have h : NxtF C σ F H en (restE en1 vs (wipeE e5 vs)) xs Q := h
            rw [e6] at h
            rw [ex, List.append_nil] at h
            refine h A us F5 H5 (g1.trans g) k ?_ hF hH dn fun j l h1 h2 => ?_
            · cases z : H A with
              | none => rfl
              | some o => exact absurd hA (g1.dom A (some_ne z))
            · exact no1 ((own_iff g A).mp ⟨j, l, h1, h2⟩)
theorem lc_isL {elt : E} {tg : Tg} {k : Ik} {l : List E} {cond : Option E} {vs : List Nat} {en : En} {p : D × En} (h : evE C.T (n + 1) (.lc elt tg k l cond vs) en = .ok p) : ∃ ds, p.1 = .lst ds := by
  have h : ((evList (evE C.T n) l en).bind fun q => match items k q.1 with
      | none => .bad
      | some ds => if noOwn q.2 vs && decide (ds.length ≤ lineN) then
          (lcGo (condF C.T n cond) (evE C.T n elt) tg vs ds (wipeE q.2 vs)).bind fun r => .ok (.lst r.1, restE q.2 vs r.2)
        else .bad) = .ok p := by
    cases cond <;> exact h
  cases r : evList (evE C.T n) l en with
  | bad => rw [r] at h; cases h
  | ex c l => rw [r] at h; cases h
  | ok q =>
    rw [r] at h
    have h : (match items k q.1 with
      | none => .bad
      | some ds => if noOwn q.2 vs && decide (ds.length ≤ lineN) then
          (lcGo (condF C.T n cond) (evE C.T n elt) tg vs ds (wipeE q.2 vs)).bind fun r => .ok (.lst r.1, restE q.2 vs r.2)
        else .bad) = R.ok p := h
    split at h
    · cases h
    · split at h
      · cases e3 : lcGo (condF C.T n cond) (evE C.T n elt) tg vs _ (wipeE q.2 vs) with
        | bad => rw [e3] at h; cases h
        | ex _ _ => rw [e3] at h; cases h
        | ok q2 => rw [e3] at h; cases h; exact ⟨_, rfl⟩
      · cases h
section
variable {B : Bs} {K : PySem.W.Frag} {F H : Hp} {σ : St} {en : En}
theorem Ok.forget {vs : List Nat} (k : Ok B K F H σ en) (ni : ∀ i q, B.pin i q → i ∉ vs) : Ok B K F H σ (wipeE en vs) := by
  have no : ∀ (i : Nat) (s : Slot), s ≠ .no → (wipeE en vs)[i]? = some s → en[i]? = some s := fun i s hs e => by
    rw [wipeE_get] at e
    split at e
    · cases z : en[i]? with
      | none => rw [z] at e; cases e
      | some s' => rw [z] at e; exact absurd (Option.some.inj e).symm hs
    · exact e
  refine ⟨by rw [wipeE_len]; exact k.len, fun i d e => k.val i d (no i _ (fun z => nomatch z) e), fun i l e => k.own i l (no i _ (fun z => nomatch z) e), fun i j l m p e1 e2 => k.inj i j l m p (no i _ (fun z => nomatch z) e1) (no j _ (fun z => nomatch z) e2), k.sub, k.bsub, k.bnew, k.bkeep, k.bdom, fun i p e => ?_⟩
  obtain ⟨f1, f2⟩ := k.pin i p e
  refine ⟨f1, ?_⟩
  unfold ownAt at f2 ⊢
  rw [wipeE_get, if_neg (ni i p e)]
  exact f2
end
def unpin (C : Cg) (i : Nat) : Cg := { C with B := { C.B with pin := fun j q => j ≠ i ∧ C.B.pin j q } }
theorem Gd.unpin {C : Cg} {X : Cx} {N : List Str} {sc : Scope} (G : Gd C X N sc) (i : Nat) : Gd (Vm.unpin C i) X N sc := ⟨G.hK, G.hN, G.hs, G.calm, G.guards, G.room, G.nd, G.glob, G.blt, G.call, G.xif, G.pass, G.exc⟩
def tIo (C : Cg) (i : Nat) : TI := fun σ H R => ∃ F en l, Ok C.B C.K F H σ en ∧ ownAt en i = some l ∧ ∀ p us, σ[i]? = some (some (V.ref p)) → H p = some (.lst us) → R (Itl C.K p) H
theorem pi_ownE (G : Gd C X N sc) {i : Nat} {a ta : Expr} (h : varB N sc i a = true) : PI X ta a (tIo C i) := by
  have pv : PE X a (tVar i) := by
    unfold varB at h
    split at h
    · obtain ⟨h1, h3⟩ := and2 h
      obtain ⟨h1, h2⟩ := and2 h1
      obtain ⟨e1, e2⟩ := okName_of h3
      exact pe_var (by rw [G.hN]; exact of_decide_eq_true h1) (vis_of G.hs h2) e1 e2
    · cases h
  refine ⟨fun pins s σ H R I ⟨F, en, l, k, o, q⟩ => ?_⟩
  obtain ⟨p, us, e1, e2, e3, _⟩ := k.own i l (ownAt_some.mp o)
  exact (pi_list pv).run pins s σ H R I ⟨.ref p, e1, _, rfl, ⟨us, SqL.of e2⟩, by rw [G.hK]; exact q p us e1 e2⟩
theorem lcb_tF {elt : E} {tg : Tg} {i : Nat} {cond : Option E} {vs : List Nat} {σ : St} {H : Hp} {Q : VK} (ht : ∀ j ∈ tgS tg, j ∈ vs) (h : tF C (n + 1) (.lcb elt tg i cond vs) σ H Q) : tLc (tIo C i) (gT C.K tg) (tC0 (quiet (unpin C i)) n cond) (tE (quiet (unpin C i)) n elt) vs σ H Q := by
  obtain ⟨F, en, ok, h⟩ := h
  have h : ResF C σ F H en (match ownAt en i with
      | none => .bad
      | some l => if noOwn en vs && decide (l.length ≤ lineN) then
          (lcGo (condF C.T n cond) (evE C.T n elt) tg vs l (wipeE (en.set i .no) vs)).bind fun r => .ok (.lst r.1, (restE (en.set i .no) vs r.2).set i (.own l))
        else .bad) Q := by
    cases cond <;> exact h
  cases ho : ownAt en i with
  | none => rw [ho] at h; exact h.elim
  | some l =>
    rw [ho] at h
    have h : ResF C σ F H en (if noOwn en vs && decide (l.length ≤ lineN) then
          (lcGo (condF C.T n cond) (evE C.T n elt) tg vs l (wipeE (en.set i .no) vs)).bind fun r => .ok (.lst r.1, (restE (en.set i .no) vs r.2).set i (.own l))
        else .bad) Q := h
    cases hc : noOwn en vs && decide (l.length ≤ lineN) with
    | false => rw [hc] at h; exact h.elim
    | true =>
      rw [hc] at h
      obtain ⟨c1, c2⟩ := and2 hc
      have hv0 := noOwn_of c1
      have hi : en[i]? = some (.own l) := ownAt_some.mp ho
      have lt : i < en.length := (List.getElem?_eq_some_iff.mp hi).1
      have get : ∀ (e : En) (s : Slot) (j : Nat), e.length = en.length → (e.set i s)[j]? = if i = j then some s else e[j]? := fun e s j hl => by
        by_cases z : i = j
        · subst z; rw [List.getElem?_set_self (by rw [hl]; exact lt), if_pos rfl]
        · rw [List.getElem?_set_ne z, if_neg z]
      have own1 : ∀ j m, (en.set i .no)[j]? = some (.own m) → j ≠ i ∧ en[j]? = some (.own m) := fun j m e => by
        rw [get en .no j rfl] at e
        split at e
        · cases e
        · rename_i z; exact ⟨fun w => z w.symm, e⟩
      have hv : ∀ j ∈ vs, ownAt (en.set i .no) j = none := fun j hj => by
        have q := hv0 j hj
        cases z : ownAt (en.set i .no) j with
        | none => rfl
        | some m =>
          obtain ⟨_, e⟩ := own1 j m (ownAt_some.mp z)
          rw [ownAt_some.mpr e] at q
          cases q
      have h : ResF C σ F H en ((lcGo (condF C.T n cond) (evE C.T n elt) tg vs l (wipeE (en.set i .no) vs)).bind fun r => .ok (.lst r.1, (restE (en.set i .no) vs r.2).set i (.own l))) Q := h
      cases e3 : lcGo (condF C.T n cond) (evE C.T n elt) tg vs l (wipeE (en.set i .no) vs) with
      | bad => rw [e3] at h; exact h.elim
      | ex _ _ => exact absurd e3 lcGo_noex
      | ok q =>
        obtain ⟨xs, enF⟩ := q
        rw [e3] at h
        obtain ⟨xs', e4, h⟩ := h
        cases e4
        obtain ⟨p, us, x1, x2, x3, x4, x5⟩ := ok.own i l hi
        have nop : ¬ Own σ (en.set i .no) p := fun ⟨j, m, h1, h2⟩ => by
          obtain ⟨ne, e⟩ := own1 j m h1
          exact ne (ok.inj j i m l p e hi h2 x1)
        have k1 : Ok (unpin C i).B C.K F H σ (en.set i .no) := by
          have k0 : Ok (unpin C i).B C.K F H σ en := ⟨ok.len, ok.val, ok.own, ok.inj, ok.sub, ok.bsub, ok.bnew, ok.bkeep, ok.bdom, fun j q z => ok.pin j q z.2⟩
          have k2 := k0.forget (vs := [i]) fun j q z w => z.1 (List.mem_singleton.mp w)
          exact k2
        refine ⟨F, en, l, ok, ho, fun p' us' y1 y2 => ?_⟩
        rw [x1] at y1
        cases y1
        rw [x2] at y2
        cases y2
        have w : WkP C.K F H (Own σ (en.set i .no)) (Itl C.K p) l := wk_own x2 nop x3
        intro A hA
        have bA : C.B.H A = none := by
          cases z : C.B.H A with
          | none => rfl
          | some o => exact absurd hA (ok.bdom A (some_ne z))
        have fA : F A = none := ok.sub.free hA
        have no1 : ¬ Own σ (en.set i .no) A := fun ⟨j, m, h1, h2⟩ => by
          obtain ⟨p, us', e1, e2, _⟩ := k1.own j m h1
          rw [h2] at e1
          cases e1
          rw [hA] at e2; cases e2
        refine ⟨fun j m H' => m = l.length - j ∧ LcI (unpin C i) n cond elt tg vs σ F H (en.set i .no) A l xs enF j H', ⟨l.length - 0, rfl, F, en.set i .no, [], [], xs, Go.refl.updA hA, k1.updA fA bA no1, upd_same, fA, .nil, Nat.le_refl _, Nat.zero_le _, e3, rfl⟩, ?_⟩
        rintro j m H5 ⟨rfl, I⟩
        rcases Nat.lt_or_ge j l.length with lt2 | ge
        · obtain ⟨go, st⟩ := lc_turn (C := unpin C i) k1 hA hv ht (of_decide_eq_true c2) w I lt2
          exact .inr ⟨go, fun H' => LcI (unpin C i) n cond elt tg vs σ F H (en.set i .no) A l xs enF (j + 1) H', fun H' q => ⟨l.length - (j + 1), by omega, rfl, q⟩, st⟩
        · obtain ⟨F5, e5, us5, acc, rest, g, k, hH, hF, dn, la, li, hr, ex⟩ := I
          have i1 : j = l.length := by omega
          subst i1
          refine .inl ⟨(w l.length F5 H5 g.sub g.keep k.sub).2 rfl, ?_⟩
          rw [List.drop_length] at hr
          cases hr
          have e6 : restE (en.set i .no) vs (wipeE e5 vs) = e5 := rest_wipe g.len fun j hj => g.vals j (hv j hj)
          have h : NxtF C σ F H en ((restE (en.set i .no) vs (wipeE e5 vs)).set i (.own l)) xs Q := h
          rw [e6] at h
          rw [ex, List.append_nil] at h
          have l5 : e5.length = en.length := by rw [g.len, List.length_set]
          have gp : H5 p = some (.lst us) := g.keep p _ x2 nop
          have fp : F5 p = none := g.new p x4 (some_ne x2)
          have nop5 : ¬ Own σ e5 p := fun z => nop ((own_iff g p).mp z)
          have back : ∀ j m, (e5.set i (.own l))[j]? = some (.own m) → (j = i ∧ m = l) ∨ (j ≠ i ∧ e5[j]? = some (.own m)) := fun j m e => by
            rw [get e5 _ j l5] at e
            split at e
            · rename_i z; cases e; exact .inl ⟨z.symm, rfl⟩
            · rename_i z; exact .inr ⟨fun w => z w.symm, e⟩
          have go : Go σ F H en F5 H5 (e5.set i (.own l)) := by
            refine ⟨g.sub, g.new, fun a o e ne => g.keep a o e fun ⟨j, m, h1, h2⟩ => ne ⟨j, m, (own1 j m h1).2, h2⟩, g.dom, fun j e => ?_, fun j e => ?_, by rw [List.length_set]; exact l5⟩
            · have ne : i ≠ j := fun z => by subst z; rw [ho] at e; cases e
              have e' : ownAt (en.set i .no) j = none := by
                cases z : ownAt (en.set i .no) j with
                | none => rfl
                | some m => rw [ownAt_some.mpr (own1 j m (ownAt_some.mp z)).2] at e; cases e
              rw [get e5 _ j l5, if_neg ne, g.vals j e', get en .no j rfl, if_neg ne]
            · by_cases z : i = j
              · subst z
                rw [ownAt_some.mpr (show (e5.set i (.own l))[i]? = some (.own l) by rw [get e5 _ i l5, if_pos rfl])]
                exact fun w => nomatch w
              · obtain ⟨m, hm⟩ := ne_some e
                have e' : ownAt (en.set i .no) j ≠ none := by
                  rw [ownAt_some.mpr (show (en.set i .no)[j]? = some (.own m) by rw [get en .no j rfl, if_neg z]; exact ownAt_some.mp hm)]
                  exact fun w => nomatch w
                obtain ⟨m', hm'⟩ := ne_some (g.owns j e')
                rw [ownAt_some.mpr (show (e5.set i (.own l))[j]? = some (.own m') by rw [get e5 _ j l5, if_neg z]; exact ownAt_some.mp hm')]
                exact fun w => nomatch w
          have k5 : Ok C.B C.K F5 H5 σ (e5.set i (.own l)) := by
            refine ⟨by rw [List.length_set]; exact k.len, fun j d e => ?_, fun j m e => ?_, fun j1 j2 m1 m2 q h1 h2 h3 h4 => ?_, k.sub, k.bsub, k.bnew, k.bkeep, k.bdom, fun j q z => ?_⟩
            · rw [get e5 _ j l5] at e
              split at e
              · cases e
              · exact k.val j d e
            · rcases back j m e with ⟨rfl, rfl⟩ | ⟨_, e⟩
              · exact ⟨p, us, x1, gp, x3.up g.sub, fp, x5⟩
              · exact k.own j m e
            · rcases back j1 m1 h1 with ⟨z1, _⟩ | ⟨n1, g1⟩
              · rcases back j2 m2 h2 with ⟨z2, _⟩ | ⟨n2, g2⟩
                · rw [z1, z2]
                · rw [z1, x1] at h3
                  cases h3
                  exact absurd ⟨j2, m2, g2, h4⟩ nop5
              · rcases back j2 m2 h2 with ⟨z2, _⟩ | ⟨n2, g2⟩
                · rw [z2, x1] at h4
                  cases h4
                  exact absurd ⟨j1, m1, g1, h3⟩ nop5
                · exact k.inj j1 j2 m1 m2 q g1 g2 h3 h4
            · obtain ⟨f1, f2⟩ := ok.pin j q z
              refine ⟨f1, ?_⟩
              exact go.owns j f2
          refine h A us5 F5 H5 go k5 ?_ hF hH dn fun j m h1 h2 => ?_
          · cases z : H A with
            | none => rfl
            | some o => rw [z] at hA; cases hA
          · rcases back j m h1 with ⟨rfl, rfl⟩ | ⟨_, h1⟩
            · rw [x1] at h2
              cases h2
              rw [x2] at hA; cases hA
            · exact no1 ((own_iff g A).mp ⟨j, m, h1, h2⟩)
theorem lcb_isL {elt : E} {tg : Tg} {i : Nat} {cond : Option E} {vs : List Nat} {en : En} {p : D × En} (h : evE C.T (n + 1) (.lcb elt tg i cond vs) en = .ok p) : ∃ ds, p.1 = .lst ds := by
  have h : (match ownAt en i with
      | none => .bad
      | some l => if noOwn en vs && decide (l.length ≤ lineN) then
          (lcGo (condF C.T n cond) (evE C.T n elt) tg vs l (wipeE (en.set i .no) vs)).bind fun r => .ok (.lst r.1, (restE (en.set i .no) vs r.2).set i (.own l))
        else .bad) = R.ok p := by
    cases cond <;> exact h
  split at h
  · cases h
  · split at h
    · cases e3 : lcGo (condF C.T n cond) (evE C.T n elt) tg vs _ (wipeE (en.set i .no) vs) with
      | bad => rw [e3] at h; cases h
      | ex _ _ => rw [e3] at h; cases h
      | ok q2 => rw [e3] at h; cases h; exact ⟨_, rfl⟩
    · cases h
theorem tF_of {c : E} {σ : St} {H : Hp} {Q : VK} (hl : ∀ en p, evE C.T n c en = .ok p → ∃ ds, p.1 = .lst ds) (h : tE C n c σ H Q) : tF C n c σ H Q := by
  obtain ⟨F, en, ok, h⟩ := h
  exact ⟨F, en, ok, ResF.of ok h fun p e => hl en p e⟩
end
end Vm
end
section
set_option Elab.async false
set_option linter.all false
set_option maxRecDepth 100000
namespace Vm
open PySem PySem.Spec L2
section
variable {C : Cg} {X : Cx} {N : List Str} {sc : Scope} {n : Nat} {df : Str → List D}
theorem Gd.un (G : Gd C X N sc) : X.A.units + 66 < cLine := by have := G.room.un; omega
def OpS (K : PySem.W.Frag) (p : Pr) (r : R2) : Prop := ∀ {F H : Hp} {Q : VK} {d d1 d2 : D} {x y : V}, prim p [d1, d2] = .ok d → DA K F H x d1 → DA K F H y d2 → Same F H → Qz K F H d Q → r x y H Q
theorem bin_ok (G : Gd C X N sc) {p : Pr} {o : Operator} (h : binB p o = true) : ∃ r, OpR X (binaryOp o) r ∧ OpS C.K p r ∧ ∀ ds d, prim p ds = .ok d → ds.length = 2 := by
  have hK := G.hK
  unfold binB at h
  split at h
  · exact ⟨_, op_addV, by rw [hK]; exact fun a b c d e => add_ok a b c d e, prim_len2 (by simp)⟩
  · exact ⟨_, op_sub, fun a b c d e => sub_ok a b c d e, prim_len2 (by simp)⟩
  · exact ⟨_, op_mulV, by rw [hK]; exact fun a b c d e => mul_ok a b c d e, prim_len2 (by simp)⟩
  · exact ⟨_, op_fdivV, fun a b c d e => fdiv_ok a b c d e, prim_len2 (by simp)⟩
  · exact ⟨_, op_modN, fun a b c d e => mod_ok a b c d e, prim_len2 (by simp)⟩
  · exact ⟨_, op_powV, fun a b c d e => pow_ok a b c d e, prim_len2 (by simp)⟩
  · cases h
theorem cmp_ok (G : Gd C X N sc) {p : Pr} {o : CmpOp} (h : cmpB p o = true) : ∃ r, OpR X (compareOp o) r ∧ OpS C.K p r ∧ (∀ ds d, prim p ds = .ok d → ds.length = 2) ∧ o ≠ .In ∧ o ≠ .NotIn := by
  have hK := G.hK
  have un := G.un
  unfold cmpB at h
  split at h
  · exact ⟨_, OpR.or (op_eqD (by omega)) op_eq, by rw [hK]; exact fun a b c d e => eq_ok a b c d e, prim_len2 (by simp), by decide, by decide⟩
  · exact ⟨_, OpR.or (op_neD (by omega)) op_ne, by rw [hK]; exact fun a b c d e => ne_ok a b c d e, prim_len2 (by simp), by decide, by decide⟩
  · exact ⟨_, op_lt, fun a b c d e => lt_ok a b c d e, prim_len2 (by simp), by decide, by decide⟩
  · exact ⟨_, op_le, fun a b c d e => le_ok a b c d e, prim_len2 (by simp), by decide, by decide⟩
  · exact ⟨_, op_gt, fun a b c d e => gt_ok a b c d e, prim_len2 (by simp), by decide, by decide⟩
  · exact ⟨_, op_ge, fun a b c d e => ge_ok a b c d e, prim_len2 (by simp), by decide, by decide⟩
  · cases h
theorem cmp_bl {p : Pr} {o : CmpOp} (h : cmpB p o = true) {ds : List D} {d : D} (e : prim p ds = .ok d) : ∃ b, d = .bl b := by
  unfold cmpB at h
  split at h
  · have e : p_eq ds = .ok d := e
    unfold p_eq at e
    split at e
    · cases e; exact ⟨_, rfl⟩
    · split at e
      · cases e; exact ⟨_, rfl⟩
      · cases e
    · cases e
  · have e : p_ne ds = .ok d := e
    unfold p_ne at e
    split at e
    · cases e; exact ⟨_, rfl⟩
    · split at e
      · cases e; exact ⟨_, rfl⟩
      · cases e
    · cases e
  · have e : p_lt ds = .ok d := e
    unfold p_lt at e
    split at e <;> cases e
    exact ⟨_, rfl⟩
  · have e : p_le ds = .ok d := e
    unfold p_le at e
    split at e <;> cases e
    exact ⟨_, rfl⟩
  · have e : p_gt ds = .ok d := e
    unfold p_gt at e
    split at e <;> cases e
    exact ⟨_, rfl⟩
  · have e : p_ge ds = .ok d := e
    unfold p_ge at e
    split at e <;> cases e
    exact ⟨_, rfl⟩
  · cases h
theorem strict_of {c : E} {a : Expr} (h : matE n df N sc c a = true) : noBw c = true := by
  cases n with
  | zero => cases h
  | succ n => cases c <;> first | rfl | cases h
theorem matO_of {c : E} {a : Expr} (h : matE n df N sc c a = true) : matO (matE n df N sc) N sc c a = true := by
  rw [matO_strict (strict_of h)]; exact h
theorem tO_of {c : E} {a : Expr} (h : matE n df N sc c a = true) : tO C n c = tE C n c := tO_strict (strict_of h)
theorem pe_binE (G : Gd C X N sc) {p : Pr} {o : Operator} {c d : E} {x y : Expr} {pos : Pos} (hb : binB p o = true) (h1 : PE X x (tO C n c)) (h2 : PE X y (tO C n d)) : PE X (.BinOp x o y pos) (tE C (n + 1) (.pr p [c, d])) := by
  obtain ⟨r, ho, hs, hn⟩ := bin_ok G hb
  exact PE.imp (pe_op ho h1 h2) fun σ H Q h => op2 hs hn h
theorem pe_cmpE (G : Gd C X N sc) {p : Pr} {o : CmpOp} {c d : E} {x y : Expr} {pos : Pos} (hb : cmpB p o = true) (h1 : PE X x (tO C n c)) (h2 : PE X y (tO C n d)) : PE X (.Compare x [o] [y] pos) (tE C (n + 1) (.pr p [c, d])) ∧ PT X (.Compare x [o] [y] pos) (tT C (n + 1) (.pr p [c, d])) := by
  obtain ⟨r, ho, hs, hn, n1, n2⟩ := cmp_ok G hb
  exact ⟨PE.imp (pe_cmpR ho h1 h2 (nobehind _ n1 n2)) fun σ H Q h => op2 hs hn h, PT.imp (pt_cmpR ho h1 h2 (nobehind _ n1 n2)) fun σ H Q h => op2 hs hn (of_test h)⟩
theorem pe_innE (G : Gd C X N sc) {c d : E} {x : Expr} {y : Str} {yp pos : Pos} (h1 : PE X x (tO C n c)) (h2 : PE X (.Name y yp) (tO C n d)) : PE X (.Compare x [.In] [.Name y yp] pos) (tE C (n + 1) (.pr .inn [c, d])) ∧ PT X (.Compare x [.In] [.Name y yp] pos) (tT C (n + 1) (.pr .inn [c, d])) := by
  have hK := G.hK
  have un := G.un
  have ho : OpR X (compareOp .In) (rInV X.K) := OpR.or (op_inD (by omega)) op_in_sign
  have hs : OpS C.K .inn (rInV X.K) := by rw [hK]; exact fun a b c d e => inn_ok a b c d e
  have hn : ∀ ds d, prim .inn ds = .ok d → ds.length = 2 := fun ds d e => by
    have e : p_inn ds = .ok d := e
    unfold p_inn at e
    split at e
    · rfl
    · rfl
    · cases e
  exact ⟨PE.imp (pe_cmpR ho h1 h2 rfl) fun σ H Q h => op2 hs hn h, PT.imp (pt_cmpR ho h1 h2 rfl) fun σ H Q h => op2 hs hn (of_test h)⟩
theorem pe_innL (G : Gd C X N sc) {c d : E} {x : Expr} {y : Expr} {gs : List Comprehension} {sp : Scope} {q pos : Pos} (h1 : PE X x (tO C n c)) (h2 : PE X (.ListComp y gs sp q) (tO C n d)) : PE X (.Compare x [.In] [.ListComp y gs sp q] pos) (tE C (n + 1) (.pr .inn [c, d])) ∧ PT X (.Compare x [.In] [.ListComp y gs sp q] pos) (tT C (n + 1) (.pr .inn [c, d])) := by
  have hK := G.hK
  have un := G.un
  have ho : OpR X (compareOp .In) (rInV X.K) := OpR.or (op_inD (by omega)) op_in_sign
  have hs : OpS C.K .inn (rInV X.K) := by rw [hK]; exact fun a b c d e => inn_ok a b c d e
  have hn : ∀ ds d, prim .inn ds = .ok d → ds.length = 2 := fun ds d e => by
    have e : p_inn ds = .ok d := e
    unfold p_inn at e
    split at e
    · rfl
    · rfl
    · cases e
  exact ⟨PE.imp (pe_cmpR ho h1 h2 rfl) fun σ H Q h => op2 hs hn h, PT.imp (pt_cmpR ho h1 h2 rfl) fun σ H Q h => op2 hs hn (of_test h)⟩
theorem pe_ninE (G : Gd C X N sc) {c d : E} {x : Expr} {y : Str} {yp pos : Pos} (h1 : PE X x (tO C n c)) (h2 : PE X (.Name y yp) (tO C n d)) : PE X (.Compare x [.NotIn] [.Name y yp] pos) (tE C (n + 1) (.pr .nin [c, d])) ∧ PT X (.Compare x [.NotIn] [.Name y yp] pos) (tT C (n + 1) (.pr .nin [c, d])) := by
  have hK := G.hK
  have un := G.un
  have ho : OpR X (compareOp .NotIn) (rNotInV X.K) := OpR.or (op_notInD (by omega)) op_notIn_sign
  have hs : OpS C.K .nin (rNotInV X.K) := by rw [hK]; exact fun a b c d e => nin_ok a b c d e
  have hn : ∀ ds d, prim .nin ds = .ok d → ds.length = 2 := fun ds d e => by
    have e : p_nin ds = .ok d := e
    unfold p_nin at e
    split at e
    · rfl
    · rfl
    · cases e
  exact ⟨PE.imp (pe_cmpR ho h1 h2 rfl) fun σ H Q h => op2 hs hn h, PT.imp (pt_cmpR ho h1 h2 rfl) fun σ H Q h => op2 hs hn (of_test h)⟩
theorem pe_ninL (G : Gd C X N sc) {c d : E} {x : Expr} {y : Expr} {gs : List Comprehension} {sp : Scope} {q pos : Pos} (h1 : PE X x (tO C n c)) (h2 : PE X (.ListComp y gs sp q) (tO C n d)) : PE X (.Compare x [.NotIn] [.ListComp y gs sp q] pos) (tE C (n + 1) (.pr .nin [c, d])) ∧ PT X (.Compare x [.NotIn] [.ListComp y gs sp q] pos) (tT C (n + 1) (.pr .nin [c, d])) := by
  have hK := G.hK
  have un := G.un
  have ho : OpR X (compareOp .NotIn) (rNotInV X.K) := OpR.or (op_notInD (by omega)) op_notIn_sign
  have hs : OpS C.K .nin (rNotInV X.K) := by rw [hK]; exact fun a b c d e => nin_ok a b c d e
  have hn : ∀ ds d, prim .nin ds = .ok d → ds.length = 2 := fun ds d e => by
    have e : p_nin ds = .ok d := e
    unfold p_nin at e
    split at e
    · rfl
    · rfl
    · cases e
  exact ⟨PE.imp (pe_cmpR ho h1 h2 rfl) fun σ H Q h => op2 hs hn h, PT.imp (pt_cmpR ho h1 h2 rfl) fun σ H Q h => op2 hs hn (of_test h)⟩
theorem pe_isE (G : Gd C X N sc) {c : E} {x : Expr} {k : Nat} {pos p2 : Pos} (h1 : PE X x (tO C n c)) : PE X (.Compare x [.Is] [.Constant .none k p2] pos) (tE C (n + 1) (.pr .isn [c])) ∧ PT X (.Compare x [.Is] [.Constant .none k p2] pos) (tT C (n + 1) (.pr .isn [c])) := by
  have go : ∀ {σ : St} {H : Hp} {Q : VK}, tE C (n + 1) (.pr .isn [c]) σ H Q → tO C n c σ H fun x H1 => (V.non = V.non ∧ Q (.bl (decide (x = .non))) H1) := fun {σ H Q} h =>
    op1 (p := .isn) (r := fun x H Q => (V.non = V.non ∧ Q (.bl (decide (x = .non))) H)) (fun a b s q => ⟨rfl, isn_ok a b s q⟩) (prim_len1 (by simp)) h
  exact ⟨PE.imp (pe_cmpR op_isN h1 pe_non rfl) fun σ H Q h => go h, PT.imp (pt_cmpR op_isN h1 pe_non rfl) fun σ H Q h => go (of_test h)⟩
theorem pe_nisE (G : Gd C X N sc) {c : E} {x : Expr} {k : Nat} {pos p2 : Pos} (h1 : PE X x (tO C n c)) : PE X (.Compare x [.IsNot] [.Constant .none k p2] pos) (tE C (n + 1) (.pr .nisn [c])) ∧ PT X (.Compare x [.IsNot] [.Constant .none k p2] pos) (tT C (n + 1) (.pr .nisn [c])) := by
  have go : ∀ {σ : St} {H : Hp} {Q : VK}, tE C (n + 1) (.pr .nisn [c]) σ H Q → tO C n c σ H fun x H1 => (V.non = V.non ∧ Q (.bl (!decide (x = .non))) H1) := fun {σ H Q} h =>
    op1 (p := .nisn) (r := fun x H Q => (V.non = V.non ∧ Q (.bl (!decide (x = .non))) H)) (fun a b s q => ⟨rfl, nisn_ok a b s q⟩) (prim_len1 (by simp)) h
  exact ⟨PE.imp (pe_cmpR op_notN h1 pe_non rfl) fun σ H Q h => go h, PT.imp (pt_cmpR op_notN h1 pe_non rfl) fun σ H Q h => go (of_test h)⟩
theorem pe_negE {c : E} {x : Expr} {pos : Pos} (h1 : PE X x (tO C n c)) : PE X (.UnaryOp .USub x pos) (tE C (n + 1) (.pr .neg [c])) :=
  PE.imp (pe_un un_neg h1) fun σ H Q h => op1 (p := .neg) (fun a b s q => neg_ok a b s q) (prim_len1 (by simp)) h
theorem pe_notE {c : E} {x : Expr} {pos : Pos} (h1 : PE X x (tO C n c)) : PE X (.UnaryOp .Not x pos) (tE C (n + 1) (.pr .not [c])) :=
  PE.imp (pe_not h1) fun σ H Q h => op1 (p := .not) (r := fun x H Q => ∃ c, x = .bl c ∧ Q (.bl (!c)) H) (fun a b s q => not_ok a b s q) (prim_len1 (by simp)) h
theorem evArgs1 {f : E → En → R (D × En)} {c : E} (hb : noBw c = true) (en : En) : evArgs f [c] en = (f c en).bind fun p => .ok ([.d p.1], p.2) := by
  cases c <;> first | rfl | cases hb
theorem pt_notE {c : E} {x : Expr} {pos : Pos} (hb : noBw c = true) (h1 : PT X x (tT C n c)) : PT X (.UnaryOp .Not x pos) (tT C (n + 1) (.pr .not [c])) := by
  refine PT.imp (pt_not h1) fun σ H Q h => ?_
  obtain ⟨F, en, ok, h⟩ := h
  refine ⟨F, en, ok, ?_⟩
  have h : ResT C σ F H en ((evArgs (evE C.T n) [c] en).bind fun q => match resolveD q.2 q.1 with
      | none => .bad
      | some ds => (prim .not ds).bind fun d => .ok (d, q.2)) Q := h
  rw [evArgs1 hb] at h
  cases r : evE C.T n c en with
  | bad => rw [r] at h; exact h
  | ex c l => rw [r] at h; exact h
  | ok p =>
    rw [r] at h
    obtain ⟨d, en1⟩ := p
    have h : ResT C σ F H en ((p_not [d]).bind fun d => .ok (d, en1)) Q := h
    cases d <;> first | exact h.elim | skip
    obtain ⟨b', e, h⟩ := h
    cases e
    exact ⟨_, rfl, h⟩
theorem pe_ixE (G : Gd C X N sc) {c d : E} {x y : Expr} {pos : Pos} (hs : PlainIx y) (h1 : PE X x (tO C n c)) (h2 : PE X y (tO C n d)) : PE X (.Subscript x y pos) (tE C (n + 1) (.pr .ix [c, d])) := by
  have hK := G.hK
  refine PE.imp (pe_ix ix_seq h1 h2 hs) fun σ H Q h => ?_
  rw [hK]
  exact op2 (p := .ix) (fun a b c d e => ix_ok a b c d e) (prim_len2 (by simp)) h
section
variable {K : PySem.W.Frag} {F H : Hp} {Q : VK} {d d1 d2 d3 : D} {x y z : V}
theorem slA_ok (h : p_slA [d1, d2] = .ok d) (a : DA K F H x d1) (b : DA K F H y d2) (s : Same F H) (q : Qz K F H d Q) : ∃ i, y = .int i ∧ rSl K x none (some i) H Q := by
  unfold p_slA at h
  split at h
  · rename_i l i e; cases e; cases h; exact ⟨i, b.int, slL_okF a s q.f⟩
  · rename_i l i e; cases e; cases h; exact ⟨i, b.int, slS_okF a s q.f⟩
  · rename_i l i e; cases e; cases h; exact ⟨i, b.int, slT_ok a s q⟩
  · rename_i z i e; cases e; split at h
    · rename_i hz; cases h; exact ⟨i, b.int, slX_ok a hz s q⟩
    · cases h
  · cases h
theorem slB_ok (h : p_slB [d1, d2] = .ok d) (a : DA K F H x d1) (b : DA K F H y d2) (s : Same F H) (q : Qz K F H d Q) : ∃ i, y = .int i ∧ rSl K x (some i) none H Q := by
  unfold p_slB at h
  split at h
  · rename_i l i e; cases e; cases h; exact ⟨i, b.int, slL_okF a s q.f⟩
  · rename_i l i e; cases e; cases h; exact ⟨i, b.int, slS_okF a s q.f⟩
  · rename_i l i e; cases e; cases h; exact ⟨i, b.int, slT_ok a s q⟩
  · rename_i z i e; cases e; split at h
    · rename_i hz; cases h; exact ⟨i, b.int, slX_ok a hz s q⟩
    · cases h
  · cases h
theorem slC_ok (h : p_slC [d1, d2, d3] = .ok d) (a : DA K F H x d1) (b : DA K F H y d2) (c : DA K F H z d3) (s : Same F H) (q : Qz K F H d Q) : ∃ i, y = .int i ∧ ∃ j, z = .int j ∧ rSl K x (some i) (some j) H Q := by
  unfold p_slC at h
  split at h
  · rename_i l i j e; cases e; cases h; exact ⟨i, b.int, j, c.int, slL_okF a s q.f⟩
  · rename_i l i j e; cases e; cases h; exact ⟨i, b.int, j, c.int, slS_okF a s q.f⟩
  · rename_i l i j e; cases e; cases h; exact ⟨i, b.int, j, c.int, slT_ok a s q⟩
  · cases h
end
theorem pe_slAE (G : Gd C X N sc) {c d : E} {x y : Expr} {p2 pos : Pos} (h1 : PE X x (tO C n c)) (h2 : PE X y (tO C n d)) : PE X (.Subscript x (.Slice none (some y) none p2) pos) (tE C (n + 1) (.pr .slA [c, d])) := by
  have hK := G.hK
  refine PE.imp (pe_slice sl_V h1 po_none (po_some h2)) fun σ H Q h => ?_
  rw [hK]
  exact op2 (p := .slA) (r := fun x y H Q => ∃ i, y = .int i ∧ rSl C.K x none (some i) H Q) (fun a b c d e => slA_ok a b c d e) (prim_len2 (by simp)) h
theorem pe_slBE (G : Gd C X N sc) {c d : E} {x y : Expr} {p2 pos : Pos} (h1 : PE X x (tO C n c)) (h2 : PE X y (tO C n d)) : PE X (.Subscript x (.Slice (some y) none none p2) pos) (tE C (n + 1) (.pr .slB [c, d])) := by
  have hK := G.hK
  refine PE.imp (pe_slice sl_V h1 (po_some h2) po_none) fun σ H Q h => ?_
  rw [hK]
  exact op2 (p := .slB) (r := fun x y H Q => ∃ i, y = .int i ∧ rSl C.K x (some i) none H Q) (fun a b c d e => slB_ok a b c d e) (prim_len2 (by simp)) h
theorem evArgs_app {f : E → En → R (D × En)} : ∀ (l m : List E) (en : En), evArgs f (l ++ m) en = (evArgs f l en).bind fun p => (evArgs f m p.2).bind fun q => .ok (p.1 ++ q.1, q.2)
  | [], m, en => by
    show evArgs f m en = (evArgs f m en).bind fun q => .ok ([] ++ q.1, q.2)
    cases evArgs f m en <;> rfl
  | e :: es, m, en => by
    have gen : ∀ g : E → R (D × En), (∀ es, evArgs f (e :: es) en = (g e).bind fun p => (evArgs f es p.2).bind fun q => .ok (.d p.1 :: q.1, q.2)) → evArgs f (e :: es ++ m) en = (evArgs f (e :: es) en).bind fun p => (evArgs f m p.2).bind fun q => .ok (p.1 ++ q.1, q.2) := fun g h => by
      rw [List.cons_append, h, h]
      cases g e with
      | bad => rfl
      | ex _ _ => rfl
      | ok p =>
        show (evArgs f (es ++ m) p.2).bind _ = ((evArgs f es p.2).bind _).bind _
        rw [evArgs_app es m p.2]
        cases evArgs f es p.2 with
        | bad => rfl
        | ex _ _ => rfl
        | ok q =>
          show ((evArgs f m q.2).bind _).bind _ = (evArgs f m q.2).bind _
          cases evArgs f m q.2 <;> rfl
    have own : ∀ (mk : AV) (b : Bool), (∀ es, evArgs f (e :: es) en = if b then (evArgs f es en).bind fun q => .ok (mk :: q.1, q.2) else .bad) → evArgs f (e :: es ++ m) en = (evArgs f (e :: es) en).bind fun p => (evArgs f m p.2).bind fun q => .ok (p.1 ++ q.1, q.2) := fun mk b h => by
      rw [List.cons_append, h, h]
      cases b with
      | false => rfl
      | true =>
        show (evArgs f (es ++ m) en).bind _ = ((evArgs f es en).bind _).bind _
        rw [evArgs_app es m en]
        cases evArgs f es en with
        | bad => rfl
        | ex _ _ => rfl
        | ok q =>
          show ((evArgs f m q.2).bind _).bind _ = (evArgs f m q.2).bind _
          cases evArgs f m q.2 <;> rfl
    cases e with
    | bw i => exact own (.b i) (ownAt en i).isSome fun _ => rfl
    | io i => exact own (.o i) (ownAt en i).isSome fun _ => rfl
    | c _ => exact gen (fun e => f e en) fun _ => rfl
    | g _ => exact gen (fun e => f e en) fun _ => rfl
    | v _ => exact gen (fun e => f e en) fun _ => rfl
    | pr _ _ => exact gen (fun e => f e en) fun _ => rfl
    | and_ _ _ => exact gen (fun e => f e en) fun _ => rfl
    | or_ _ _ => exact gen (fun e => f e en) fun _ => rfl
    | ite _ _ _ => exact gen (fun e => f e en) fun _ => rfl
    | ch _ _ _ _ _ => exact gen (fun e => f e en) fun _ => rfl
    | call _ _ _ => exact gen (fun e => f e en) fun _ => rfl
    | lc _ _ _ _ _ _ => exact gen (fun e => f e en) fun _ => rfl
    | lcb _ _ _ _ _ => exact gen (fun e => f e en) fun _ => rfl
theorem still_ex {T : Tab} {e : E} (h : still e = true) (en : En) (c : Str) (l : List D) : evE T n e en ≠ .ex c l := by
  cases n with
  | zero => exact fun z => nomatch z
  | succ n =>
    cases e <;> first | cases h | skip
    · exact fun z => nomatch z
    · intro z
      unfold evE at z
      simp only at z
      split at z <;> cases z
theorem still_en {T : Tab} {e : E} (h : still e = true) {en en' : En} {d : D} (r : evE T n e en = .ok (d, en')) : en' = en := by
  cases n with
  | zero => cases r
  | succ n =>
    cases e <;> first | cases h | skip
    · cases r; rfl
    · unfold evE at r
      simp only at r
      split at r <;> cases r
      rfl
theorem resolveD_snoc {en : En} {d : D} : ∀ {as : List AV} {ds : List D}, resolveD en (as ++ [.d d]) = some ds → ∃ ds', resolveD en as = some ds' ∧ ds = ds' ++ [d]
  | [], ds, h => by cases h; exact ⟨[], rfl, rfl⟩
  | .d x :: as, ds, h => by
    rw [List.cons_append] at h
    unfold resolveD at h
    cases r : resolveD en (as ++ [.d d]) with
    | none => rw [r] at h; cases h
    | some q =>
      rw [r] at h
      cases h
      obtain ⟨q', e1, e2⟩ := resolveD_snoc r
      exact ⟨x :: q', by unfold resolveD; rw [e1]; rfl, by rw [e2]; rfl⟩
  | .b i :: as, ds, h => by
    rw [List.cons_append] at h
    unfold resolveD at h
    cases o : ownAt en i with
    | none => simp only [o] at h; cases h
    | some l =>
      simp only [o] at h
      cases r : resolveD en (as ++ [.d d]) with
      | none => rw [r] at h; cases h
      | some q =>
        rw [r] at h
        cases h
        obtain ⟨q', e1, e2⟩ := resolveD_snoc r
        exact ⟨.lst l :: q', by unfold resolveD; simp only [o]; rw [e1]; rfl, by rw [e2]; rfl⟩
  | .o _ :: _, _, h => by cases h
theorem slC_two {ds : List D} {d3 dd : D} (h : p_slC (ds ++ [d3]) = .ok dd) : ∃ d1 i, ds = [d1, .int i] := by
  generalize e : ds ++ [d3] = xs at h
  have key : ∀ (a : D) (i j : Int), ds ++ [d3] = [a, .int i, .int j] → ∃ d1 i, ds = [d1, .int i] := fun a i j e => by
    have q : ds ++ [d3] = [a, .int i] ++ [.int j] := e
    exact ⟨a, i, (List.append_inj_left' q rfl)⟩
  unfold p_slC at h
  split at h <;> first
    | exact key _ _ _ e
    | cases h
theorem AvA.app {K : PySem.W.Frag} {F : Hp} {σ : St} : ∀ {as bs : List AV} {us vs : List V}, AvA K F σ as us → AvA K F σ bs vs → AvA K F σ (as ++ bs) (us ++ vs)
  | _, _, _, _, .nil, h => h
  | _, _, _, _, .d a t, h => .d a (AvA.app t h)
  | _, _, _, _, .b a t, h => .b a (AvA.app t h)
  | _, _, _, _, .o a t, h => .o a (AvA.app t h)
theorem pe_slCE (G : Gd C X N sc) {c d e : E} {x y z : Expr} {p2 pos : Pos} (he : still e = true) (h1 : PE X x (tO C n c)) (h2 : PE X y (tO C n d)) (h3 : PE X z (tE C n e)) : PE X (.Subscript x (.Slice (some y) (some z) none p2) pos) (tE C (n + 1) (.pr .slC [c, d, e])) := by
  have hK := G.hK
  have nb : noBw e = true := by cases e <;> first | rfl | cases he
  refine PE.imp (pe_slice sl_V h1 (po_some h2) (po_some h3)) fun σ H Q h => ?_
  rw [hK]
  obtain ⟨F, en, k, h⟩ := h
  have h : Res C σ F H en ((evArgs (evE C.T n) ([c, d] ++ [e]) en).bind fun q => match resolveD q.2 q.1 with
      | none => .bad
      | some ds => (prim .slC ds).bind fun d => .ok (d, q.2)) Q := h
  rw [evArgs_app] at h
  have go : tA C n [c, d] σ H fun vs H2 => match vs with
    | [x, y] => ∃ i, y = .int i ∧ tE C n e σ H2 fun z H3 => ∃ j, z = .int j ∧ rSl C.K x (some i) (some j) H3 Q
    | _ => False := by
    refine args_run [c, d] k ?_
    cases r : evArgs (evE C.T n) [c, d] en with
    | bad => rw [r] at h; exact h
    | ex c l => rw [r] at h; exact h
    | ok p =>
      obtain ⟨as, en2⟩ := p
      rw [r] at h
      have h : Res C σ F H en (((evArgs (evE C.T n) [e] en2).bind fun q => .ok (as ++ q.1, q.2)).bind fun q => match resolveD q.2 q.1 with
        | none => .bad
        | some ds => (prim .slC ds).bind fun d => .ok (d, q.2)) Q := h
      rw [evArgs1 nb] at h
      intro vs F2 H2 g2 k2 a2
      cases r3 : evE C.T n e en2 with
      | bad => rw [r3] at h; exact h.elim
      | ex c l => exact absurd r3 (still_ex he en2 c l)
      | ok p3 =>
        obtain ⟨d3, en3⟩ := p3
        rw [r3] at h
        have h : Res C σ F H en (match resolveD en3 (as ++ [.d d3]) with
          | none => .bad
          | some ds => (prim .slC ds).bind fun d => .ok (d, en3)) Q := h
        cases r4 : resolveD en3 (as ++ [.d d3]) with
        | none => rw [r4] at h; exact h.elim
        | some ds =>
          rw [r4] at h
          have h : Res C σ F H en ((p_slC ds).bind fun d => .ok (d, en3)) Q := h
          have e3 := still_en he r3
          subst e3
          obtain ⟨ds2, r6, rfl⟩ := resolveD_snoc r4
          have q2 := a2.das k2 r6
          cases r5 : p_slC (ds2 ++ [d3]) with
          | bad => rw [r5] at h; exact h.elim
          | ex c m => exact absurd r5 (prim_noex .slC _ c m)
          | ok dd =>
            rw [r5] at h
            have hz : Nxt C σ F H en _ dd Q := h
            obtain ⟨d1, i, e1⟩ := slC_two r5
            subst e1
            obtain ⟨x, y, rfl, b1, b2⟩ := q2.inv2
            refine ⟨i, b2.int, F2, _, k2, ?_⟩
            rw [r3]
            intro z F3 H3 g3 k3 dn
            obtain ⟨x', y', z', e0, a1, a2', a3⟩ := (((a2.up g3.sub).app (.d dn .nil)).das k3 r4).inv3
            cases e0
            obtain ⟨i', e4, j, e5, q⟩ := slC_ok r5 a1 a2' a3 k3.sub (Nxt.z hz (g2.trans g3) k3)
            rw [b2.int] at e4
            cases e4
            exact ⟨j, e5, q⟩
  exact go
theorem rev_ok {K : PySem.W.Frag} {F H : Hp} {Q : VK} {d d1 : D} {x : V} (h : p_rev [d1] = .ok d) (a : DA K F H x d1) (s : Same F H) (q : Qz K F H d Q) :
    ∃ p xs, x = .ref p ∧ ((SqL K H p xs ∧ ∀ r, H r = none → Q (.ref r) (upd H r (.lst xs.reverse))) ∨ (SqT K H p xs ∧ ∀ r, H r = none → Q (.ref r) (upd H r (.tup xs.reverse)))) := by
  unfold p_rev at h
  split at h
  · rename_i e; cases e; cases h
    obtain ⟨p, us, rfl, h1, h2⟩ := a.lst s
    exact ⟨p, us, rfl, .inl ⟨SqL.of h1, q.f.lst s h2.rev⟩⟩
  · rename_i e; cases e; cases h
    obtain ⟨p, rfl, h1⟩ := a.scr s
    exact ⟨p, _, rfl, .inl ⟨h1, q.f.lst s (dnInts _).rev⟩⟩
  · rename_i e; cases e; cases h
    obtain ⟨p, us, rfl, h1, h2⟩ := a.tup s
    exact ⟨p, us, rfl, .inr ⟨h1, q.tup s h2.rev⟩⟩
  · cases h
theorem pe_revE (G : Gd C X N sc) {c : E} {x : Expr} {k : Nat} {p1 p2 p3 pos : Pos} (h1 : PE X x (tO C n c)) : PE X (.Subscript x (.Slice none none (some (.UnaryOp .USub (.Constant (.int 1) k p1) p2)) p3) pos) (tE C (n + 1) (.pr .rev [c])) := by
  have hK := G.hK
  refine PE.imp (pe_revA h1) fun σ H Q h => ?_
  rw [hK]
  exact op1 (p := .rev) (r := fun x H Q => ∃ p xs, x = .ref p ∧ ((SqL C.K H p xs ∧ ∀ r, H r = none → Q (.ref r) (upd H r (.lst xs.reverse))) ∨ (SqT C.K H p xs ∧ ∀ r, H r = none → Q (.ref r) (upd H r (.tup xs.reverse))))) (fun a b s q => rev_ok a b s q) (prim_len1 (by simp)) h
theorem star_O {c : E} {y : Expr} (h : matO (matE n df N sc) N sc c y = true) (env : PySem.Env) : starEach [y] env = (false, eval y env) :: starEach [] env := matO_star h env []
theorem any_O {pos : Pos} {env : PySem.Env} : ∀ {l : List E} {es : List Expr}, matL (matO (matE n df N sc) N sc) l es = true → (backTo pos (starEach es env)).any (·.1) = false
  | [], [], _ => rfl
  | c :: cs, a :: as, h => by
    obtain ⟨h1, h2⟩ := and2 h
    rw [matO_star h1]
    show (false || (backTo pos (starEach as env)).any (·.1)) = false
    rw [any_O h2]
    rfl
  | [], _ :: _, h => by cases h
  | _ :: _, [], h => by cases h
theorem prim1_run {p : Pr} {c : E} {σ : St} {H : Hp} {Q : VK} {r : RR} (hn : ∀ ds d, prim p ds = .ok d → ds.length = 1) (hr : ∀ {F H : Hp} {Q : VK} {d d1 : D} {x : V}, prim p [d1] = .ok d → DA C.K F H x d1 → Same F H → Qz C.K F H d Q → r [x] H Q)
    (h : tE C (n + 1) (.pr p [c]) σ H Q) : tCB r (tA C n [c]) σ H Q := by
  obtain ⟨F, en, k, h⟩ := h
  exact prim_run (R := fun vs H1 => r vs H1 Q) k h (fun vs ds d F1 H1 a e s q => by
    have l := hn ds d e
    match ds, l with
    | [d1], _ =>
      obtain ⟨x, rfl, a1⟩ := a.inv1
      exact hr e a1 s q) (prim_noex p)
theorem prim2_run {p : Pr} {c c2 : E} {σ : St} {H : Hp} {Q : VK} {r : RR} (hn : ∀ ds d, prim p ds = .ok d → ds.length = 2) (hr : ∀ {F H : Hp} {Q : VK} {d d1 d2 : D} {x y : V}, prim p [d1, d2] = .ok d → DA C.K F H x d1 → DA C.K F H y d2 → Same F H → Qz C.K F H d Q → r [x, y] H Q)
    (h : tE C (n + 1) (.pr p [c, c2]) σ H Q) : tCB r (tA C n [c, c2]) σ H Q := by
  obtain ⟨F, en, k, h⟩ := h
  exact prim_run (R := fun vs H1 => r vs H1 Q) k h (fun vs ds d F1 H1 a e s q => by
    have l := hn ds d e
    match ds, l with
    | [d1, d2], _ =>
      obtain ⟨x, y, rfl, a1, a2⟩ := a.inv2
      exact hr e a1 a2 s q) (prim_noex p)
theorem pe_call1E (G : Gd C X N sc) (ih : Sx C X n df N sc) {p : Pr} {c : E} {x : Str} {y : Expr} {p2 pos : Pos} (hb : call1B p x = true) (hg : glbB sc x = true) (h : matO (matE n df N sc) N sc c y = true) : PE X (.Call (.Name x p2) [y] [] pos) (tE C (n + 1) (.pr p [c])) := by
  have hK := G.hK
  have ha : PA X [y] (tA C n [c]) := pa_O G ih (l := [c]) ((Bool.and_eq_true _ _).mpr ⟨h, rfl⟩)
  have hs := star_O h X.env
  unfold call1B at hb
  split at hb
  · have e := of_decide_eq_true hb
    subst e
    exact PE.imp (pe_callB (CallR.or call_len_seq call_len_str) (glb_of G.hs hg) (G.blt _ (by decide)) rfl ha (he := hs) (hpl := rfl)) fun σ H Q h => by rw [hK]; exact prim1_run (p := .len) (r := rLenV C.K) (prim_len1 (by simp)) (fun a b s q => len_ok a b s q) h
  · have e := of_decide_eq_true hb
    subst e
    exact PE.imp (pe_callB call_abs (glb_of G.hs hg) (G.blt _ (by decide)) rfl ha (he := hs) (hpl := rfl)) fun σ H Q h => prim1_run (p := .abs) (r := rAbsV) (prim_len1 (by simp)) (fun a b s q => abs_ok a b s q) h
  · have e := of_decide_eq_true hb
    subst e
    exact PE.imp (pe_callTy (CallR.or call_int1 call_int_str) (glb_of G.hs hg) (G.blt _ (by decide)) rfl ha (he := hs) (hpl := rfl)) fun σ H Q h => prim1_run (p := .int) (r := rIntV) (prim_len1 (by simp)) (fun a b s q => int_ok a b s q) h
  · have e := of_decide_eq_true hb
    subst e
    exact PE.imp (pe_callB (call_reprV G.guards G.room) (glb_of G.hs hg) (G.blt _ (by decide)) rfl ha (he := hs) (hpl := rfl)) fun σ H Q h => by rw [hK]; exact prim1_run (p := .repr) (r := rReprV C.K) (prim_len1 (by simp)) (fun a b s q => repr_ok a b s q) h
  · have e := of_decide_eq_true hb
    subst e
    exact PE.imp (pe_callTy call_list_of (glb_of G.hs hg) (G.blt _ (by decide)) rfl ha (he := hs) (hpl := rfl)) fun σ H Q h => by
      rw [hK]
      exact prim1_run (p := .list) (r := rListV C.K) (prim_len1 (by simp)) (fun {F H Q d d1 x} a b s q => by
        have a : p_list [d1] = .ok d := a
        have a0 := a
        unfold p_list at a
        split at a <;> first
          | (cases a; exact list_okF a0 b s q.f)
          | cases a) h
  · have e := of_decide_eq_true hb
    subst e
    exact PE.imp (pe_callTy call_tuple_of (glb_of G.hs hg) (G.blt _ (by decide)) rfl ha (he := hs) (hpl := rfl)) fun σ H Q h => by rw [hK]; exact prim1_run (p := .tuple) (r := rTupV C.K) (prim_len1 (by simp)) (fun a b s q => tuple_ok a b s q) h
  · have e := of_decide_eq_true hb
    subst e
    exact PE.imp (pe_callB (cr_sum G.calm) (glb_of G.hs hg) (G.blt _ (by decide)) rfl ha (he := hs) (hpl := rfl)) fun σ H Q h => by rw [hK]; exact prim1_run (p := .sum) (r := rSum C.K) (prim_len1 (by simp)) (fun a b s q => sum_ok a b s q) h
  · have e := of_decide_eq_true hb
    subst e
    exact PE.imp (pe_callB (cr_all G.calm) (glb_of G.hs hg) (G.blt _ (by decide)) rfl ha (he := hs) (hpl := rfl)) fun σ H Q h => by rw [hK]; exact prim1_run (p := .all) (r := rAll C.K) (prim_len1 (by simp)) (fun a b s q => all_ok a b s q) h
  · have e := of_decide_eq_true hb
    subst e
    exact PE.imp (pe_callB (cr_any G.calm) (glb_of G.hs hg) (G.blt _ (by decide)) rfl ha (he := hs) (hpl := rfl)) fun σ H Q h => by rw [hK]; exact prim1_run (p := .any) (r := rAny C.K) (prim_len1 (by simp)) (fun a b s q => any_ok a b s q) h
  · have e := of_decide_eq_true hb
    subst e
    exact PE.imp (pe_callB call_sortedV (glb_of G.hs hg) (G.blt _ (by decide)) rfl ha (he := hs) (hpl := rfl)) fun σ H Q h => by
      rw [hK]
      exact prim1_run (p := .sorted) (r := rSortedD C.K) (prim_len1 (by simp)) (fun {F H Q d d1 x} a b s q => by
        have a : p_sorted [d1] = .ok d := a
        have a0 := a
        unfold p_sorted at a
        split at a
        · split at a
          · cases a
            exact sorted_ok a0 b s q.f
          · cases a
        · cases a) h
  · have e := of_decide_eq_true hb
    subst e
    exact PE.imp (pe_callB (cr_max G.calm) (glb_of G.hs hg) (G.blt _ (by decide)) rfl ha (he := hs) (hpl := rfl)) fun σ H Q h => by rw [hK]; exact prim1_run (p := .max1) (r := rMax C.K) (prim_len1 (by simp)) (fun a b s q => max1_ok a b s q) h
  · have e := of_decide_eq_true hb
    subst e
    exact PE.imp (pe_callTy call_str_int (glb_of G.hs hg) (G.blt _ (by decide)) rfl ha (he := hs) (hpl := rfl)) fun σ H Q h => prim1_run (p := .stri) (r := rStrI) (prim_len1 (by simp)) (fun a b s q => stri_ok a b s q) h
  · cases hb
theorem pe_call2E (G : Gd C X N sc) (ih : Sx C X n df N sc) {p : Pr} {c d : E} {x : Str} {y z : Expr} {p2 pos : Pos} (hb : call2B p x = true) (hg : glbB sc x = true) (h : matO (matE n df N sc) N sc c y = true) (h2 : matO (matE n df N sc) N sc d z = true) : PE X (.Call (.Name x p2) [y, z] [] pos) (tE C (n + 1) (.pr p [c, d])) := by
  have ha : PA X [y, z] (tA C n [c, d]) := pa_O G ih (l := [c, d]) ((Bool.and_eq_true _ _).mpr ⟨h, (Bool.and_eq_true _ _).mpr ⟨h2, rfl⟩⟩)
  have hs := matO_star h X.env [z]
  have hp : (backTo pos (starEach [z] X.env)).any (·.1) = false := any_O (l := [d]) ((Bool.and_eq_true _ _).mpr ⟨h2, rfl⟩)
  unfold call2B at hb
  split at hb
  · have e := of_decide_eq_true hb
    subst e
    exact PE.imp (pe_callB (call_max2 G.calm) (glb_of G.hs hg) (G.blt _ (by decide)) rfl ha (he := hs) (hpl := hp)) fun σ H Q h => prim2_run (p := .max2) (r := rMax2V) (prim_len2 (by simp)) (fun a b c s q => max2_ok a b c s q) h
  · have e := of_decide_eq_true hb
    subst e
    exact PE.imp (pe_callB (call_min2 G.calm) (glb_of G.hs hg) (G.blt _ (by decide)) rfl ha (he := hs) (hpl := hp)) fun σ H Q h => prim2_run (p := .min2) (r := rMin2V) (prim_len2 (by simp)) (fun a b c s q => min2_ok a b c s q) h
  · have e := of_decide_eq_true hb
    subst e
    exact PE.imp (pe_callB call_isX (glb_of G.hs hg) (G.blt _ (by decide)) rfl ha (he := hs) (hpl := hp)) fun σ H Q h => by rw [G.hK]; exact prim2_run (p := .isx) (r := rIsX C.K) (prim_len2 (by simp)) (fun a b c s q => isx_ok a b c s q) h
  · cases hb
theorem pe_isiE (G : Gd C X N sc) (ih : Sx C X n df N sc) {t : Ty} {c : E} {z : Str} {y : Expr} {p1 p2 pos : Pos} (hg : glbB sc "isinstance" = true) (hb : tyB t z = true) (hz : glbB sc z = true) (h : matO (matE n df N sc) N sc c y = true) :
    PE X (.Call (.Name "isinstance" p1) [y, .Name z p2] [] pos) (tE C (n + 1) (.pr (.isi t) [c])) := by
  have hK := G.hK
  have nm : PE X (.Name z p2) (tC (.ty t.name)) := by
    unfold tyB at hb
    cases t <;> (have e := of_decide_eq_true hb; subst e; exact pe_bltn (glb_of G.hs hz) (G.blt _ (by decide)) rfl rfl)
  refine PE.imp (pe_callB (t := tCons (tO C n c) (tCons (tC (.ty t.name)) tNil)) call_isi (glb_of G.hs hg) (G.blt _ (by decide)) rfl (pa_cons (pe_O G ih h) (pa_cons nm pa_nil rfl) (matO_star h _ _)) (he := matO_star h _ _) (hpl := rfl)) fun σ H Q h => ?_
  rw [hK]
  exact op1 (p := .isi t) (r := fun x H Q => rIsi C.K [x, .ty t.name] H Q) (fun a b s q => isi_ok a b s q) (prim_len1 (by simp)) h
theorem pe_isvE (G : Gd C X N sc) (ih : Sx C X n df N sc) {c : E} {z : Str} {y : Expr} {p1 p2 pos : Pos} (hg : glbB sc "isinstance" = true) (hb : decide (z = "ValueError") = true) (hz : glbB sc z = true) (h : matO (matE n df N sc) N sc c y = true) :
    PE X (.Call (.Name "isinstance" p1) [y, .Name z p2] [] pos) (tE C (n + 1) (.pr .isv [c])) := by
  have hK := G.hK
  have nm : PE X (.Name z p2) (tC (.ty "ValueError")) := by
    have e := of_decide_eq_true hb
    subst e
    exact pe_bltn (glb_of G.hs hz) (G.blt _ (by decide)) rfl rfl
  refine PE.imp (pe_callB (t := tCons (tO C n c) (tCons (tC (.ty "ValueError")) tNil)) call_isZ (glb_of G.hs hg) (G.blt _ (by decide)) rfl (pa_cons (pe_O G ih h) (pa_cons nm pa_nil rfl) (matO_star h _ _)) (he := matO_star h _ _) (hpl := rfl)) fun σ H Q h => ?_
  rw [hK]
  exact op1 (p := .isv) (r := fun x H Q => rIsZ C.K [x, .ty "ValueError"] H Q) (fun a b s q => isv_ok a b s q) (prim_len1 (by simp)) h
end
end Vm
end
section
set_option Elab.async false
set_option linter.all false
set_option maxRecDepth 100000
namespace Vm
open PySem PySem.Spec L2
section
variable {C : Cg} {X : Cx} {N : List Str} {sc : Scope} {n : Nat} {df : Str → List D}
theorem evArgs_strict {f : E → En → R (D × En)} : ∀ {l : List E}, l.all noBw = true → ∀ en, evArgs f l en = (evList f l en).bind fun q => .ok (q.1.map AV.d, q.2)
  | [], _, en => rfl
  | e :: es, h, en => by
    rw [List.all_cons] at h
    obtain ⟨h1, h2⟩ := and2 h
    have e1 : evArgs f (e :: es) en = (f e en).bind fun p => (evArgs f es p.2).bind fun q => .ok (.d p.1 :: q.1, q.2) := by
      cases e <;> first | rfl | cases h1
    rw [e1]
    show _ = ((f e en).bind fun p => (evList f es p.2).bind fun q => .ok (p.1 :: q.1, q.2)).bind _
    cases f e en with
    | bad => rfl
    | ex _ _ => rfl
    | ok p =>
      show (evArgs f es p.2).bind _ = ((evList f es p.2).bind _).bind _
      rw [evArgs_strict h2 p.2]
      cases evList f es p.2 <;> rfl
theorem resolveD_map (en : En) : ∀ ds : List D, resolveD en (ds.map AV.d) = some ds
  | [] => rfl
  | d :: ds => by
    show (resolveD en (ds.map AV.d)).map (d :: ·) = some (d :: ds)
    rw [resolveD_map en ds]
    rfl
theorem prim_strict {T : Tab} {p : Pr} {l : List E} (h : l.all noBw = true) (en : En) : evE T (n + 1) (.pr p l) en = (evList (evE T n) l en).bind fun q => (prim p q.1).bind fun d => .ok (d, q.2) := by
  show ((evArgs (evE T n) l en).bind fun q => match resolveD q.2 q.1 with
      | none => .bad
      | some ds => (prim p ds).bind fun d => .ok (d, q.2)) = _
  rw [evArgs_strict h]
  cases evList (evE T n) l en with
  | bad => rfl
  | ex _ _ => rfl
  | ok q =>
    show (match resolveD q.2 (q.1.map AV.d) with
      | none => R.bad
      | some ds => (prim p ds).bind fun d => .ok (d, q.2)) = _
    rw [resolveD_map]
    rfl
theorem pe_tupE (ih : Sx C X n df N sc) {l : List E} {es : List Expr} {k : Nat} {pos : Pos} (hb : l.all noBw = true) (h : matL (matE n df N sc) l es = true) : PE X (.Tuple es k pos) (tE C (n + 1) (.pr .tup l)) := by
  refine PE.imp (pe_tup (pa_L ih h)) fun σ H Q h => ?_
  obtain ⟨F, en, ok, h⟩ := h
  rw [prim_strict hb] at h
  refine list_run l ok ?_
  cases r : evList (evE C.T n) l en with
  | bad => rw [r] at h; exact h
  | ex _ _ => rw [r] at h; exact h
  | ok q =>
    rw [r] at h
    intro vs F1 H1 g1 k1 dn
    have h : Res C σ F H en ((if q.1.length ≤ lineN then R.ok (D.tup q.1) else .bad).bind fun d => .ok (d, q.2)) Q := h
    split at h
    · rename_i z
      exact ⟨by rw [dn.len]; exact line_of z, Qz.tup (Nxt.z h g1 k1) k1.sub dn⟩
    · exact h.elim
theorem pe_lstF (ih : Sx C X n df N sc) {l : List E} {es : List Expr} {pos : Pos} (hb : l.all noBw = true) (h : matL (matE n df N sc) l es = true) : PE X (.List es pos) (tF C (n + 1) (.pr .lst l)) := by
  refine PE.imp (pe_lst (pa_L ih h)) fun σ H Q h => ?_
  obtain ⟨F, en, ok, h⟩ := h
  rw [prim_strict hb] at h
  refine list_run l ok ?_
  cases r : evList (evE C.T n) l en with
  | bad => rw [r] at h; exact h
  | ex _ _ => rw [r] at h; exact h
  | ok q =>
    rw [r] at h
    intro vs F1 H1 g1 k1 dn
    have h : ResF C σ F H en ((if q.1.length ≤ lineN then R.ok (D.lst q.1) else .bad).bind fun d => .ok (d, q.2)) Q := h
    split at h
    · rename_i z
      obtain ⟨ds, e, h⟩ := h
      cases e
      exact ⟨by rw [dn.len]; exact line_of z, Qf.lst (NxtF.z h g1 k1) k1.sub dn⟩
    · exact h.elim
theorem lst_isL {T : Tab} {l : List E} (hb : l.all noBw = true) {en : En} {p : D × En} (h : evE T (n + 1) (.pr .lst l) en = .ok p) : ∃ ds, p.1 = .lst ds := by
  rw [prim_strict hb] at h
  cases r : evList (evE T n) l en with
  | bad => rw [r] at h; cases h
  | ex _ _ => rw [r] at h; cases h
  | ok q =>
    rw [r] at h
    have h : (if q.1.length ≤ lineN then R.ok (D.lst q.1) else .bad).bind (fun d => R.ok (d, q.2)) = .ok p := h
    split at h <;> cases h
    exact ⟨_, rfl⟩
theorem ch_run {o p : Pr} {oo pp : CmpOp} {a b c : E} {r r' : R2} (hb : cmpB o oo = true) (hb2 : cmpB p pp = true) (hs : OpS C.K o r) (hs2 : OpS C.K p r') {σ : St} {H : Hp} {Q : VK} (h : tE C (n + 1) (.ch o p a b c) σ H Q) : tChain r r' (tE C n a) (tE C n b) (tE C n c) σ H Q := by
  obtain ⟨F, en, ok, h⟩ := h
  have h : Res C σ F H en ((evList (evE C.T n) [a, b] en).bind fun q => match q.1 with
      | [x, y] => (prim o [x, y]).bind fun z => match z with
        | .bl true => (evE C.T n c q.2).bind fun r => (prim p [y, r.1]).bind fun d => .ok (d, r.2)
        | .bl false => .ok (.bl false, q.2)
        | _ => .bad
      | _ => .bad) Q := h
  have go : tLs C n [a, b] σ H fun vs H2 => match vs with
    | [x, y] => r x y H2 fun z H3 => ∃ k, z = .bl k ∧ (if k = true then tE C n c σ H3 fun w' H4 => r' y w' H4 Q else Q (.bl false) H3)
    | _ => False := by
    refine list_run [a, b] ok ?_
    cases e : evList (evE C.T n) [a, b] en with
    | bad => rw [e] at h; exact h
    | ex _ _ => rw [e] at h; exact h
    | ok q =>
      rw [e] at h
      obtain ⟨ds, en1⟩ := q
      intro vs F1 H1 g1 k1 dn
      match ds, vs, dn with
      | [x, y], [v, u], .cons d1 (.cons d2 .nil) =>
        have h : Res C σ F H en ((prim o [x, y]).bind fun z => match z with
          | .bl true => (evE C.T n c en1).bind fun r => (prim p [y, r.1]).bind fun d => .ok (d, r.2)
          | .bl false => .ok (.bl false, en1)
          | _ => .bad) Q := h
        cases e2 : prim o [x, y] with
        | bad => rw [e2] at h; exact h.elim
        | ex c m => exact absurd e2 (prim_noex o _ c m)
        | ok z =>
          rw [e2] at h
          obtain ⟨k, rfl⟩ := cmp_bl hb e2
          refine hs e2 (.inl d1) (.inl d2) k1.sub ?_
          intro v' F2 H2 px dn2
          cases dn2
          refine ⟨k, rfl, ?_⟩
          cases k with
          | false =>
            rw [if_neg (fun z => nomatch z)]
            have h : Nxt C σ F H en en1 (.bl false) Q := h
            exact h _ F2 H2 (g1.trans px.go) (k1.px px) (.bl _)
          | true =>
            rw [if_pos rfl]
            have h : Res C σ F H en ((evE C.T n c en1).bind fun r => (prim p [y, r.1]).bind fun d => .ok (d, r.2)) Q := h
            refine ⟨F2, en1, k1.px px, ?_⟩
            cases e3 : evE C.T n c en1 with
            | bad => rw [e3] at h; exact h
            | ex _ _ => rw [e3] at h; exact Wish.mono h (g1.trans px.go).sub
            | ok q3 =>
              rw [e3] at h
              intro w F3 H3 g3 k3 dn3
              have h : Res C σ F H en ((prim p [y, q3.1]).bind fun d => .ok (d, q3.2)) Q := h
              cases e4 : prim p [y, q3.1] with
              | bad => rw [e4] at h; exact h.elim
              | ex c m => exact absurd e4 (prim_noex p _ c m)
              | ok d =>
                rw [e4] at h
                exact hs2 e4 (.inl ((d2.up px.sub).up g3.sub)) (.inl dn3) k3.sub (Nxt.z h ((g1.trans px.go).trans g3) k3)
      | [], _, _ => exact h.elim
      | [_], _, _ => exact h.elim
      | _ :: _ :: _ :: _, _, _ => exact h.elim
  exact go
theorem last_no {o p : CmpOp} {b c : Expr} (h1 : p ≠ .In) (h2 : p ≠ .NotIn) : lastMarks [o, p] [b, c] = false := nobehind c h1 h2
theorem pe_chE (G : Gd C X N sc) {o p : Pr} {oo pp : CmpOp} {a b c : E} {x y z : Expr} {pos : Pos} (hb : cmpB o oo = true) (hb2 : cmpB p pp = true) (h1 : PE X x (tE C n a)) (h2 : PE X y (tE C n b)) (h3 : PE X z (tE C n c)) :
    PE X (.Compare x [oo, pp] [y, z] pos) (tE C (n + 1) (.ch o p a b c)) ∧ PT X (.Compare x [oo, pp] [y, z] pos) (tT C (n + 1) (.ch o p a b c)) := by
  obtain ⟨r, ho, hs, _, n1, n2⟩ := cmp_ok G hb
  obtain ⟨r', ho', hs', _, m1, m2⟩ := cmp_ok G hb2
  exact ⟨PE.imp (pe_chain ho ho' h1 h2 h3 (last_no m1 m2)) fun σ H Q h => ch_run hb hb2 hs hs' h, PT.imp (pt_chain ho ho' h1 h2 h3 (last_no m1 m2)) fun σ H Q h => ch_run hb hb2 hs hs' (of_test h)⟩
theorem argsOk_app {K : PySem.W.Frag} {F H : Hp} {vs : List V} {ss : List Slot} {o : Option Addr} (a : ArgsOk K F H vs ss o) : ∀ {us : List V} {dl : List D}, DnA K F us dl → ArgsOk K F H (vs ++ us) (ss ++ dl.map Slot.val) o := by
  induction a with
  | nil e =>
    intro us dl d
    subst e
    induction d using DnA.rec (motive_1 := fun _ _ _ => True) with
    | nil => exact .nil rfl
    | cons h _ _ ih => exact .val h ih
    | _ => trivial
  | val h _ ih => intro us dl d; exact .val h (ih d)
  | own h1 h2 h3 _ ih => intro us dl d; exact .own h1 h2 h3 (ih d)
theorem nolR_false {d : D} (h : nolR false d = true) : d.nol = true := by
  unfold nolR at h
  simpa using h
theorem call_run (G : Gd C X N sc) {f : Str} {l : List E} {dl : List D} {dvs : List V} (hd : ∀ F, DnA C.K F dvs dl) {σ : St} {H : Hp} {Q : VK} {F : Hp} {en : En} (k : Ok C.B C.K F H σ en)
    (hex : ∀ c m, evE C.T (n + 1) (.call f l dl) en = .ex c m → Wish C σ F c m)
    (hok : ∀ d en2, evE C.T (n + 1) (.call f l dl) en = .ok (d, en2) → ∀ v H1 F2 H2, Go σ F H en F2 H2 en2 → Ok C.B C.K F2 H2 σ en2 → (∀ a, H a ≠ none → H1 a ≠ none) → (∀ (i : Nat) (l : List D), en2[i]? = some (Slot.own l) → ∃ p, σ[i]? = some (some (V.ref p)) ∧ H1 p ≠ none) →
      RetOk (C.T.fresh f) C.K F2 H1 H2 v d → Q v H2)
    (hb : evE C.T (n + 1) (.call f l dl) en ≠ .bad) (has : C.T.has f = true) : tG (SpOf C.K C.xi (C.T.fresh f) (C.T.call f)) dvs (WE C.W) (tA C n l) σ H Q := by
  refine args_run l k ?_
  have e0 : evE C.T (n + 1) (.call f l dl) en = ((evArgs (evE C.T n) l en).bind fun q => if ioFine q.1 then (match resolve q.2 q.1 with
      | none => .bad
      | some ss => (C.T.call f (ss ++ dl.map .val)).bind fun r => if safeB (C.T.fresh f) q.2 q.1 r then (putBack q.1 r.2 q.2).bind fun en2 => .ok (r.1, en2) else .bad) else .bad) := by
    exact if_pos has
  rw [e0] at hex hok hb
  cases r : evArgs (evE C.T n) l en with
  | bad => rw [r] at hb; exact hb rfl
  | ex c m => rw [r] at hex; exact hex c m rfl
  | ok q =>
    obtain ⟨as, en1⟩ := q
    rw [r] at hex hok hb
    have e1 : ((R.ok (as, en1)).bind fun (q : List AV × En) => if ioFine q.1 then (match resolve q.2 q.1 with
      | none => .bad
      | some ss => (C.T.call f (ss ++ dl.map .val)).bind fun r => if safeB (C.T.fresh f) q.2 q.1 r then (putBack q.1 r.2 q.2).bind fun en2 => .ok (r.1, en2) else .bad) else .bad) = if ioFine as then (match resolve en1 as with
      | none => .bad
      | some ss => (C.T.call f (ss ++ dl.map .val)).bind fun r => if safeB (C.T.fresh f) en1 as r then (putBack as r.2 en1).bind fun en2 => .ok (r.1, en2) else .bad) else R.bad (α := D × En) := rfl
    rw [e1] at hex hok hb
    cases fine : ioFine as with
    | false => rw [fine] at hb; exact absurd rfl hb
    | true =>
      rw [fine] at hex hok hb
      cases rs : resolve en1 as with
      | none => rw [rs] at hb; exact absurd rfl hb
      | some ss =>
        rw [rs] at hex hok hb
        intro vs F1 H1 g1 k1 av
        have bwF : ∀ a, Bw σ as a → F1 a = none := fun a z => by
          obtain ⟨_, _, _, _, _, _, _, q⟩ := bw_own k1 rs z
          exact q
        have hG : Same F1 (addB F1 H1 σ as) := fun a o e => by
          rw [addB_out (fun z => by rw [bwF a z] at e; cases e)]; exact e
        have hS : Same (addB F1 H1 σ as) H1 := fun a o e => by
          by_cases z : Bw σ as a
          · rw [addB_in z] at e; exact e
          · rw [addB_out z] at e; exact k1.sub _ _ e
        have c1 : ioCount as ≤ 1 := of_decide_eq_true (and2 fine).1
        have args : ArgsOk C.K (addB F1 H1 σ as) H1 vs ss (ioAddr σ as) := argsOk (as := as) k1 hG (fun i l p us _ h2 h3 h4 => by rw [addB_in ⟨i, h3, h2⟩]; exact h4) (fun p hp => by
          rw [addB_out (io_bw k1 rs fine hp)]
          obtain ⟨_, _, _, _, _, _, _, q, _⟩ := io_own k1 rs hp
          exact q) av rs (fun a z => z) c1 (.inr rfl)
        refine ⟨addB F1 H1 σ as, ioAddr σ as, ss ++ dl.map Slot.val, hS, argsOk_app args (hd _), ?_⟩
        simp only at hex hok hb
        cases rc : C.T.call f (ss ++ dl.map .val) with
        | bad => rw [rc] at hb; exact absurd rfl hb
        | ex c m =>
          rw [rc] at hex
          have w := hex c m rfl
          intro cls dx F' H' bk xi
          refine w cls dx (Vm.subB F' σ as) H' ?_ ?_ (G.xif c m cls dx F' _ H' xi)
          · refine g1.sub.trans fun a o e => ?_
            have nb : ¬ Bw σ as a := fun z => by rw [bwF a z] at e; cases e
            rw [subB_out nb]
            exact bk.bsub a o (hG a o e)
          · refine ⟨fun a o e => ?_, k1.bsub.trans fun a o e => ?_, fun a e e' => ?_, fun a o e e' => ?_, fun a e => bk.bdom a (k1.bdom a e)⟩
            · by_cases z : Bw σ as a
              · rw [subB_in z] at e; cases e
              · rw [subB_out z] at e; exact bk.sub _ _ e
            · have nb : ¬ Bw σ as a := fun z => by rw [bwF a z] at e; cases e
              rw [subB_out nb]
              exact bk.bsub a o (hG a o e)
            · by_cases z : Bw σ as a
              · exact subB_in z
              · rw [subB_out z]
                exact bk.bnew a (by show addB F1 H1 σ as a = none; rw [addB_out z]; exact k1.bnew a e e') (k1.bdom a e')
            · refine bk.bkeep a o (k1.bkeep a o e e') fun z => ?_
              obtain ⟨_, _, _, _, _, _, _, _, q⟩ := io_own k1 rs z
              rcases q with q | q
              · exact e' q
              · rw [q] at e; cases e
        | ok r =>
          rw [rc] at hex hok hb
          have e2 : ((R.ok r).bind fun r => if safeB (C.T.fresh f) en1 as r then (putBack as r.2 en1).bind fun en2 => .ok (r.1, en2) else .bad) = if safeB (C.T.fresh f) en1 as r then (putBack as r.2 en1).bind fun en2 => .ok (r.1, en2) else R.bad (α := D × En) := rfl
          rw [e2] at hex hok hb
          cases sf : safeB (C.T.fresh f) en1 as r with
          | false => rw [sf] at hb; exact absurd rfl hb
          | true =>
            rw [sf] at hex hok hb
            cases pb : putBack as r.2 en1 with
            | bad => rw [pb] at hb; exact absurd rfl hb
            | ex c m =>
              unfold putBack at pb
              split at pb <;> cases pb
            | ok en2 =>
              rw [pb] at hok
              intro v F' H' bk out ret
              have safe : hasB as = false ∨ (nolR (C.T.fresh f) r.1 = true ∧ ∀ l, r.2 = some l → ioB en1 as l = true) := by
                unfold safeB at sf
                cases z : hasB as with
                | false => exact .inl rfl
                | true =>
                  rw [z] at sf
                  obtain ⟨s1, s2⟩ := and2 (show (nolR (C.T.fresh f) r.1 && _) = true from sf)
                  refine .inr ⟨s1, fun l e => ?_⟩
                  rw [e] at s2
                  exact s2
              obtain ⟨go, ok2⟩ := call_back k1 rs fine bk out (safe.imp id fun z => z.2) pb
              have bwF' : ∀ a, Bw σ as a → ∃ us, F' a = some (.lst us) := fun a h => by
                obtain ⟨i, l, us, _, _, _, h1, h2⟩ := bw_own k1 rs h
                exact ⟨us, bk.bsub a _ (by show addB F1 H1 σ as a = _; rw [addB_in h]; exact h1)⟩
              refine hok r.1 en2 rfl v H1 (Vm.subB F' σ as) H' (g1.trans go) ok2 g1.dom (fun i l e => ?_) ?_
              · cases o : ownAt en1 i with
                | none =>
                  rw [go.vals i o] at e
                  rw [ownAt_some.mpr e] at o; cases o
                | some m =>
                  obtain ⟨p, us, q1, q2, _⟩ := k1.own i m (ownAt_some.mp o)
                  exact ⟨p, q1, some_ne q2⟩
              · unfold RetOk at ret ⊢
                cases fr : C.T.fresh f with
                | false =>
                  rw [fr] at ret safe
                  rw [if_neg (fun z => nomatch z)] at ret ⊢
                  rcases safe with s | s
                  · rw [subB_of s]; exact ret
                  · exact Dn.subB bwF' _ _ (nolR_false s.1) ret
                | true =>
                  rw [fr] at ret safe
                  rw [if_pos rfl] at ret ⊢
                  obtain ⟨p, us, ds, q1, q2, q3, q4, q5, q6⟩ := ret
                  refine ⟨p, us, ds, q1, q2, q3, ?_, q5, ?_⟩
                  · by_cases z : Bw σ as p
                    · exact subB_in z
                    · rw [subB_out z]; exact q4
                  · rcases safe with s | s
                    · rw [subB_of s]; exact q6
                    · refine DnA.subB bwF' _ _ ?_ q6
                      have s1 := s.1
                      rw [q2] at s1
                      exact s1
theorem ret_froze {K : PySem.W.Frag} {B : Bs} {fr : Bool} {σ : St} {F H F2 H1 H2 : Hp} {en en2 : En} {v : V} {d : D} (k : Ok B K F H σ en) (g : Go σ F H en F2 H2 en2) (k2 : Ok B K F2 H2 σ en2) (dm : ∀ a, H a ≠ none → H1 a ≠ none) (no : ∀ (i : Nat) (l : List D), en2[i]? = some (Slot.own l) → ∃ p, σ[i]? = some (some (V.ref p)) ∧ H1 p ≠ none)
    (r : RetOk fr K F2 H1 H2 v d) : ∃ F3, Go σ F H en F3 H2 en2 ∧ Ok B K F3 H2 σ en2 ∧ Dn K F3 v d := by
  unfold RetOk at r
  cases fr with
  | false => rw [if_neg (fun z => nomatch z)] at r; exact ⟨F2, g, k2, r⟩
  | true =>
    rw [if_pos rfl] at r
    obtain ⟨p, us, ds, rfl, rfl, q3, q4, q5, q6⟩ := r
    have hp : H p = none := by
      cases z : H p with
      | none => rfl
      | some o => exact absurd q3 (dm p (some_ne z))
    obtain ⟨s, k3, g3⟩ := k.fz g k2 hp q4 q5 fun i l h1 h2 => by
      obtain ⟨p', e1, e2⟩ := no i l h1
      rw [h2] at e1
      cases e1
      exact e2 q3
    exact ⟨_, g3, k3, .lst upd_same (q6.up s)⟩
theorem pe_callE (G : Gd C X N sc) (ih : Sx C X n df N sc) {f x : Str} {l : List E} {dl : List D} {y : Expr} {ys : List Expr} {p pos : Pos} (hx : x = f) (hg : glbB sc x = true) (ho : okName x = true) (hd : (dl.isEmpty || lSame (C.T.dflt f) dl) = true)
    (h : matL (matO (matE n df N sc) N sc) l (y :: ys) = true) : PE X (.Call (.Name x p) (y :: ys) [] pos) (tE C (n + 1) (.call f l dl)) ∧ (C.T.fresh f = true → PE X (.Call (.Name x p) (y :: ys) [] pos) (tF C (n + 1) (.call f l dl))) := by
  subst hx
  cases has : C.T.has x with
  | true =>
    obtain ⟨k, fa, fd, ps, hm, hk, room, F, dfl⟩ := G.call x has
    obtain ⟨ds, dvs, hb, hv, hdn⟩ := dfl dl hd
    have hs : starEach (y :: ys) X.env = (false, eval y X.env) :: starEach ys X.env := by
      match l, h with
      | c :: cs, h => exact matO_star (and2 h).1 _ _
    have hp : (backTo pos (starEach ys X.env)).any (·.1) = false := by
      match l, h with
      | c :: cs, h => exact any_O (and2 h).2
    have pe := pe_G F G.guards room (glb_of G.hs hg) hm hk hb hv G.pass (pa_O G ih h) (okName_of ho).1 hs hp (p := p)
    have hK := G.hK
    rw [hK] at pe hdn
    refine ⟨PE.imp pe fun σ H Q h => ?_, fun fr => PE.imp pe fun σ H Q h => ?_⟩
    · obtain ⟨F0, en, k0, h⟩ := h
      refine call_run G hdn k0 (fun c m e => by rw [e] at h; exact h) (fun d en2 e v H1 F2 H2 g2 k2 dm no ret => ?_) (fun e => by rw [e] at h; exact h) has
      rw [e] at h
      obtain ⟨F3, g3, k3, dn⟩ := ret_froze k0 g2 k2 dm no ret
      exact h v F3 H2 g3 k3 dn
    · obtain ⟨F0, en, k0, h⟩ := h
      refine call_run G hdn k0 (fun c m e => by rw [e] at h; exact h) (fun d en2 e v H1 F2 H2 g2 k2 dm no ret => ?_) (fun e => by rw [e] at h; exact h) has
      rw [e] at h
      obtain ⟨ds', e1, h⟩ := h
      unfold RetOk at ret
      rw [fr, if_pos rfl] at ret
      obtain ⟨p, us, ds, rfl, e2, q3, q4, q5, q6⟩ := ret
      have e1 : d = .lst ds' := e1
      rw [e2] at e1
      cases e1
      refine h p us F2 H2 g2 k2 ?_ q4 q5 q6 fun i l h1 h2 => ?_
      · cases z : H p with
        | none => rfl
        | some o => exact absurd q3 (dm p (some_ne z))
      · obtain ⟨p', e1, e2⟩ := no i l h1
        rw [h2] at e1
        cases e1
        exact e2 q3
  | false =>
    have e : ∀ en, evE C.T (n + 1) (.call x l dl) en = .bad := fun en => by
      show (if C.T.has x then _ else R.bad) = _
      rw [has]
      rfl
    refine ⟨⟨fun pins s σ H Q I h => ?_⟩, fun _ => ⟨fun pins s σ H Q I h => ?_⟩⟩
    · obtain ⟨F, en, k, h⟩ := h
      rw [e] at h
      exact h.elim
    · obtain ⟨F, en, k, h⟩ := h
      rw [e] at h
      exact h.elim
end
end Vm
end
section
set_option Elab.async false
set_option linter.all false
set_option maxRecDepth 100000
namespace Vm
open PySem PySem.Spec L2
section
variable {C : Cg} {X : Cx} {N : List Str} {sc : Scope} {n : Nat}
def atomE : E → Bool
  | .c _ => true
  | .v _ => true
  | .g _ => true
  | _ => false
theorem atom_noex {T : Tab} {n : Nat} {c : E} {en : En} {x : Str} {m : List D} (h : atomE c = true) : evE T n c en ≠ .ex x m := by
  cases n with
  | zero => exact fun z => nomatch z
  | succ n =>
    cases c <;> first | cases h | skip
    · exact fun z => nomatch z
    · rename_i y
      intro z
      have z : (match T.glob y with
        | some d => R.ok (d, en)
        | none => .bad) = R.ex x m := z
      split at z <;> cases z
    · rename_i i
      intro z
      have z : (match valAt en i with
        | some d => R.ok (d, en)
        | none => .bad) = R.ex x m := z
      split at z <;> cases z
theorem flat_noex {T : Tab} {n : Nat} {c : E} {en : En} {x : Str} {m : List D} (h : flatE c = true) : evE T n c en ≠ .ex x m := by
  unfold flatE at h
  split at h
  · exact atom_noex rfl
  · exact atom_noex rfl
  · exact atom_noex rfl
  · rename_i i d
    cases n with
    | zero => exact fun z => nomatch z
    | succ n =>
      intro z
      rw [prim_strict rfl] at z
      have z : (((evE T n (.v i) en).bind fun p => ((evE T n (.c d) p.2).bind fun p2 => (R.ok (([] : List D), p2.2)).bind fun q => .ok (p2.1 :: q.1, q.2)).bind fun q => .ok (p.1 :: q.1, q.2)).bind fun q => (prim .ix q.1).bind fun d => .ok (d, q.2)) = R.ex x m := z
      cases r : evE T n (.v i) en with
      | bad => rw [r] at z; cases z
      | ex y k => exact atom_noex rfl r
      | ok p =>
        rw [r] at z
        cases r2 : evE T n (.c d) p.2 with
        | bad =>
          have z : ((((evE T n (.c d) p.2).bind fun p2 => (R.ok (([] : List D), p2.2)).bind fun q => .ok (p2.1 :: q.1, q.2)).bind fun q => .ok (p.1 :: q.1, q.2)).bind fun q => (prim .ix q.1).bind fun d => .ok (d, q.2)) = R.ex x m := z
          rw [r2] at z
          cases z
        | ex y k => exact atom_noex rfl r2
        | ok p2 =>
          have z : ((((evE T n (.c d) p.2).bind fun p2 => (R.ok (([] : List D), p2.2)).bind fun q => .ok (p2.1 :: q.1, q.2)).bind fun q => .ok (p.1 :: q.1, q.2)).bind fun q => (prim .ix q.1).bind fun d => .ok (d, q.2)) = R.ex x m := z
          rw [r2] at z
          have z : ((prim .ix [p.1, p2.1]).bind fun d => .ok (d, p2.2)) = R.ex x m := z
          cases r3 : prim .ix [p.1, p2.1] with
          | bad => rw [r3] at z; cases z
          | ex y k => exact prim_noex _ _ _ _ r3
          | ok w => rw [r3] at z; cases z
  · cases h
def ResJ (C : Cg) (σ : St) (F H : Hp) (en : En) (acc : Str) (r : R (List D × En)) (Q : Str → Hp → Prop) : Prop := match r with
  | .ok p => (match fmtGo acc p.1 with
    | some x => ∀ F' H', Go σ F H en F' H' p.2 → Ok C.B C.K F' H' σ p.2 → Q x H'
    | none => False)
  | _ => False
theorem js_run {df : Str → List D} (ih : Sx C X n df N sc) : ∀ (l : List E) (es : List Expr), matJ (matE n df N sc) l es = true → ∃ ts, PJ X es ts ∧ ∀ (acc : Str) (σ : St) (F H : Hp) (en : En) (Q : Str → Hp → Prop), Ok C.B C.K F H σ en → ResJ C σ F H en acc (evList (evE C.T n) l en) Q → tJs ts acc σ H Q
  | [], [], _ => ⟨[], .nil, fun acc σ F H en Q k h => h F H Go.refl k⟩
  | [], e :: es, h => by cases h
  | c :: cs, [], h => by cases h
  | c :: cs, e :: es, h => by
    have tail : ∀ {acc acc' : Str} {d : D} {σ : St} {F H F1 H1 : Hp} {en en1 : En} {Q : Str → Hp → Prop}, ResJ C σ F H en acc ((evList (evE C.T n) cs en1).bind fun q => .ok (d :: q.1, q.2)) Q → Go σ F H en F1 H1 en1 → (∀ ds, fmtGo acc (d :: ds) = fmtGo acc' ds) → ResJ C σ F1 H1 en1 acc' (evList (evE C.T n) cs en1) Q := by
      intro acc acc' d σ F H F1 H1 en en1 Q h g hf
      cases r2 : evList (evE C.T n) cs en1 with
      | bad => rw [r2] at h; exact h
      | ex _ _ => rw [r2] at h; exact h
      | ok q =>
        rw [r2] at h
        have h : (match fmtGo acc (d :: q.1) with
          | some x => ∀ F' H', Go σ F H en F' H' q.2 → Ok C.B C.K F' H' σ q.2 → Q x H'
          | none => False) := h
        rw [hf] at h
        show (match fmtGo acc' q.1 with
          | some x => ∀ F' H', Go σ F1 H1 en1 F' H' q.2 → Ok C.B C.K F' H' σ q.2 → Q x H'
          | none => False)
        split at h
        · exact fun F' H' g2 k2 => h F' H' (g.trans g2) k2
        · exact h
    have none_ : ∀ {acc : Str} {d : D} {σ : St} {F H : Hp} {en en1 : En} {Q : Str → Hp → Prop}, ResJ C σ F H en acc ((evList (evE C.T n) cs en1).bind fun q => .ok (d :: q.1, q.2)) Q → ∃ ds, fmtGo acc (d :: ds) ≠ none := by
      intro acc d σ F H en en1 Q h
      cases r2 : evList (evE C.T n) cs en1 with
      | bad => rw [r2] at h; exact h.elim
      | ex _ _ => rw [r2] at h; exact h.elim
      | ok q =>
        rw [r2] at h
        refine ⟨q.1, fun z => ?_⟩
        have h : (match fmtGo acc (d :: q.1) with
          | some x => ∀ F' H', Go σ F H en F' H' q.2 → Ok C.B C.K F' H' σ q.2 → Q x H'
          | none => False) := h
        rw [z] at h
        exact h
    have head : ∀ {acc : Str} {σ : St} {F H : Hp} {en : En} {Q : Str → Hp → Prop}, ResJ C σ F H en acc (evList (evE C.T n) (c :: cs) en) Q → ∃ p, evE C.T n c en = .ok p ∧ ResJ C σ F H en acc ((evList (evE C.T n) cs p.2).bind fun q => .ok (p.1 :: q.1, q.2)) Q := by
      intro acc σ F H en Q h
      have h : ResJ C σ F H en acc ((evE C.T n c en).bind fun p => (evList (evE C.T n) cs p.2).bind fun q => .ok (p.1 :: q.1, q.2)) Q := h
      cases r : evE C.T n c en with
      | bad => rw [r] at h; exact h.elim
      | ex _ _ => rw [r] at h; exact h.elim
      | ok p => rw [r] at h; exact ⟨p, rfl, h⟩
    unfold matJ at h
    split at h
    · rename_i hc he; cases he
    · rename_i c' cs' k kk pp es' hc he
      cases hc; cases he
      obtain ⟨h, h3⟩ := and2 h
      obtain ⟨h1, h2⟩ := and2 h
      obtain ⟨ts, pj, run⟩ := js_run ih cs _ h3
      refine ⟨tE C n c :: ts, .cons (ih _ _ h2).1 pj, fun acc σ F H en Q ok h => ?_⟩
      obtain ⟨p, r, h⟩ := head h
      obtain ⟨ds, hn⟩ := none_ h
      refine ⟨F, en, ok, ?_⟩
      rw [r]
      intro v F1 H1 g1 k1 a1
      have hs : ∃ s, p.1 = .str s := by
        cases n with
        | zero => cases r
        | succ n =>
          unfold strE at h1
          split at h1
          · cases r; exact ⟨_, rfl⟩
          · cases h1
      obtain ⟨s, hs⟩ := hs
      rw [hs] at a1 hn h
      cases a1
      have hz : s.length ≤ sizeLine ∧ (acc ++ s).length ≤ sizeLine := by
        refine Classical.byContradiction fun z => hn ?_
        exact if_neg z
      exact ⟨s, rfl, hz.2, run (acc ++ s) σ F1 H1 p.2 Q k1 (tail h g1 fun ds => if_pos hz)⟩
    · rename_i c' cs' x pp es' hc he
      cases hc; cases he
      obtain ⟨h, h3⟩ := and2 h
      obtain ⟨h1, h2⟩ := and2 h
      obtain ⟨ts, pj, run⟩ := js_run ih cs _ h3
      refine ⟨tFmt (tE C n c) :: ts, .cons (pe_fmt (ih _ _ h2).1) pj, fun acc σ F H en Q ok h => ?_⟩
      obtain ⟨p, r, h⟩ := head h
      obtain ⟨ds, hn⟩ := none_ h
      refine ⟨F, en, ok, ?_⟩
      rw [r]
      intro v F1 H1 g1 k1 a1
      cases hp : p.1 with
      | str s =>
        rw [hp] at a1 hn h
        cases a1
        have hz : s.length ≤ sizeLine ∧ (acc ++ s).length ≤ sizeLine := by
          refine Classical.byContradiction fun z => hn ?_
          exact if_neg z
        exact .inl ⟨s, rfl, hz.1, s, rfl, hz.2, run (acc ++ s) σ F1 H1 p.2 Q k1 (tail h g1 fun ds => if_pos hz)⟩
      | int i =>
        rw [hp] at a1 hn h
        cases a1
        have hz : i.natAbs.log2 < 1920 ∧ (acc ++ (toString i : Str)).length ≤ sizeLine := by
          refine Classical.byContradiction fun z => hn ?_
          exact if_neg z
        exact .inr ⟨i, rfl, hz.1, _, rfl, hz.2, run (acc ++ (toString i : Str)) σ F1 H1 p.2 Q k1 (tail h g1 fun ds => if_pos hz)⟩
      | non => rw [hp] at hn; exact absurd rfl hn
      | bl b => rw [hp] at hn; exact absurd rfl hn
      | tup l => rw [hp] at hn; exact absurd rfl hn
      | lst l => rw [hp] at hn; exact absurd rfl hn
      | dic l => rw [hp] at hn; exact absurd rfl hn
      | exc a b => rw [hp] at hn; exact absurd rfl hn
      | scr l => rw [hp] at hn; exact absurd rfl hn
      | cls x => rw [hp] at hn; exact absurd rfl hn
    · cases h
theorem flat_list {T : Tab} {f : E → Expr → Bool} : ∀ (l : List E) (es : List Expr), matJ f l es = true → ∀ (en : En) (x : Str) (m : List D), evList (evE T n) l en ≠ .ex x m
  | [], _, _, en, x, m => fun z => nomatch z
  | c :: cs, es, h, en, x, m => by
    have fl : flatE c = true ∧ ∃ es', matJ f cs es' = true := by
      unfold matJ at h
      split at h
      · rename_i hc; cases hc
      · rename_i hc; cases hc
        obtain ⟨h, h3⟩ := and2 h
        obtain ⟨h1, h2⟩ := and2 h
        refine ⟨?_, _, h3⟩
        unfold strE at h1
        split at h1
        · rfl
        · cases h1
      · rename_i hc; cases hc
        obtain ⟨h, h3⟩ := and2 h
        obtain ⟨h1, h2⟩ := and2 h
        exact ⟨h1, _, h3⟩
      · cases h
    obtain ⟨f1, es', f2⟩ := fl
    intro z
    have z : ((evE T n c en).bind fun p => (evList (evE T n) cs p.2).bind fun q => .ok (p.1 :: q.1, q.2)) = R.ex x m := z
    cases r : evE T n c en with
    | bad => rw [r] at z; cases z
    | ex y k => exact flat_noex f1 r
    | ok p =>
      rw [r] at z
      have z : ((evList (evE T n) cs p.2).bind fun q => R.ok (p.1 :: q.1, q.2)) = R.ex x m := z
      cases r2 : evList (evE T n) cs p.2 with
      | bad => rw [r2] at z; cases z
      | ex y k => exact flat_list cs es' f2 p.2 y k r2
      | ok q => rw [r2] at z; cases z
theorem pe_fmtE {df : Str → List D} (ih : Sx C X n df N sc) {l : List E} {v1 v2 : Expr} {r : List Expr} {pos : Pos} (hb : l.all noBw = true) (h : matJ (matE n df N sc) l (v1 :: v2 :: r) = true) : PE X (.JoinedStr (v1 :: v2 :: r) pos) (tE C (n + 1) (.pr .fmt l)) := by
  obtain ⟨ts, pj, run⟩ := js_run ih l _ h
  refine PE.imp (pe_joined pj) fun σ H Q h0 => ?_
  obtain ⟨F, en, ok, h0⟩ := h0
  rw [prim_strict hb] at h0
  refine run Str.empty σ F H en _ ok ?_
  cases r : evList (evE C.T n) l en with
  | bad => rw [r] at h0; exact h0
  | ex x m => exact (flat_list l _ h en x m r).elim
  | ok q =>
    rw [r] at h0
    have h0 : Res C σ F H en ((p_fmt q.1).bind fun d => .ok (d, q.2)) Q := h0
    show (match fmtGo Str.empty q.1 with
      | some x => ∀ F' H', Go σ F H en F' H' q.2 → Ok C.B C.K F' H' σ q.2 → Q (.str x) H'
      | none => False)
    unfold p_fmt at h0
    cases e : fmtGo Str.empty q.1 with
    | none => rw [e] at h0; exact h0
    | some x => rw [e] at h0; exact fun F' H' g k => h0 _ F' H' g k (.str _)
theorem pe_partE {df : Str → List D} (ih : Sx C X n df N sc) {c : E} {y : Str} {yp apos cp pos : Pos} {s : Str} {kk : Nat} (hl : (apos.endLine == pos.line) = true) (h : matE n df N sc c (.Name y yp) = true) : PE X (.Call (.Attribute (.Name y yp) "partition" apos) [.Constant (.str s) kk cp] [] pos) (tE C (n + 1) (.pr (.part s) [c])) := by
  refine PE.imp (pe_partition (ih _ _ h).1 pe_str (hline := hl)) fun σ H Q h0 => ?_
  have z := op1 (p := .part s) (r := fun x H Q => rPart s x H Q) (fun a b c d => part_ok a b c d) (prim_len1 (by simp)) h0
  rw [tO_of h] at z
  obtain ⟨F, en, ok, z⟩ := z
  refine ⟨F, en, ok, ?_⟩
  cases r : evE C.T n c en with
  | bad => rw [r] at z; exact z
  | ex _ _ => rw [r] at z; exact z
  | ok p =>
    rw [r] at z
    intro v F1 H1 g k a
    obtain ⟨x, h1, h2, h3, h4⟩ := z v F1 H1 g k a
    exact ⟨⟨x, h1⟩, x, s, h1, rfl, h2, h3, h4⟩
end
end Vm
end
section
set_option Elab.async false
set_option linter.all false
set_option maxRecDepth 100000
namespace Vm
open PySem PySem.Spec L2
section
variable {C : Cg} {X : Cx} {N : List Str} {sc : Scope} {n : Nat} {df : Str → List D}
theorem lc_parts (G : Gd C X N sc) (ihn : ∀ (C : Cg) (X : Cx) (N : List Str) (sc : Scope), Gd C X N sc → Sx C X n C.T.dflt N sc) {elt : E} {tg : Tg} {k : Ik} {l : List E} {cond : Option E} {vs : List Nat} {a : Expr} (h : matE (n + 1) C.T.dflt N sc (.lc elt tg k l cond vs) a = true) :
    ∃ gt gi gf x scope pos own, a = .ListComp x [⟨gt, gi, gf, 0⟩] scope pos ∧ own.map (·.2) = vs ∧ PI X gt gi (tI C n k l) ∧ BlkOk X.N X.env.scope scope own ∧
      (∀ (s : Shared) (H : Hp) (A : Addr) (cl : List (Str × Addr)) (fp : List Addr), PG (X.blk s H scope (compEnvC scope cl A X.env) fp) gt (gT C.K tg)) ∧ (∀ (s : Shared) (H : Hp) (A : Addr) (cl : List (Str × Addr)) (fp : List Addr), PTs (X.blk s H scope (compEnvC scope cl A X.env) fp) gf (tC0 (quiet C) n cond)) ∧
      (∀ (s : Shared) (H : Hp) (A : Addr) (cl : List (Str × Addr)) (fp : List Addr), PE (X.blk s H scope (compEnvC scope cl A X.env) fp) x (tE (quiet C) n elt)) ∧ (∀ x, foldedSetIterable gi X.env x = pure x) ∧ (∀ j ∈ tgS tg, j ∈ vs) := by
  unfold matE at h
  simp only at h
  split at h
  · rename_i x g scope pos
    obtain ⟨h, h7⟩ := and2 h
    obtain ⟨h, h6⟩ := and2 h
    obtain ⟨h, h5⟩ := and2 h
    obtain ⟨h, h4⟩ := and2 h
    obtain ⟨h, h3⟩ := and2 h
    obtain ⟨h1, h2⟩ := and2 h
    obtain ⟨gt, gi, gf, ga⟩ := g
    have e0 : ga = 0 := of_decide_eq_true h1
    subst e0
    have hK := G.hK
    have ih := ihn C X N sc G
    have fs : ∀ x, foldedSetIterable gi X.env x = pure x := by
      unfold matI at h2
      split at h2
      · exact (ev_ok h2).2 _
      all_goals first
        | (simp only at h2
           split at h2
           · exact fun _ => rfl
           · cases h2)
        | cases h2
    have own : (ownL N vs).map (·.2) = vs := by
      unfold ownL
      rw [List.map_map]
      exact List.map_id' vs
    have ok := blkOk_by h6
    rw [← G.hN, ← G.hs] at ok
    have hl : ∀ (s : Shared) (H : Hp) (A : Addr) (cl : List (Str × Addr)) (fp : List Addr) x, locB scope x = true → L2.Loc (X.blk s H scope (compEnvC scope cl A X.env) fp).env.scope x ∧ ((X.blk s H scope (compEnvC scope cl A X.env) fp).fn x = true ∨ (X.blk s H scope (compEnvC scope cl A X.env) fp).env.scope.names.lookup x = some .local) := fun s H A cl fp x hx => by
      unfold locB at hx
      split at hx
      · rename_i e
        have q : (relS scope X.env.scope).names.lookup x = some .local := lookup_relS_keep (fun z => nomatch z) e
        exact ⟨.inl q, .inr q⟩
      · rename_i e
        have q : (relS scope X.env.scope).names.lookup x = some .cell := lookup_relS_keep (fun z => nomatch z) e
        refine ⟨.inr q, .inl ?_⟩
        show (scope.names.lookup x == some NameKind.cell) = true
        rw [e]; rfl
      · cases hx
    have tgI : ∀ j ∈ tgS tg, j ∈ vs := by
      cases tg with
      | n i =>
        intro j hj
        rw [List.mem_singleton.mp hj]
        exact List.contains_iff_mem.mp h4
      | t is =>
        intro j hj
        have h4 : (is.all fun i => vs.contains i) = true := h4
        exact List.contains_iff_mem.mp ((List.all_eq_true.mp h4) j hj)
    refine ⟨gt, gi, gf, x, scope, pos, ownL X.N vs, rfl, ?_, pi_E G ih h2 h3, ok, fun s H A cl fp => ?_, fun s H A cl fp => ?_, fun s H A cl fp => (ihn (quiet C) _ N (relS scope sc) (G.blk s H scope cl A fp) elt x h5).1, fs, tgI⟩
    · rw [G.hN]; exact own
    · rw [← hK]
      exact pg_T G.hN G.nd G.calm (hl s H A cl fp) h3
    · cases cond with
      | none => cases gf with
        | nil => exact pts_nil
        | cons _ _ => cases h7
      | some c => cases gf with
        | nil => cases h7
        | cons y ys => cases ys with
          | nil => exact pts_one (ihn (quiet C) _ N (relS scope sc) (G.blk s H scope cl A fp) c y h7).2
          | cons _ _ => cases h7
  · cases h
theorem pe_lcF (G : Gd C X N sc) (ihn : ∀ (C : Cg) (X : Cx) (N : List Str) (sc : Scope), Gd C X N sc → Sx C X n C.T.dflt N sc) {elt : E} {tg : Tg} {k : Ik} {l : List E} {cond : Option E} {vs : List Nat} {a : Expr} (h : matE (n + 1) C.T.dflt N sc (.lc elt tg k l cond vs) a = true) :
    PE X a (tF C (n + 1) (.lc elt tg k l cond vs)) ∧ ∀ whole, isTrue a X.env whole = (do let v ← whole; standAt a.pos; holding [v] (truthy v)) := by
  obtain ⟨gt, gi, gf, x, scope, pos, own, rfl, ow, p1, p2, p3, p4, p5, p6, p7⟩ := lc_parts G ihn h
  refine ⟨PE.imp (pe_lc G.calm G.nd p1 p2 p3 p4 p5 p6) fun σ H Q h => ?_, fun _ => rfl⟩
  rw [ow]
  exact lc_tF p7 h
theorem lcb_parts (G : Gd C X N sc) (ihn : ∀ (C : Cg) (X : Cx) (N : List Str) (sc : Scope), Gd C X N sc → Sx C X n C.T.dflt N sc) {elt : E} {tg : Tg} {i : Nat} {cond : Option E} {vs : List Nat} {a : Expr} (h : matE (n + 1) C.T.dflt N sc (.lcb elt tg i cond vs) a = true) :
    ∃ gt gi gf x scope pos own, a = .ListComp x [⟨gt, gi, gf, 0⟩] scope pos ∧ own.map (·.2) = vs ∧ PI X gt gi (tIo C i) ∧ BlkOk X.N X.env.scope scope own ∧
      (∀ (s : Shared) (H : Hp) (A : Addr) (cl : List (Str × Addr)) (fp : List Addr), PG (X.blk s H scope (compEnvC scope cl A X.env) fp) gt (gT C.K tg)) ∧ (∀ (s : Shared) (H : Hp) (A : Addr) (cl : List (Str × Addr)) (fp : List Addr), PTs (X.blk s H scope (compEnvC scope cl A X.env) fp) gf (tC0 (quiet (unpin C i)) n cond)) ∧
      (∀ (s : Shared) (H : Hp) (A : Addr) (cl : List (Str × Addr)) (fp : List Addr), PE (X.blk s H scope (compEnvC scope cl A X.env) fp) x (tE (quiet (unpin C i)) n elt)) ∧ (∀ x, foldedSetIterable gi X.env x = pure x) ∧ (∀ j ∈ tgS tg, j ∈ vs) := by
  unfold matE at h
  simp only at h
  split at h
  · rename_i x g scope pos
    obtain ⟨h, h7⟩ := and2 h
    obtain ⟨h, h6⟩ := and2 h
    obtain ⟨h, h5⟩ := and2 h
    obtain ⟨h, h4⟩ := and2 h
    obtain ⟨h, h3⟩ := and2 h
    obtain ⟨h1, h2⟩ := and2 h
    obtain ⟨gt, gi, gf, ga⟩ := g
    have e0 : ga = 0 := of_decide_eq_true h1
    subst e0
    have hK := G.hK
    have fs : ∀ x, foldedSetIterable gi X.env x = pure x := by
      have h2 : varB N sc i gi = true := h2
      unfold varB at h2
      split at h2
      · exact fun _ => rfl
      · cases h2
    have own : (ownL N vs).map (·.2) = vs := by
      unfold ownL
      rw [List.map_map]
      exact List.map_id' vs
    have ok := blkOk_by h6
    rw [← G.hN, ← G.hs] at ok
    have hl : ∀ (s : Shared) (H : Hp) (A : Addr) (cl : List (Str × Addr)) (fp : List Addr) x, locB scope x = true → L2.Loc (X.blk s H scope (compEnvC scope cl A X.env) fp).env.scope x ∧ ((X.blk s H scope (compEnvC scope cl A X.env) fp).fn x = true ∨ (X.blk s H scope (compEnvC scope cl A X.env) fp).env.scope.names.lookup x = some .local) := fun s H A cl fp x hx => by
      unfold locB at hx
      split at hx
      · rename_i e
        have q : (relS scope X.env.scope).names.lookup x = some .local := lookup_relS_keep (fun z => nomatch z) e
        exact ⟨.inl q, .inr q⟩
      · rename_i e
        have q : (relS scope X.env.scope).names.lookup x = some .cell := lookup_relS_keep (fun z => nomatch z) e
        refine ⟨.inr q, .inl ?_⟩
        show (scope.names.lookup x == some NameKind.cell) = true
        rw [e]; rfl
      · cases hx
    have tgI : ∀ j ∈ tgS tg, j ∈ vs := by
      cases tg with
      | n i =>
        intro j hj
        rw [List.mem_singleton.mp hj]
        exact List.contains_iff_mem.mp h4
      | t is =>
        intro j hj
        have h4 : (is.all fun i => vs.contains i) = true := h4
        exact List.contains_iff_mem.mp ((List.all_eq_true.mp h4) j hj)
    refine ⟨gt, gi, gf, x, scope, pos, ownL X.N vs, rfl, ?_, pi_ownE G h2, ok, fun s H A cl fp => ?_, fun s H A cl fp => ?_, fun s H A cl fp => (ihn (quiet (unpin C i)) _ N (relS scope sc) ((G.unpin i).blk s H scope cl A fp) elt x h5).1, fs, tgI⟩
    · rw [G.hN]; exact own
    · rw [← hK]
      exact pg_T G.hN G.nd G.calm (hl s H A cl fp) h3
    · cases cond with
      | none => cases gf with
        | nil => exact pts_nil
        | cons _ _ => cases h7
      | some c => cases gf with
        | nil => cases h7
        | cons y ys => cases ys with
          | nil => exact pts_one (ihn (quiet (unpin C i)) _ N (relS scope sc) ((G.unpin i).blk s H scope cl A fp) c y h7).2
          | cons _ _ => cases h7
  · cases h
theorem pe_lcbF (G : Gd C X N sc) (ihn : ∀ (C : Cg) (X : Cx) (N : List Str) (sc : Scope), Gd C X N sc → Sx C X n C.T.dflt N sc) {elt : E} {tg : Tg} {i : Nat} {cond : Option E} {vs : List Nat} {a : Expr} (h : matE (n + 1) C.T.dflt N sc (.lcb elt tg i cond vs) a = true) :
    PE X a (tF C (n + 1) (.lcb elt tg i cond vs)) ∧ ∀ whole, isTrue a X.env whole = (do let v ← whole; standAt a.pos; holding [v] (truthy v)) := by
  obtain ⟨gt, gi, gf, x, scope, pos, own, rfl, ow, p1, p2, p3, p4, p5, p6, p7⟩ := lcb_parts G ihn h
  refine ⟨PE.imp (pe_lc G.calm G.nd p1 p2 p3 p4 p5 p6) fun σ H Q h => ?_, fun _ => rfl⟩
  rw [ow]
  exact lcb_tF p7 h
theorem plain_ix {y : Expr} (h : (!isSlice y) = true) : PlainIx y := by
  cases y <;> first
    | exact fun _ _ => rfl
    | cases h
theorem pt_iteE {t a b : E} {x y z : Expr} {pos : Pos} (ht : PT X x (tT C n t)) (ha : PT X y (tT C n a)) (hb : PT X z (tT C n b)) : PT X (.IfExp x y z pos) (tT C (n + 1) (.ite t a b)) := by
  refine ⟨fun pins s σ H Q I h => ?_⟩
  refine PyProof.Rows.isTrue_IfExp ?_
  have go : tT C n t σ H fun c H1 => if c = true then tT C n a σ H1 Q else tT C n b σ H1 Q := by
    refine test_bindT (f := fIte C.T n a b) fIte_bad h fun c F1 H1 en1 k1 h1 => ?_
    cases c with
    | true => exact iteT ⟨F1, en1, k1, h1⟩
    | false => exact iteF ⟨F1, en1, k1, h1⟩
  refine thn (ht.run pins s σ H _ I go) fun c s1 ⟨H1, I1, q⟩ => ?_
  cases c with
  | true => exact ha.run pins s1 σ H1 Q I1 q
  | false => exact hb.run pins s1 σ H1 Q I1 q
theorem pe_of_tF {c : E} {a : Expr} (h : PE X a (tF C n c)) (hl : ∀ en p, evE C.T n c en = .ok p → ∃ ds, p.1 = .lst ds) : PE X a (tE C n c) := PE.imp h fun σ H Q q => tF_of hl q
theorem snd : ∀ (n : Nat) (C : Cg) (X : Cx) (N : List Str) (sc : Scope), Gd C X N sc → Sx C X n C.T.dflt N sc
  | 0, _, _, _, _, _ => fun _ _ h => by cases h
  | n + 1, C, X, N, sc, G => fun c a h => by
    have ih := snd n C X N sc G
    have val : PE X a (tE C (n + 1) c) → (∀ whole, isTrue a X.env whole = (do let v ← whole; standAt a.pos; holding [v] (truthy v))) → PE X a (tE C (n + 1) c) ∧ PT X a (tT C (n + 1) c) := fun p q => ⟨p, pt_of p q⟩
    cases c with
    | bw _ => cases h
    | io _ => cases h
    | c d =>
      unfold matE at h
      simp only at h
      split at h
      · exact val (pe_const h G) fun _ => rfl
      · cases h
    | g x =>
      unfold matE at h
      simp only at h
      split at h
      · obtain ⟨h, h3⟩ := and2 h
        obtain ⟨h1, h2⟩ := and2 h
        have e := of_decide_eq_true h1
        subst e
        exact val (pe_globE ((Bool.and_eq_true _ _).mpr ⟨h2, h3⟩) G) fun _ => rfl
      · cases h
    | v i =>
      have h : varB N sc i a = true := h
      refine val (pe_slot h G) ?_
      unfold varB at h
      split at h
      · exact fun _ => rfl
      · cases h
    | and_ c d =>
      unfold matE at h
      simp only at h
      split at h
      · rename_i x y r pos
        obtain ⟨h1, h2⟩ := and2 h
        have i1 := ih _ _ h1
        cases r with
        | nil =>
          have i2 := ih _ _ h2
          exact ⟨pe_andE i1.1 (pe_one i2.1), (pt_andE i1.2 (pw_and1 i2.2)).pt⟩
        | cons z zs =>
          have i2 := ih _ _ h2
          exact ⟨pe_andE i1.1 i2.1, (pt_andE i1.2 ⟨fun wh pins s σ H Q I q => i2.2.run pins s σ H Q I q⟩).pt⟩
      · cases h
    | or_ c d =>
      unfold matE at h
      simp only at h
      split at h
      · rename_i x y r pos
        obtain ⟨h1, h2⟩ := and2 h
        have i1 := ih _ _ h1
        cases r with
        | nil =>
          have i2 := ih _ _ h2
          exact ⟨pe_orE i1.1 (pe_one i2.1), (pt_orE i1.2 (pw_or1 i2.2)).pt⟩
        | cons z zs =>
          have i2 := ih _ _ h2
          exact ⟨pe_orE i1.1 i2.1, (pt_orE i1.2 ⟨fun wh pins s σ H Q I q => i2.2.run pins s σ H Q I q⟩).pt⟩
      · cases h
    | ite t c d =>
      unfold matE at h
      simp only at h
      split at h
      · obtain ⟨h, h3⟩ := and2 h
        obtain ⟨h1, h2⟩ := and2 h
        exact ⟨pe_iteE (ih _ _ h1).2 (ih _ _ h2).1 (ih _ _ h3).1, pt_iteE (ih _ _ h1).2 (ih _ _ h2).2 (ih _ _ h3).2⟩
      · cases h
    | ch o p c d e =>
      unfold matE at h
      simp only at h
      split at h
      · obtain ⟨h, h5⟩ := and2 h
        obtain ⟨h, h4⟩ := and2 h
        obtain ⟨h, h3⟩ := and2 h
        obtain ⟨h1, h2⟩ := and2 h
        exact pe_chE G h1 h2 (ih _ _ h3).1 (ih _ _ h4).1 (ih _ _ h5).1
      · cases h
    | call f l dl =>
      unfold matE at h
      simp only at h
      split at h
      · obtain ⟨h, h5⟩ := and2 h
        obtain ⟨h, h4⟩ := and2 h
        obtain ⟨h, h3⟩ := and2 h
        obtain ⟨h1, h2⟩ := and2 h
        exact val (pe_callE G ih (of_decide_eq_true h1) h2 h3 h4 h5).1 fun _ => rfl
      · cases h
    | lc elt tg k l cond vs =>
      obtain ⟨p, q⟩ := pe_lcF G (snd n) h
      exact val (pe_of_tF p fun en p e => lc_isL e) q
    | lcb elt tg i cond vs =>
      obtain ⟨p, q⟩ := pe_lcbF G (snd n) h
      exact val (pe_of_tF p fun en p e => lcb_isL e) q
    | pr p l =>
      unfold matE at h
      simp only at h
      split at h
      · obtain ⟨h, h3⟩ := and2 h
        obtain ⟨h1, h2⟩ := and2 h
        have e := of_decide_eq_true h1
        subst e
        exact val (pe_tupE ih h2 h3) fun _ => rfl
      · obtain ⟨h, h3⟩ := and2 h
        obtain ⟨h1, h2⟩ := and2 h
        have e := of_decide_eq_true h1
        subst e
        exact val (PE.imp (pe_lstF ih h2 h3) fun σ H Q q => tF_of (fun en p e => lst_isL h2 e) q) fun _ => rfl
      · obtain ⟨h, h3⟩ := and2 h
        obtain ⟨h1, h2⟩ := and2 h
        have e := of_decide_eq_true h1
        subst e
        exact val (pe_fmtE ih h2 h3) fun _ => rfl
      · split at h
        · obtain ⟨h, h4⟩ := and2 h
          obtain ⟨h, h3⟩ := and2 h
          obtain ⟨h1, h2⟩ := and2 h
          have e1 := of_decide_eq_true h1
          have e2 := of_decide_eq_true h2
          subst e1
          subst e2
          exact val (pe_partE ih h3 h4) fun _ => rfl
        · cases h
      · obtain ⟨h1, h2⟩ := and2 h
        have e := of_decide_eq_true h1
        subst e
        have i := ih _ _ h2
        exact ⟨pe_notE (by rw [tO_of h2]; exact i.1), pt_notE (strict_of h2) i.2⟩
      · obtain ⟨h1, h2⟩ := and2 h
        have e := of_decide_eq_true h1
        subst e
        exact val (pe_negE (by rw [tO_of h2]; exact (ih _ _ h2).1)) fun _ => rfl
      · obtain ⟨h, h3⟩ := and2 h
        obtain ⟨h1, h2⟩ := and2 h
        exact val (pe_binE G h1 (pe_O G ih h2) (pe_O G ih h3)) fun _ => rfl
      · obtain ⟨h1, h2⟩ := and2 h
        have e := of_decide_eq_true h1
        subst e
        exact pe_isE G (pe_O G ih h2)
      · obtain ⟨h1, h2⟩ := and2 h
        have e := of_decide_eq_true h1
        subst e
        exact pe_nisE G (pe_O G ih h2)
      · obtain ⟨h, h3⟩ := and2 h
        obtain ⟨h1, h2⟩ := and2 h
        have e := of_decide_eq_true h1
        subst e
        exact pe_innE G (pe_O G ih h2) (pe_O G ih h3)
      · obtain ⟨h, h3⟩ := and2 h
        obtain ⟨h1, h2⟩ := and2 h
        have e := of_decide_eq_true h1
        subst e
        exact pe_innL G (pe_O G ih h2) (pe_O G ih (matO_of h3))
      · obtain ⟨h, h3⟩ := and2 h
        obtain ⟨h1, h2⟩ := and2 h
        have e := of_decide_eq_true h1
        subst e
        exact pe_ninE G (pe_O G ih h2) (pe_O G ih h3)
      · obtain ⟨h, h3⟩ := and2 h
        obtain ⟨h1, h2⟩ := and2 h
        have e := of_decide_eq_true h1
        subst e
        exact pe_ninL G (pe_O G ih h2) (pe_O G ih (matO_of h3))
      · obtain ⟨h, h3⟩ := and2 h
        obtain ⟨h1, h2⟩ := and2 h
        exact pe_cmpE G h1 (pe_O G ih h2) (pe_O G ih h3)
      · obtain ⟨h, h3⟩ := and2 h
        obtain ⟨h1, h2⟩ := and2 h
        have e := of_decide_eq_true h1
        subst e
        exact val (pe_slAE G (pe_O G ih h2) (by rw [tO_of h3]; exact (ih _ _ h3).1)) fun _ => rfl
      · obtain ⟨h, h3⟩ := and2 h
        obtain ⟨h1, h2⟩ := and2 h
        have e := of_decide_eq_true h1
        subst e
        exact val (pe_slBE G (pe_O G ih h2) (by rw [tO_of h3]; exact (ih _ _ h3).1)) fun _ => rfl
      · obtain ⟨h, h5⟩ := and2 h
        obtain ⟨h, h4⟩ := and2 h
        obtain ⟨h, h3⟩ := and2 h
        obtain ⟨h1, h2⟩ := and2 h
        have e := of_decide_eq_true h1
        subst e
        exact val (pe_slCE G h2 (pe_O G ih h3) (by rw [tO_of h4]; exact (ih _ _ h4).1) (ih _ _ h5).1) fun _ => rfl
      · obtain ⟨h1, h2⟩ := and2 h
        have e := of_decide_eq_true h1
        subst e
        exact val (pe_revE G (pe_O G ih h2)) fun _ => rfl
      · obtain ⟨h, h4⟩ := and2 h
        obtain ⟨h, h3⟩ := and2 h
        obtain ⟨h1, h2⟩ := and2 h
        have e := of_decide_eq_true h1
        subst e
        exact val (pe_ixE G (plain_ix h2) (pe_O G ih h3) (pe_O G ih h4)) fun _ => rfl
      · obtain ⟨h, h3⟩ := and2 h
        obtain ⟨h1, h2⟩ := and2 h
        exact val (pe_call1E G ih h1 h2 h3) fun _ => rfl
      · split at h
        · obtain ⟨h, h5⟩ := and2 h
          obtain ⟨h, h4⟩ := and2 h
          obtain ⟨h, h3⟩ := and2 h
          obtain ⟨h1, h2⟩ := and2 h
          have e := of_decide_eq_true h1
          subst e
          exact val (pe_isiE G ih h2 h3 h4 h5) fun _ => rfl
        · obtain ⟨h, h5⟩ := and2 h
          obtain ⟨h, h4⟩ := and2 h
          obtain ⟨h, h3⟩ := and2 h
          obtain ⟨h1, h2⟩ := and2 h
          have e := of_decide_eq_true h1
          subst e
          exact val (pe_isvE G ih h2 h3 h4 h5) fun _ => rfl
        · cases h
      · obtain ⟨h, h4⟩ := and2 h
        obtain ⟨h, h3⟩ := and2 h
        obtain ⟨h1, h2⟩ := and2 h
        exact val (pe_call2E G ih h1 h2 h3 h4) fun _ => rfl
      · cases h
end
end Vm
end
section
set_option Elab.async false
set_option linter.all false
set_option maxRecDepth 100000
namespace Vm
open PySem PySem.Spec L2
inductive S where
  | asg (tg : Tg) (e : E)
  | asgO (i : Nat) (e : E)
  | par (is : List Nat) (es : List E)
  | setI (i : Nat) (ix e : E)
  | app (i : Nat) (e : E)
  | pop (i : Nat)
  | rem (i : Nat) (e : E)
  | expr (e : E)
  | ret (e : E)
  | retF (e : E)
  | retO (i : Nat)
  | ite (t : E) (a b : List S)
  | whl (t : E) (b : List S)
  | for_ (tg : Tg) (k : Ik) (l : List E) (b : List S)
  | brk | cont | pass | stop
  | rai (c : Str)
  | tryA (i : Nat) (e : E) (h : Str) (n j : Nat)
  | tryB (i : Nat) (e : E) (h : Str) (j : Nat) (d : D)
  | frz (i : Nat)
  | wip (vs : List Nat)
inductive O where
  | nx (en : En) | rt (d : D) (en : En) | bk (en : En) | ct (en : En) | ex (c : Str) (l : List D) | bad
def R.o {α : Type} (r : R α) (f : α → O) : O := match r with
  | .ok a => f a
  | .ex c l => .ex c l
  | .bad => .bad
def O.seq (r : O) (f : En → O) : O := match r with
  | .nx en => f en
  | r => r
def O.turn (r : O) (f : En → O) : O := match r with
  | .nx en => f en
  | .ct en => f en
  | .bk en => .nx en
  | r => r
def runL (f : S → En → O) : List S → En → O
  | [], en => .nx en
  | s :: ss, en => (f s en).seq (runL f ss)
def loopW (test : En → R (D × En)) (body : En → O) : Nat → En → O
  | 0, _ => .bad
  | k + 1, en => (test en).o fun p => match p.1 with
    | .bl true => (body p.2).turn (loopW test body k)
    | .bl false => .nx p.2
    | _ => .bad
def loopF (tg : Tg) (body : En → O) : List D → En → O
  | [], en => .nx en
  | d :: ds, en => match setTg tg d en with
    | none => .bad
    | some en1 => (body en1).turn (loopF tg body ds)
def ioIn (io : Option Nat) (vs : List Nat) : Bool := match io with
  | some i => vs.contains i
  | none => false
def remD (l : List D) (k : D) : Option (List D) := if k.okEq && (D.lst l).okEq then (l.findIdx? fun z => z.eqv k).map fun j => l.eraseIdx j else none
def anyOwn (en : En) : Bool := en.any fun
  | .own _ => true
  | _ => false
def clsAt (T : Tab) (h : Str) : Bool := match T.glob h with
  | some (.cls x) => decide (x = h)
  | _ => false
def exS (T : Tab) (K : Nat) (io : Option Nat) (fr : Bool) : Nat → S → En → O
  | 0, _, _ => .bad
  | n + 1, s, en => match s with
    | .asg tg e => (evE T n e en).o fun p => match setTg tg p.1 p.2 with
      | some en1 => .nx en1
      | none => .bad
    | .asgO i e => if io = some i then .bad else (evE T n e en).o fun p => match p.1 with
      | .lst l => .nx (p.2.set i (.own l))
      | _ => .bad
    | .par is es => (evList (evE T n) es en).o fun p => match setMany is p.1 p.2 with
      | some en1 => .nx en1
      | none => .bad
    | .setI i ix e => if (ownAt en i).isSome then (evE T n e en).o fun p => (evE T n ix p.2).o fun q => match q.1, ownAt q.2 i with
      | .int k, some l => (match ixN l.length k with
        | some j => .nx (q.2.set i (.own (l.set j p.1)))
        | none => .bad)
      | _, _ => .bad else .bad
    | .app i e => if (ownAt en i).isSome then (evE T n e en).o fun p => match ownAt p.2 i with
      | some l => if l.length < lineN then .nx (p.2.set i (.own (l ++ [p.1]))) else .bad
      | none => .bad else .bad
    | .pop i => (match ownAt en i with
      | some l => if l = [] then .bad else .nx (en.set i (.own l.dropLast))
      | none => .bad)
    | .rem i e => if (ownAt en i).isSome then (evE T n e en).o fun p => match ownAt p.2 i with
      | some l => (match remD l p.1 with
        | some l' => .nx (p.2.set i (.own l'))
        | none => .bad)
      | none => .bad else .bad
    | .expr e => (evE T n e en).o fun p => .nx p.2
    | .ret e => if fr then .bad else (evE T n e en).o fun p => .rt p.1 p.2
    | .retF e => if fr then (evE T n e en).o fun p => match p.1 with
      | .lst l => .rt (.lst l) p.2
      | _ => .bad else .bad
    | .retO i => if io = some i then .bad else match ownAt en i with
      | some l => .rt (.lst l) (if fr then en else en.set i (.val (.lst l)))
      | none => .bad
    | .ite t a b => (evE T n t en).o fun p => match p.1 with
      | .bl true => runL (exS T K io fr n) a p.2
      | .bl false => runL (exS T K io fr n) b p.2
      | _ => .bad
    | .whl t b => loopW (evE T n t) (runL (exS T K io fr n) b) K en
    | .for_ tg k l b => (evList (evE T n) l en).o fun p => match items k p.1 with
      | some ds => loopF tg (runL (exS T K io fr n) b) ds p.2
      | none => .bad
    | .brk => .bk en
    | .cont => .ct en
    | .pass => .nx en
    | .stop => .bad
    | .rai c => (match T.exc c with
      | some l => .ex c l
      | none => .bad)
    | .tryA i e h m j => if anyOwn en || decide (en.length ≤ m) || !clsAt T h then .bad else (match evE T n e en with
      | .ok p => (match setTg (.n i) p.1 p.2 with
        | some en1 => .nx en1
        | none => .bad)
      | .ex c l => if excLook h l = some true then .nx ((en.set j (.val (.exc c l))).set m .no) else .bad
      | .bad => .bad)
    | .tryB i e h j d => if anyOwn en || !clsAt T h then .bad else (match evE T n e en with
      | .ok p => (match setTg (.n i) p.1 p.2 with
        | some en1 => .nx en1
        | none => .bad)
      | .ex c l => if excLook h l = some true then .nx (en.set j (.val d)) else .bad
      | .bad => .bad)
    | .frz i => if io = some i then .bad else match ownAt en i with
      | some l => .nx (en.set i (.val (.lst l)))
      | none => .bad
    | .wip vs => if ioIn io vs then .bad else .nx (wipeE en vs)
def isLc : Expr → Bool
  | .ListComp _ _ _ _ => true
  | .SetComp _ _ _ _ => true
  | .DictComp _ _ _ _ _ => true
  | _ => false
def isStar : Expr → Bool
  | .Starred .. => true
  | _ => false
def swN (sc : Scope) (t e : Expr) : Bool := match t, e with
  | .Tuple ts _ _, .Tuple vs _ _ => !(ts.length == 2 || ts.length == 3) || vs.all (foldedForSure 8) && !(vs.any fun | .Starred .. => true | _ => false)
  | .Tuple _ _ _, .Set _ _ _ => false
  | .Tuple _ _ _, _ => true
  | .List _ _, _ => false
  | _, _ => true
def lcName (sc scope : Scope) (t e : Expr) : Bool := match t with
  | .Name y py => decide (sc.names.lookup y = some .local) && (py.line == e.pos.line) && !(scope.names.any fun (n, k) => n == y && (k == .local || k == .cell))
  | _ => false
def lcSc : Expr → Option Scope
  | .ListComp _ _ s _ => some s
  | _ => none
def cellN (sc : Scope) : Expr → Bool
  | .Name y _ => decide (sc.names.lookup y = some .cell)
  | _ => false
def isTupT : Expr → Bool
  | .Tuple _ _ _ => true
  | _ => false
def lcOk (sc : Scope) (t e : Expr) : Bool := match lcSc e with
  | some s => lcName sc s t e || cellN sc t || isTupT t
  | none => !isLc e
def nmB (N : List Str) (sc : Scope) (i : Nat) : Expr → Bool
  | .Name x _ => decide (N[i]? = some x) && visB sc x && okName x
  | _ => false
def frE (T : Str → Bool) : E → Bool
  | .lc _ _ _ _ _ _ => true
  | .lcb _ _ _ _ _ => true
  | .pr .lst l => l.all noBw
  | .pr .list _ => true
  | .pr .add _ => true
  | .pr .mul _ => true
  | .pr .slA _ => true
  | .pr .slB _ => true
  | .call f _ _ => T f
  | _ => false
def matSL (f : S → Stmt → Bool) : List S → List Stmt → Bool
  | .frz _ :: cs, ss => matSL f cs ss
  | .wip _ :: cs, ss => matSL f cs ss
  | .stop :: _, _ => true
  | [], [] => true
  | c :: cs, s :: ss => f c s && matSL f cs ss
  | _, _ => false
def parB (sc : Scope) (t e : Expr) : Bool := match t, e with
  | .Tuple [.Name x px, .Name y py] _ _, .Tuple [a, b] _ _ => (px.line == py.line) && !(x == y) && decide (sc.names.lookup x = some .local) && decide (sc.names.lookup y = some .local) && !isStar a && !isStar b && !([a, b].all (foldedForSure 8)) && !([a, b].all (constantsAlone 8))
  | _, _ => false
def matS (fr : Str → Bool) (df : Str → List D) (N : List Str) (sc : Scope) : Nat → S → Stmt → Bool
  | 0, _, _ => false
  | n + 1, c, st => match c with
    | .asg tg e => (match st with
      | .Assign [t] a _ => matT N sc tg t && matE n df N sc e a && swN sc t a && lcOk sc t a
      | _ => false)
    | .asgO i e => (match st with
      | .Assign [t] a _ => nameB N sc i t && matE n df N sc e a && frE fr e && lcOk sc t a
      | _ => false)
    | .par is es => (match is, st with
      | [i, j], .Assign [.Tuple ts k p] (.Tuple as k2 p2) _ => parB sc (.Tuple ts k p) (.Tuple as k2 p2) && namesB N sc [i, j] ts && matL (matE n df N sc) es as
      | _, _ => false)
    | .setI i ix e => (match st with
      | .Assign [.Subscript x y _] a _ => nmB N sc i x && matE n df N sc ix y && !isSlice y && matE n df N sc e a
      | _ => false)
    | .app i e => (match st with
      | .Expr (.Call (.Attribute x y apos) [a] [] cpos) pos => nmB N sc i x && decide (y = "append") && (apos.endLine == cpos.line) && matE n df N sc e a
      | _ => false)
    | .pop i => (match st with
      | .Expr (.Call (.Attribute x y apos) [] [] cpos) pos => nmB N sc i x && decide (y = "pop") && (apos.endLine == cpos.line)
      | _ => false)
    | .rem i e => (match st with
      | .Expr (.Call (.Attribute x y apos) [a] [] cpos) pos => nmB N sc i x && decide (y = "remove") && (apos.endLine == cpos.line) && matE n df N sc e a
      | _ => false)
    | .expr e => (match st with
      | .Expr a _ => matE n df N sc e a && !isLc a
      | _ => false)
    | .ret e => (match st with
      | .Return (some a) _ => matE n df N sc e a
      | _ => false)
    | .retF e => (match st with
      | .Return (some a) _ => matE n df N sc e a && frE fr e
      | _ => false)
    | .retO i => (match st with
      | .Return (some a) _ => nmB N sc i a
      | _ => false)
    | .ite t a b => (match st with
      | .If x p q _ => matE n df N sc t x && matSL (matS fr df N sc n) a p && matSL (matS fr df N sc n) b q
      | _ => false)
    | .whl t b => (match st with
      | .While x p [] _ => matE n df N sc t x && matSL (matS fr df N sc n) b p
      | _ => false)
    | .for_ tg k l b => (match st with
      | .For t a p [] _ => matI (matE n df N sc) sc tg k l a && matT N sc tg t && matSL (matS fr df N sc n) b p
      | _ => false)
    | .brk => (match st with
      | .Break _ => true
      | _ => false)
    | .cont => (match st with
      | .Continue _ => true
      | _ => false)
    | .pass => (match st with
      | .Pass _ => true
      | _ => false)
    | .stop => true
    | .rai c => (match st with
      | .Raise (some (.Call (.Name x _) [.Constant (.str _) _ _] [] _)) none _ => decide (x = c) && glbB sc x && okName x
      | _ => false)
    | .tryA i e h m j => (match st with
      | .Try [.Assign [t] a _] [.ExceptHandler (some (.Name x _)) (some nn) [.Assign [t2] (.Name y _) _] _] [] [] _ => nameB N sc i t && matE n df N sc e a && !isLc a && decide (x = h) && glbB sc x && okName x && decide (N[m]? = some nn) && decide (sc.names.lookup nn = some .local) && nameB N sc j t2 && decide (y = nn) && okName y && !decide (m = j)
      | _ => false)
    | .tryB i e h j d => (match st with
      | .Try [.Assign [t] a _] [.ExceptHandler (some (.Name x _)) none [.Assign [t2] (.Constant k _ _) _] _] [] [] _ => nameB N sc i t && matE n df N sc e a && !isLc a && decide (x = h) && glbB sc x && okName x && nameB N sc j t2 && constB d k
      | _ => false)
    | .frz _ => false
    | .wip _ => false
section
variable {B : Bs} {K : PySem.W.Frag} {F H : Hp} {σ : St} {en : En}
theorem Ok.put {i : Nat} {l l' : List D} {p : Addr} {us' : List V} (k : Ok B K F H σ en) (h : en[i]? = some (Slot.own l)) (hp : σ[i]? = some (some (V.ref p))) (dn : DnA K F us' l') : Ok B K F (upd H p (.lst us')) σ (en.set i (.own l')) := by
  obtain ⟨p0, us, e1, e2, e3, e4, e5⟩ := k.own i l h
  rw [hp] at e1
  cases e1
  have lt := (List.getElem?_eq_some_iff.mp h).1
  have get : ∀ j, (en.set i (.own l'))[j]? = if i = j then some (Slot.own l') else en[j]? := fun j => by
    by_cases z : i = j
    · subst z; rw [List.getElem?_set_self lt, if_pos rfl]
    · rw [List.getElem?_set_ne z, if_neg z]
  have back : ∀ j m, (en.set i (.own l'))[j]? = some (Slot.own m) → ∃ m', en[j]? = some (Slot.own m') := fun j m e => by
    rw [get] at e
    split at e
    · rename_i z; subst z; exact ⟨l, h⟩
    · exact ⟨m, e⟩
  refine ⟨by rw [List.length_set]; exact k.len, fun j d e => ?_, fun j m e => ?_, fun j1 j2 m1 m2 q h1 h2 h3 h4 => ?_, fun a o e => ?_, k.bsub, k.bnew, fun a o e e' => ?_, fun a e => upd_dom (k.bdom a e), fun j q e => ?_⟩
  · rw [get] at e
    split at e
    · cases e
    · exact k.val j d e
  · rw [get] at e
    split at e
    · rename_i z
      subst z
      cases e
      exact ⟨p, us', hp, upd_same, dn, e4, e5⟩
    · rename_i z
      obtain ⟨q, vs, f1, f2, f3, f4, f5⟩ := k.own j m e
      have ne : q ≠ p := fun w => by subst w; exact z (k.inj i j l m q h e hp f1)
      exact ⟨q, vs, f1, by rw [upd_ne ne]; exact f2, f3, f4, f5⟩
  · obtain ⟨m1', q1⟩ := back j1 m1 h1
    obtain ⟨m2', q2⟩ := back j2 m2 h2
    exact k.inj j1 j2 m1' m2' q q1 q2 h3 h4
  · rw [upd_ne (ne_of_none e e4)]; exact k.sub _ _ e
  · rw [upd_ne (fun w => by
      subst w
      rcases e5 with z | z
      · exact e' z
      · rw [z] at e; cases e)]
    exact k.bkeep a o e e'
  · obtain ⟨f1, f2⟩ := k.pin j q e
    refine ⟨f1, ?_⟩
    by_cases z : i = j
    · have q : (en.set i (.own l'))[j]? = some (Slot.own l') := by rw [get, if_pos z]
      rw [ownAt_some.mpr q]
      exact fun w => nomatch w
    · unfold ownAt at f2 ⊢
      rw [get, if_neg z]
      exact f2
theorem own_newB {i : Nat} {l : List D} {p : Addr} (k : Ok B K F H σ en) (h : en[i]? = some (Slot.own l)) (hp : σ[i]? = some (some (V.ref p))) (hP : ∀ q, B.P q → ∃ j, B.pin j q) (ni : ∀ q, ¬ B.pin i q) : B.H p = none := by
  obtain ⟨p0, us, e1, e2, e3, e4, e5⟩ := k.own i l h
  rw [hp] at e1
  cases e1
  rcases e5 with z | z
  · obtain ⟨j, hj⟩ := hP p z
    obtain ⟨f1, f2⟩ := k.pin j p hj
    obtain ⟨m, hm⟩ := ne_some f2
    have e := k.inj i j l m p h (ownAt_some.mp hm) hp f1
    subst e
    exact absurd hj (ni p)
  · exact z
theorem Ok.frz {i : Nat} {l : List D} (k : Ok B K F H σ en) (h : en[i]? = some (Slot.own l)) (hP : ∀ q, B.P q → ∃ j, B.pin j q) (ni : ∀ q, ¬ B.pin i q) : ∃ F' p, Same F F' ∧ σ[i]? = some (some (V.ref p)) ∧ Dn K F' (.ref p) (.lst l) ∧ Ok B K F' H σ (en.set i (.val (.lst l))) := by
  obtain ⟨p, us, e1, e2, e3, e4, e5⟩ := k.own i l h
  have nb := own_newB k h e1 hP ni
  have s : Same F (upd F p (.lst us)) := fun b u z => by rw [upd_ne (ne_of_none z e4)]; exact z
  have lt := (List.getElem?_eq_some_iff.mp h).1
  have get : ∀ j, (en.set i (.val (.lst l)))[j]? = if i = j then some (Slot.val (.lst l)) else en[j]? := fun j => by
    by_cases z : i = j
    · subst z; rw [List.getElem?_set_self lt, if_pos rfl]
    · rw [List.getElem?_set_ne z, if_neg z]
  have dn : Dn K (upd F p (.lst us)) (.ref p) (.lst l) := .lst upd_same (e3.up s)
  refine ⟨_, p, s, e1, dn, by rw [List.length_set]; exact k.len, fun j d e => ?_, fun j m e => ?_, fun j1 j2 m1 m2 q h1 h2 h3 h4 => ?_, fun a o e => ?_, k.bsub.trans s, fun a e e' => ?_, k.bkeep, k.bdom, fun j q e => ?_⟩
  · rw [get] at e
    split at e
    · rename_i z
      subst z
      cases e
      exact ⟨_, e1, dn⟩
    · obtain ⟨v, f1, f2⟩ := k.val j d e
      exact ⟨v, f1, f2.up s⟩
  · rw [get] at e
    split at e
    · cases e
    · rename_i z
      obtain ⟨q, vs, f1, f2, f3, f4, f5⟩ := k.own j m e
      have ne : q ≠ p := fun w => by subst w; exact z (k.inj i j l m q h e e1 f1)
      exact ⟨q, vs, f1, f2, f3.up s, by rw [upd_ne ne]; exact f4, f5⟩
  · rw [get] at h1 h2
    split at h1
    · cases h1
    · split at h2
      · cases h2
      · exact k.inj j1 j2 m1 m2 q h1 h2 h3 h4
  · by_cases w : a = p
    · subst w; rw [upd_same] at e; cases e; exact e2
    · rw [upd_ne w] at e; exact k.sub _ _ e
  · have ne : a ≠ p := fun w => by subst w; exact e' nb
    rw [upd_ne ne]; exact k.bnew a e e'
  · obtain ⟨f1, f2⟩ := k.pin j q e
    refine ⟨f1, ?_⟩
    have ne : i ≠ j := fun w => by subst w; exact ni q e
    unfold ownAt at f2 ⊢
    rw [get, if_neg ne]
    exact f2
theorem Ok.new {i : Nat} {ds : List D} {p : Addr} {us : List V} (k : Ok B K F H σ en) (bp : B.H p = none) (f : F p = none) (hp : H p = some (.lst us)) (dn : DnA K F us ds) (no : ∀ (j : Nat) (l : List D), en[j]? = some (Slot.own l) → σ[j]? ≠ some (some (V.ref p))) (ni : ∀ q, ¬ B.pin i q) :
    Ok B K F H (σ.set i (some (.ref p))) (en.set i (.own ds)) := by
  by_cases lt : i < en.length
  · have lt' : i < σ.length := by rw [← k.len]; exact lt
    have get : ∀ j, (en.set i (.own ds))[j]? = if i = j then some (Slot.own ds) else en[j]? := fun j => by
      by_cases z : i = j
      · subst z; rw [List.getElem?_set_self lt, if_pos rfl]
      · rw [List.getElem?_set_ne z, if_neg z]
    have getS : ∀ j, (σ.set i (some (V.ref p)))[j]? = if i = j then some (some (V.ref p)) else σ[j]? := fun j => by
      by_cases z : i = j
      · subst z; rw [List.getElem?_set_self lt', if_pos rfl]
      · rw [List.getElem?_set_ne z, if_neg z]
    refine ⟨by rw [List.length_set, List.length_set]; exact k.len, fun j d e => ?_, fun j m e => ?_, fun j1 j2 m1 m2 q h1 h2 h3 h4 => ?_, k.sub, k.bsub, k.bnew, k.bkeep, k.bdom, fun j q e => ?_⟩
    · rw [get] at e
      rw [getS]
      split at e
      · cases e
      · rename_i z
        rw [if_neg z]
        exact k.val j d e
    · rw [get] at e
      rw [getS]
      split at e
      · rename_i z
        cases e
        rw [if_pos z]
        exact ⟨p, us, rfl, hp, dn, f, .inr bp⟩
      · rename_i z
        rw [if_neg z]
        exact k.own j m e
    · rw [get] at h1 h2
      rw [getS] at h3 h4
      by_cases z1 : i = j1
      · by_cases z2 : i = j2
        · rw [← z1, ← z2]
        · rw [if_neg z2] at h2 h4
          rw [if_pos z1] at h3
          cases h3
          exact absurd h4 (no j2 m2 h2)
      · rw [if_neg z1] at h1 h3
        by_cases z2 : i = j2
        · rw [if_pos z2] at h4
          cases h4
          exact absurd h3 (no j1 m1 h1)
        · rw [if_neg z2] at h2 h4
          exact k.inj j1 j2 m1 m2 q h1 h2 h3 h4
    · obtain ⟨f1, f2⟩ := k.pin j q e
      have ne : i ≠ j := fun w => by subst w; exact ni q e
      refine ⟨by rw [getS, if_neg ne]; exact f1, ?_⟩
      unfold ownAt at f2 ⊢
      rw [get, if_neg ne]
      exact f2
  · have ge : en.length ≤ i := by omega
    rw [List.set_eq_of_length_le ge, List.set_eq_of_length_le (show σ.length ≤ i by rw [← k.len]; exact ge)]
    exact k
end
end Vm
end
section
set_option Elab.async false
set_option linter.all false
set_option maxRecDepth 100000
namespace Vm
open PySem PySem.Spec L2
section
variable {C : Cg} {X : Cx} {N : List Str} {sc : Scope} {n : Nat} {df : Str → List D}
def OpSF (K : PySem.W.Frag) (p : Pr) (r : R2) : Prop := ∀ {F H : Hp} {Q : VK} {es : List D} {d1 d2 : D} {x y : V}, prim p [d1, d2] = .ok (.lst es) → DA K F H x d1 → DA K F H y d2 → Same F H → Qf K F H es Q → r x y H Q
theorem op2F {p : Pr} {c c2 : E} {σ : St} {H : Hp} {Q : VK} {r : R2} (hr : OpSF C.K p r) (hn : ∀ ds d, prim p ds = .ok d → ds.length = 2) (h : tF C (n + 1) (.pr p [c, c2]) σ H Q) : tOp r (tO C n c) (tO C n c2) σ H Q := by
  obtain ⟨F, en, k, h⟩ := h
  exact prim_runF (R := fun vs H1 => match vs with
    | [x, y] => r x y H1 Q
    | _ => False) k h (fun vs ds es F1 H1 a e s q => by
    have l := hn ds _ e
    match ds, l with
    | [d1, d2], _ =>
      obtain ⟨x, y, rfl, a1, a2⟩ := a.inv2
      exact hr e a1 a2 s q) (prim_noex p)
theorem addF : OpSF C.K .add (rAddV C.K) := fun {F H Q es d1 d2 x y} e0 a b s q => by
  have e : p_add [d1, d2] = .ok (.lst es) := e0
  clear e0
  unfold p_add at e
  split at e
  · cases e
  · split at e <;> cases e
  · rename_i l m w
    cases w
    split at e
    · rename_i z
      cases e
      exact add_okF z a b s q
    · cases e
  · cases e
theorem mulF : OpSF C.K .mul (rMulV C.K) := fun {F H Q es d1 d2 x y} e0 a b s q => by
  have e : p_mul [d1, d2] = .ok (.lst es) := e0
  clear e0
  unfold p_mul at e
  split at e
  · split at e <;> cases e
  · rename_i l m w
    cases w
    split at e
    · rename_i z
      cases e
      exact mul_okF z a b s q
    · cases e
  · split at e <;> cases e
  · cases e
theorem slAF : OpSF C.K .slA (fun x y H Q => ∃ i, y = .int i ∧ rSl C.K x none (some i) H Q) := fun {F H Q es d1 d2 x y} e0 a b s q => by
  have e : p_slA [d1, d2] = .ok (.lst es) := e0
  clear e0
  unfold p_slA at e
  split at e
  · rename_i w; cases w; cases e; exact ⟨_, b.int, slL_okF a s q⟩
  · rename_i w; cases w; cases e; exact ⟨_, b.int, slS_okF a s q⟩
  · cases e
  · split at e <;> cases e
  · cases e
theorem slBF : OpSF C.K .slB (fun x y H Q => ∃ i, y = .int i ∧ rSl C.K x (some i) none H Q) := fun {F H Q es d1 d2 x y} e0 a b s q => by
  have e : p_slB [d1, d2] = .ok (.lst es) := e0
  clear e0
  unfold p_slB at e
  split at e
  · rename_i w; cases w; cases e; exact ⟨_, b.int, slL_okF a s q⟩
  · rename_i w; cases w; cases e; exact ⟨_, b.int, slS_okF a s q⟩
  · cases e
  · split at e <;> cases e
  · cases e
theorem pe_F (G : Gd C X N sc) {c : E} {a : Expr} (hf : frE C.T.fresh c = true) (h : matE n C.T.dflt N sc c a = true) : PE X a (tF C n c) := by
  have hK := G.hK
  cases n with
  | zero => cases h
  | succ n =>
    have ih := snd n C X N sc G
    cases c <;> first | cases hf | skip
    · rename_i p l
      cases p <;> first | cases hf | skip
      -- a list display
      · unfold matE at h
        simp only at h
        split at h <;> first
          | (obtain ⟨h, h3⟩ := and2 h
             obtain ⟨h1, h2⟩ := and2 h
             first
              | (cases h1; done)
              | exact pe_lstF ih h2 h3)
          | (exfalso; simp [binB, cmpB, call1B, call2B] at h; done)
          | cases h
          | (exfalso; split at h <;> simp_all; done)
      -- +
      · unfold matE at h
        simp only at h
        split at h <;> first
          | (rename_i x o y pos c d
             obtain ⟨h, h3⟩ := and2 h
             obtain ⟨h1, h2⟩ := and2 h
             have e : o = .Add := by cases o <;> first | rfl | cases h1
             subst e
             exact PE.imp (pe_op op_addV (pe_O G ih h2) (pe_O G ih h3)) fun σ H Q q => by rw [hK]; exact op2F addF (prim_len2 (by simp)) q)
          | (exfalso; simp [binB, cmpB, call1B, call2B] at h; done)
          | cases h
          | (exfalso; split at h <;> simp_all; done)
      -- *
      · unfold matE at h
        simp only at h
        split at h <;> first
          | (rename_i x o y pos c d
             obtain ⟨h, h3⟩ := and2 h
             obtain ⟨h1, h2⟩ := and2 h
             have e : o = .Mult := by cases o <;> first | rfl | cases h1
             subst e
             exact PE.imp (pe_op op_mulV (pe_O G ih h2) (pe_O G ih h3)) fun σ H Q q => by rw [hK]; exact op2F mulF (prim_len2 (by simp)) q)
          | (exfalso; simp [binB, cmpB, call1B, call2B] at h; done)
          | cases h
          | (exfalso; split at h <;> simp_all; done)
      · unfold matE at h
        simp only at h
        split at h <;> first
          | (obtain ⟨h, h3⟩ := and2 h
             obtain ⟨h1, h2⟩ := and2 h
             exact PE.imp (pe_slice sl_V (pe_O G ih h2) po_none (po_some (pe_O G ih (matO_of h3)))) fun σ H Q q => by rw [hK]; exact op2F slAF (prim_len2 (by simp)) q)
          | (exfalso; simp [binB, cmpB, call1B, call2B] at h; done)
          | cases h
          | (exfalso; split at h <;> simp_all; done)
      · unfold matE at h
        simp only at h
        split at h <;> first
          | (obtain ⟨h, h3⟩ := and2 h
             obtain ⟨h1, h2⟩ := and2 h
             exact PE.imp (pe_slice sl_V (pe_O G ih h2) (po_some (pe_O G ih (matO_of h3))) po_none) fun σ H Q q => by rw [hK]; exact op2F slBF (prim_len2 (by simp)) q)
          | (exfalso; simp [binB, cmpB, call1B, call2B] at h; done)
          | cases h
          | (exfalso; split at h <;> simp_all; done)
      · unfold matE at h
        simp only at h
        split at h <;> first
          | (rename_i x p2 y pos c
             obtain ⟨h, h3⟩ := and2 h
             obtain ⟨h1, h2⟩ := and2 h
             have e : x = "list" := of_decide_eq_true h1
             subst e
             exact PE.imp (pe_callTy call_list_of (glb_of G.hs h2) (G.blt _ (by decide)) rfl (pa_O G ih (l := [c]) ((Bool.and_eq_true _ _).mpr ⟨h3, rfl⟩)) (he := star_O h3 X.env) (hpl := rfl)) fun σ H Q q => by
               rw [hK]
               obtain ⟨F, en, k, q⟩ := q
               exact prim_runF (R := fun vs H1 => rListV C.K vs H1 Q) k q (fun vs ds es F1 H1 a e s q => by
                 have l := prim_len1 (p := .list) (by simp) ds _ e
                 match ds, l with
                 | [d1], _ =>
                   obtain ⟨x, rfl, a1⟩ := a.inv1
                   exact list_okF e a1 s q) (prim_noex .list))
          | (exfalso; simp [binB, cmpB, call1B, call2B] at h; done)
          | cases h
          | (exfalso; split at h <;> simp_all; done)
    · unfold matE at h
      simp only at h
      split at h
      · obtain ⟨h, h5⟩ := and2 h
        obtain ⟨h, h4⟩ := and2 h
        obtain ⟨h, h3⟩ := and2 h
        obtain ⟨h1, h2⟩ := and2 h
        exact (pe_callE G ih (of_decide_eq_true h1) h2 h3 h4 h5).2 hf
      · cases h
    · exact (pe_lcF G (snd n) h).1
    · exact (pe_lcbF G (snd n) h).1
end
end Vm
end
section
set_option Elab.async false
set_option linter.all false
set_option maxRecDepth 100000
namespace Vm
open PySem PySem.Spec L2
def xi1 (K : PySem.W.Frag) : XI := fun c l cls dx _ _ => cls = .ref (He.ga K c) ∧ dx = none ∧ xokB K c l = true
structure Gs (C : Cg) (X : Cx) (N : List Str) (sc : Scope) (io : Option Nat) : Prop extends Gd C X N sc where
  fn : ∀ x, sc.names.lookup x = some .cell → X.fn x = true
  thru : PassesOwn (model X.prog X.w) X.A X.env X.xe
  kind : sc.kind = .function
  pinP : ∀ q, C.B.P q → ∃ j, C.B.pin j q
  pinI : ∀ j q, C.B.pin j q → io = some j
  xi : C.xi = xi1 X.K
  stk : X.stack = X.env :: X.outer
  frm : X.env.frame = some X.env.locals
  nex : X.ex = []
def WishS (C : Cg) (c : Str) (l : List D) : Prop := ∀ σ cls dx F' H', Bk C.B F' H' → C.xi c l cls dx F' H' → C.W cls dx σ H'
def ResS (C : Cg) (fr : Bool) (D : Ends) (F : Hp) : O → Prop
  | .nx en => ∀ σ' F' H', Same F F' → Ok C.B C.K F' H' σ' en → D.nx σ' H'
  | .bk en => ∀ σ' F' H', Same F F' → Ok C.B C.K F' H' σ' en → D.bk σ' H'
  | .ct en => ∀ σ' F' H', Same F F' → Ok C.B C.K F' H' σ' en → D.ct σ' H'
  | .rt d en => ∀ v σ' F' H', Same F F' → Ok C.B C.K F' H' σ' en → RetOk fr C.K F' C.B.H H' v d → D.rt v H'
  | .ex c l => WishS C c l
  | .bad => False
def tS (C : Cg) (fr : Bool) (f : En → O) : TS := fun D σ H => ∃ F en, Ok C.B C.K F H σ en ∧ ResS C fr D F (f en)
section
variable {C : Cg} {X : Cx} {N : List Str} {sc : Scope} {n : Nat} {io : Option Nat} {fr : Bool} {D : Ends} {σ : St} {F H F' H' : Hp} {en en' : En} {Q : VK}
theorem ResS.mono {r : O} (h : ResS C fr D F r) (s : Same F F') : ResS C fr D F' r := by
  cases r with
  | nx en => exact fun σ' F2 H2 s2 k => h σ' F2 H2 (s.trans s2) k
  | bk en => exact fun σ' F2 H2 s2 k => h σ' F2 H2 (s.trans s2) k
  | ct en => exact fun σ' F2 H2 s2 k => h σ' F2 H2 (s.trans s2) k
  | rt d en => exact fun v σ' F2 H2 s2 k => h v σ' F2 H2 (s.trans s2) k
  | ex c l => exact h
  | bad => exact h
theorem WishS.w {c : Str} {l : List Vm.D} (h : WishS C c l) : Wish C σ F c l := fun cls dx F' H' _ b x => h σ cls dx F' H' b x
theorem o_run {e : E} {f : Vm.D × En → O} (ok : Ok C.B C.K F H σ en) (h : ResS C fr D F ((evE C.T n e en).o f)) (q : ∀ p v F' H', Go σ F H en F' H' p.2 → Ok C.B C.K F' H' σ p.2 → Dn C.K F' v p.1 → ResS C fr D F' (f p) → Q v H') : tE C n e σ H Q := by
  refine ⟨F, en, ok, ?_⟩
  cases r : evE C.T n e en with
  | bad => rw [r] at h; exact h
  | ex c l => rw [r] at h; exact WishS.w h
  | ok p => rw [r] at h; exact fun v F' H' g k dn => q p v F' H' g k dn (ResS.mono h g.sub)
theorem o_runT {e : E} {f : Vm.D × En → O} {Q : Bool → Hp → Prop} (hf : ∀ d en, (∀ b, d ≠ .bl b) → f (d, en) = .bad) (ok : Ok C.B C.K F H σ en) (h : ResS C fr D F ((evE C.T n e en).o f)) (q : ∀ b en' F' H', Go σ F H en F' H' en' → Ok C.B C.K F' H' σ en' → ResS C fr D F' (f (.bl b, en')) → Q b H') : tT C n e σ H Q := by
  refine ⟨F, en, ok, ?_⟩
  cases r : evE C.T n e en with
  | bad => rw [r] at h; exact h
  | ex c l => rw [r] at h; exact WishS.w h
  | ok p =>
    rw [r] at h
    obtain ⟨d, en1⟩ := p
    have h : ResS C fr D F (f (d, en1)) := h
    by_cases hb : ∃ b, d = .bl b
    · obtain ⟨b, rfl⟩ := hb
      exact ⟨b, rfl, fun F' H' g k => q b en1 F' H' g k (ResS.mono h g.sub)⟩
    · rw [hf d en1 fun b e => hb ⟨b, e⟩] at h
      exact h.elim
theorem o_runF {e : E} {f : Vm.D × En → O} (hf : ∀ d en, (∀ b, d ≠ .lst b) → f (d, en) = .bad) (ok : Ok C.B C.K F H σ en) (h : ResS C fr D F ((evE C.T n e en).o f))
    (q : ∀ ds en' p us F' H', Go σ F H en F' H' en' → Ok C.B C.K F' H' σ en' → H p = none → F' p = none → H' p = some (.lst us) → DnA C.K F' us ds → (∀ (i : Nat) (l : List Vm.D), en'[i]? = some (Slot.own l) → σ[i]? ≠ some (some (V.ref p))) → ResS C fr D F' (f (.lst ds, en')) → Q (.ref p) H') : tF C n e σ H Q := by
  refine ⟨F, en, ok, ?_⟩
  cases r : evE C.T n e en with
  | bad => rw [r] at h; exact h
  | ex c l => rw [r] at h; exact WishS.w h
  | ok p =>
    rw [r] at h
    obtain ⟨d, en1⟩ := p
    have h : ResS C fr D F (f (d, en1)) := h
    by_cases hb : ∃ b, d = .lst b
    · obtain ⟨b, rfl⟩ := hb
      exact ⟨b, rfl, fun p us F' H' g k h1 h2 h3 h4 h5 => q b en1 p us F' H' g k h1 h2 h3 h4 h5 (ResS.mono h g.sub)⟩
    · rw [hf d en1 fun b e => hb ⟨b, e⟩] at h
      exact h.elim
theorem o_runL {l : List E} {f : List Vm.D × En → O} {Q : List V → Hp → Prop} (ok : Ok C.B C.K F H σ en) (h : ResS C fr D F ((evList (evE C.T n) l en).o f)) (q : ∀ p vs F' H', Go σ F H en F' H' p.2 → Ok C.B C.K F' H' σ p.2 → DnA C.K F' vs p.1 → ResS C fr D F' (f p) → Q vs H') : tLs C n l σ H Q := by
  refine list_run l ok ?_
  cases r : evList (evE C.T n) l en with
  | bad => rw [r] at h; exact h
  | ex c l => rw [r] at h; exact WishS.w h
  | ok p => rw [r] at h; exact fun vs F' H' g k dn => q p vs F' H' g k dn (ResS.mono h g.sub)
theorem bk_none {p : Addr} (k : Ok C.B C.K F H σ en) (h : H p = none) : C.B.H p = none := by
  cases z : C.B.H p with
  | none => rfl
  | some o => exact absurd h (k.bdom p (some_ne z))
theorem seq_run {r : O} {f : En → O} (h : ResS C fr D F (r.seq f)) : ResS C fr { D with nx := tS C fr f D } F r := by
  cases r with
  | nx en => exact fun σ' F' H' s k => ⟨F', en, k, ResS.mono h s⟩
  | bk en => exact h
  | ct en => exact h
  | rt d en => exact h
  | ex c l => exact h
  | bad => exact h
theorem turn_run {r : O} {f : En → O} (h : ResS C fr D F (r.turn f)) : ResS C fr { D with nx := tS C fr f D, ct := tS C fr f D, bk := D.nx } F r := by
  cases r with
  | nx en => exact fun σ' F' H' s k => ⟨F', en, k, ResS.mono h s⟩
  | bk en => exact h
  | ct en => exact fun σ' F' H' s k => ⟨F', en, k, ResS.mono h s⟩
  | rt d en => exact h
  | ex c l => exact h
  | bad => exact h
theorem Gs.loc (G : Gs C X N sc io) : ∀ x, locB sc x = true → L2.Loc X.env.scope x ∧ (X.fn x = true ∨ X.env.scope.names.lookup x = some .local) := fun x h => by
  refine ⟨loc_of G.hs h, ?_⟩
  unfold locB at h
  split at h
  · rename_i e; exact .inr (by rw [G.hs]; exact e)
  · rename_i e; exact .inl (G.fn x e)
  · cases h
theorem setMany_no {j : Nat} : ∀ {is : List Nat} {ds : List Vm.D} {en en2 : En}, setMany is ds en = some en2 → j ∈ is → ownAt en j = none
  | i :: is, d :: ds, en, en2, h, hj => by
    unfold setMany at h
    split at h
    · cases h
    · rename_i z
      have z : ownAt en i = none := by
        cases o : ownAt en i with
        | none => rfl
        | some l => rw [o] at z; exact absurd rfl z
      by_cases e : j = i
      · rw [e]; exact z
      · have q := setMany_no h ((List.mem_cons.mp hj).resolve_left e)
        unfold ownAt at q ⊢
        rw [List.getElem?_set_ne (Ne.symm e)] at q
        exact q
  | [], _, _, _, _, hj => by cases hj
  | _ :: _, [], _, _, h, _ => by cases h
theorem setTg_no {tg : Tg} {d : Vm.D} {en en2 : En} (h : setTg tg d en = some en2) : ∀ j ∈ tgS tg, ownAt en j = none := by
  cases tg with
  | n i =>
    intro j hj
    rw [List.mem_singleton.mp hj]
    have h : (if (ownAt en i).isSome then none else some (en.set i (.val d))) = some en2 := h
    cases o : ownAt en i with
    | none => rfl
    | some l => rw [o] at h; cases h
  | t is =>
    cases d <;> first | cases h | skip
    all_goals exact fun j hj => setMany_no h hj
theorem store_run {tg : Tg} {d : Vm.D} {v : V} {en1 : En} (k : Ok C.B C.K F H σ en) (dn : Dn C.K F v d) (e : setTg tg d en = some en1) (h : ResS C fr D F (.nx en1)) : gT C.K tg v σ H D.nx :=
  setTg_run (vs := tgS tg) e k dn (fun _ z => z) (setTg_no e) fun σ2 k2 _ => h σ2 F H (Same.refl _) k2
theorem lc_sw {t a : Expr} {l : Nat} {env : PySem.Env} (h : isLc a = false) : swapsWithSole [t] a l env = pure false := by
  cases a <;> first | rfl | cases h
theorem sw_none {t a : Expr} {env : PySem.Env} (h : swN sc t a = true) : swappedStores [t] a env = pure none := by
  cases t <;> first
    | (cases a <;> first | rfl | cases h; done)
    | rfl
    | skip
  rename_i ts k p
  cases a <;> first
    | rfl
    | cases h
    | skip
  rename_i vs k2 p2
  have h : (!(ts.length == 2 || ts.length == 3) || vs.all (foldedForSure 8) && !(vs.any fun | .Starred .. => true | _ => false)) = true := h
  unfold swappedStores
  simp only
  by_cases c1 : (!(ts.length == 2 || ts.length == 3) || vs.length != ts.length || env.blockKind != .function) = true
  · simp only [c1, if_true]
  · simp only [c1]
    have c0 : (!(ts.length == 2 || ts.length == 3)) = false := by
      cases z : (!(ts.length == 2 || ts.length == 3)) with
      | false => rfl
      | true => rw [z] at c1; exact absurd rfl c1
    rw [c0] at h
    obtain ⟨h1, h2⟩ := and2 (show (vs.all (foldedForSure 8) && !(vs.any fun | .Starred .. => true | _ => false)) = true from h)
    have h3 : (vs.any fun | .Starred .. => true | _ => false) = false := by
      cases z : (vs.any fun | .Starred .. => true | _ => false) with
      | false => rfl
      | true => rw [z] at h2; cases h2
    simp only [Bool.false_eq_true, if_false]
    split
    · rfl
    · split
      · rfl
      · rfl
def starF : Expr → Bool := fun | .Starred .. => true | _ => false
theorem starF_of {e : Expr} (h : isStar e = false) : starF e = false := by
  cases e <;> first | rfl | cases h
theorem star_any2 {a b : Expr} (ha : isStar a = false) (hb : isStar b = false) : ([a, b].any fun | .Starred .. => true | _ => false) = false := by
  have q : [a, b].any starF = false := by
    rw [List.any_cons, List.any_cons, starF_of ha, starF_of hb]
    rfl
  exact q
theorem sw_par {x y : Str} {px py pt p2 : Pos} {kt k2 : Nat} {a b : Expr} {env : PySem.Env} (hs : env.scope = sc) (hk : sc.kind = .function) (h : parB sc (.Tuple [.Name x px, .Name y py] kt pt) (.Tuple [a, b] k2 p2) = true) :
    swappedStores [.Tuple [.Name x px, .Name y py] kt pt] (.Tuple [a, b] k2 p2) env = pure (some [x, y]) ∧ x ≠ y ∧ env.scope.names.lookup x = some .local ∧ env.scope.names.lookup y = some .local := by
  unfold parB at h
  simp only at h
  obtain ⟨h, h8⟩ := and2 h
  obtain ⟨h, h7⟩ := and2 h
  obtain ⟨h, h6⟩ := and2 h
  obtain ⟨h, h5⟩ := and2 h
  obtain ⟨h, h4⟩ := and2 h
  obtain ⟨h, h3⟩ := and2 h
  obtain ⟨h1, h2⟩ := and2 h
  have nt : ∀ {b : Bool}, (!b) = true → b = false := fun {b} z => by cases b; rfl; cases z
  have h2 := nt h2
  have h5 := nt h5
  have h6 := nt h6
  have h7 := nt h7
  have h8 := nt h8
  have ne : x ≠ y := fun e => by subst e; simp at h2
  have h3 : sc.names.lookup x = some .local := of_decide_eq_true h3
  have h4 : sc.names.lookup y = some .local := of_decide_eq_true h4
  have kx : env.kindOf x = some .local := by unfold PySem.Env.kindOf; rw [hs]; exact h3
  have ky : env.kindOf y = some .local := by unfold PySem.Env.kindOf; rw [hs]; exact h4
  have bk : env.blockKind = .function := by unfold PySem.Env.blockKind; rw [hs, hk]; rfl
  refine ⟨?_, ne, by rw [hs]; exact h3, by rw [hs]; exact h4⟩
  unfold swappedStores
  have e1 : px.line = py.line := by simpa using h1
  simp only [star_any2 h5 h6, bk, h7, h8]
  simp [kx, ky, e1, Expr.pos, ne, List.eraseDups_cons]
  rw [if_neg (fun z => by
    rcases z with z | z
    · exact absurd (show starF a = true from z) (by rw [starF_of h5]; exact fun w => nomatch w)
    · exact absurd (show starF b = true from z) (by rw [starF_of h6]; exact fun w => nomatch w))]
  have ny : (y == x) = false := by simp [Ne.symm ne]
  simp [ny, List.eraseDups_cons]
end
end Vm
end
section
set_option Elab.async false
set_option linter.all false
set_option maxRecDepth 100000
namespace Vm
open PySem PySem.Spec L2
section
variable {C : Cg} {X : Cx} {N : List Str} {sc : Scope} {n : Nat} {io : Option Nat} {fr : Bool} {D : Ends} {σ : St} {F H F' H' : Hp} {en en' : En} {Q : VK} {Kf : Nat}
abbrev tSn (C : Cg) (Kf : Nat) (io : Option Nat) (fr : Bool) (n : Nat) (c : S) : TS := tS C fr (exS C.T Kf io fr n c)
theorem PS.imp {st : Stmt} {t t' : TS} (h : PS X st t) (i : ∀ D σ H, t' D σ H → t D σ H) : PS X st t' := ⟨fun pins s σ H D I q => h.run pins s σ H D I (i D σ H q)⟩
theorem PSs.imp {st : List Stmt} {t t' : TS} (h : PSs X st t) (i : ∀ D σ H, t' D σ H → t D σ H) : PSs X st t' := ⟨fun pins s σ H D I q => h.run pins s σ H D I (i D σ H q)⟩
theorem pe_nm (G : Gd C X N sc) {i : Nat} {a : Expr} (h : nmB N sc i a = true) : PE X a (tVar i) := by
  unfold nmB at h
  split at h
  · obtain ⟨h, h3⟩ := and2 h
    obtain ⟨h1, h2⟩ := and2 h
    obtain ⟨e1, e2⟩ := okName_of h3
    exact pe_var (by rw [G.hN]; exact of_decide_eq_true h1) (vis_of G.hs h2) e1 e2
  · cases h
theorem lc_sw_true {sc scope : Scope} {t a : Expr} {y : Str} {py : Pos} {l : Nat} {env : PySem.Env} (hs : env.scope = sc) (hk : sc.kind = .function) (e : lcSc a = some scope) (ht : t = .Name y py) (h : lcName sc scope t a = true) :
    swapsWith a (some (.Name y py)) l env = pure true ∧ env.scope.names.lookup y = some .local := by
  subst ht
  cases a <;> first | cases e | skip
  unfold lcName at h
  obtain ⟨h, h3⟩ := and2 h
  obtain ⟨h1, h2⟩ := and2 h
  have k : env.scope.names.lookup y = some .local := by rw [hs]; exact of_decide_eq_true h1
  refine ⟨sw_true (by rw [hs]; exact hk) k h2 ?_, k⟩
  cases z : (List.any scope.names fun (n, k) => n == y && (k == .local || k == .cell)) with
  | false => rfl
  | true => rw [z] at h3; cases h3
theorem ps_setAny (G : Gs C X N sc io) {i : Nat} {t a : Expr} {te : TE} {pos : Pos} (hn : nameB N sc i t = true) (he : PE X a te) (hl : lcSc a = none) (hno : isLc a = false) : PS X (.Assign [t] a pos) (tAsg te (gName i)) := by
  unfold nameB at hn
  split at hn
  · obtain ⟨h1, h2⟩ := and2 hn
    obtain ⟨q1, q2⟩ := G.loc _ h2
    refine ps_set G.nd (by rw [G.hN]; exact of_decide_eq_true h1) q1 he ?_ q2
    cases a <;> first | rfl | cases hno
  · cases hn
theorem ps_setLcE (G : Gs C X N sc io) {i : Nat} {t a : Expr} {pos : Pos} {elt : E} {tg : Tg} {k : Ik} {l : List E} {cond : Option E} {vs : List Nat} (hn : nameB N sc i t = true) (h : matE (n + 1) C.T.dflt N sc (.lc elt tg k l cond vs) a = true) (hl : ∀ s, lcSc a = some s → lcName sc s t a = true) :
    PS X (.Assign [t] a pos) (fun D σ H => tF C (n + 1) (.lc elt tg k l cond vs) σ H fun x H1 => gName i x σ H1 D.nx) := by
  obtain ⟨gt, gi, gf, x, scope, pos', own, rfl, ow, p1, p2, p3, p4, p5, p6, p7⟩ := lc_parts G.toGd (snd n) h
  unfold nameB at hn
  split at hn
  · obtain ⟨h1, h2⟩ := and2 hn
    obtain ⟨q1, q2⟩ := lc_sw_true (l := pos.line) G.hs G.kind (e := rfl) rfl (hl _ rfl)
    refine PS.imp (ps_setLc G.calm G.nd (by rw [G.hN]; exact of_decide_eq_true h1) q2 q1 p1 p2 p3 p4 p5 p6) fun D σ H h => ?_
    rw [ow]
    exact lc_tF p7 h
  · cases hn
theorem ps_setLcbE (G : Gs C X N sc io) {i j : Nat} {t a : Expr} {pos : Pos} {elt : E} {tg : Tg} {cond : Option E} {vs : List Nat} (hn : nameB N sc i t = true) (h : matE (n + 1) C.T.dflt N sc (.lcb elt tg j cond vs) a = true) (hl : ∀ s, lcSc a = some s → lcName sc s t a = true) :
    PS X (.Assign [t] a pos) (fun D σ H => tF C (n + 1) (.lcb elt tg j cond vs) σ H fun x H1 => gName i x σ H1 D.nx) := by
  obtain ⟨gt, gi, gf, x, scope, pos', own, rfl, ow, p1, p2, p3, p4, p5, p6, p7⟩ := lcb_parts G.toGd (snd n) h
  unfold nameB at hn
  split at hn
  · obtain ⟨h1, h2⟩ := and2 hn
    obtain ⟨q1, q2⟩ := lc_sw_true (l := pos.line) G.hs G.kind (e := rfl) rfl (hl _ rfl)
    refine PS.imp (ps_setLc G.calm G.nd (by rw [G.hN]; exact of_decide_eq_true h1) q2 q1 p1 p2 p3 p4 p5 p6) fun D σ H h => ?_
    rw [ow]
    exact lcb_tF p7 h
  · cases hn
theorem sw_cell {elt : Expr} {gs : List Comprehension} {scope : Scope} {pos py : Pos} {y : Str} {l : Nat} {env : PySem.Env} (hy : env.scope.names.lookup y = some .cell) : swapsWith (.ListComp elt gs scope pos) (some (.Name y py)) l env = pure false := by
  have ky : env.kindOf y = some .cell := hy
  have k2 : (env.kindOf y == some NameKind.local) = false := by rw [ky]; rfl
  unfold swapsWith
  simp only [k2, Bool.and_false, Bool.false_and]
theorem ps_setCell (G : Gs C X N sc io) {i : Nat} {e : E} {t a : Expr} {pos : Pos} {s : Scope} (hn : nameB N sc i t = true) (he : PE X a (tF C n e)) (z : lcSc a = some s) (hl : cellN sc t = true) : PS X (.Assign [t] a pos) (fun D σ H => tF C n e σ H fun x H1 => gName i x σ H1 D.nx) := by
  unfold nameB at hn
  split at hn
  · obtain ⟨h1, h2⟩ := and2 hn
    obtain ⟨q1, q2⟩ := G.loc _ h2
    have hc : sc.names.lookup _ = some .cell := of_decide_eq_true hl
    refine ps_set G.nd (by rw [G.hN]; exact of_decide_eq_true h1) q1 he ?_ q2
    cases a <;> first | cases z | skip
    exact sw_cell (by rw [G.hs]; exact hc)
  · cases hn
theorem ps_setLcA (G : Gs C X N sc io) {i : Nat} {e : E} {t a : Expr} {pos : Pos} {s : Scope} (hn : nameB N sc i t = true) (h : matE n C.T.dflt N sc e a = true) (z : lcSc a = some s) (hl : lcOk sc t a = true) :
    PS X (.Assign [t] a pos) (fun D σ H => tF C n e σ H fun x H1 => gName i x σ H1 D.nx) ∧ ∀ en p, evE C.T n e en = .ok p → ∃ ds, p.1 = .lst ds := by
  cases n with
  | zero => cases h
  | succ n =>
    have : (∃ elt tg k l cond vs, e = .lc elt tg k l cond vs) ∨ (∃ elt tg j cond vs, e = .lcb elt tg j cond vs) := by
      cases a <;> first | cases z | skip
      cases e <;> first
        | exact .inl ⟨_, _, _, _, _, _, rfl⟩
        | exact .inr ⟨_, _, _, _, _, rfl⟩
        | (exfalso; unfold matE at h; simp only at h; first | cases h | (split at h <;> first | cases h | simp_all))
    have hl2 : (lcName sc s t a || cellN sc t) = true := by
      unfold lcOk at hl
      rw [z] at hl
      have hl : (lcName sc s t a || cellN sc t || isTupT t) = true := hl
      have nt : isTupT t = false := by cases t <;> first | rfl | cases hn
      rw [nt, Bool.or_false] at hl
      exact hl
    rcases (Bool.or_eq_true _ _).mp hl2 with hl3 | hl3
    · have hl4 : ∀ s, lcSc a = some s → lcName sc s t a = true := fun s' e => by
        rw [z] at e
        cases e
        exact hl3
      rcases this with ⟨elt, tg, k, l, cond, vs, rfl⟩ | ⟨elt, tg, j, cond, vs, rfl⟩
      · exact ⟨ps_setLcE G hn h hl4, fun en p e => lc_isL e⟩
      · exact ⟨ps_setLcbE G hn h hl4, fun en p e => lcb_isL e⟩
    · rcases this with ⟨elt, tg, k, l, cond, vs, rfl⟩ | ⟨elt, tg, j, cond, vs, rfl⟩
      · exact ⟨ps_setCell G hn (pe_lcF G.toGd (snd n) h).1 z hl3, fun en p e => lc_isL e⟩
      · exact ⟨ps_setCell G hn (pe_lcbF G.toGd (snd n) h).1 z hl3, fun en p e => lcb_isL e⟩
theorem lcSc_none {a : Expr} (h : lcSc a = none) (h2 : (!isLc a) = true) : isLc a = false := by
  cases z : isLc a with
  | false => rfl
  | true => rw [z] at h2; cases h2
theorem ps_asgO (G : Gs C X N sc io) {i : Nat} {e : E} {t a : Expr} {pos : Pos} (hn : nameB N sc i t = true) (h : matE n C.T.dflt N sc e a = true) (hf : frE C.T.fresh e = true) (hl : lcOk sc t a = true) : PS X (.Assign [t] a pos) (tSn C Kf io fr (n + 1) (.asgO i e)) := by
  have key : PS X (.Assign [t] a pos) (fun D σ H => tF C n e σ H fun x H1 => gName i x σ H1 D.nx) := by
    cases z : lcSc a with
    | none =>
      have hl2 := hl
      unfold lcOk at hl2
      rw [z] at hl2
      exact ps_setAny G hn (pe_F G.toGd hf h) z (lcSc_none z hl2)
    | some s => exact (ps_setLcA G hn h z hl).1
  refine PS.imp key fun D σ H q => ?_
  obtain ⟨F, en, k, q⟩ := q
  have q : ResS C fr D F (if io = some i then .bad else (evE C.T n e en).o fun p => match p.1 with
      | .lst l => .nx (p.2.set i (.own l))
      | _ => .bad) := q
  by_cases hio : io = some i
  · rw [if_pos hio] at q; exact q.elim
  · rw [if_neg hio] at q
    refine o_runF (fun d en hb => ?_) k q fun ds en' p us F' H' g k' h1 h2 h3 h4 h5 r => ?_
    · cases d <;> first | rfl | (rename_i l; exact absurd rfl (hb l))
    · exact r _ F' H' (Same.refl _) (k'.new (bk_none k h1) h2 h3 h4 h5 fun q hq => hio (G.pinI i q hq))
theorem ps_asgE (G : Gs C X N sc io) {tg : Tg} {e : E} {t a : Expr} {pos : Pos} (ht : matT N sc tg t = true) (h : matE n C.T.dflt N sc e a = true) (hw : swN sc t a = true) (hl : lcOk sc t a = true) : PS X (.Assign [t] a pos) (tSn C Kf io fr (n + 1) (.asg tg e)) := by
  have ih := (snd n C X N sc G.toGd e a h).1
  have fin : ∀ {D : Ends} {σ : St} {H : Hp}, tSn C Kf io fr (n + 1) (.asg tg e) D σ H → tE C n e σ H fun x H1 => gT C.K tg x σ H1 D.nx := fun {D σ H} q => by
    obtain ⟨F, en, k, q⟩ := q
    have q : ResS C fr D F ((evE C.T n e en).o fun p => match setTg tg p.1 p.2 with
      | some en1 => .nx en1
      | none => .bad) := q
    refine o_run k q fun p v F' H' g k' dn r => ?_
    cases e2 : setTg tg p.1 p.2 with
    | none => rw [e2] at r; exact r.elim
    | some en1 => rw [e2] at r; exact store_run k' dn e2 r
  cases z : lcSc a with
  | none =>
    have hl2 := hl
    unfold lcOk at hl2
    rw [z] at hl2
    have nl := lcSc_none z hl2
    refine PS.imp (ps_asg ih (pg_T G.hN G.nd G.calm G.loc ht) (lc_sw nl) (sw_none hw) ?_) fun D σ H q => ?_
    · cases t <;> first | rfl | (cases tg <;> cases ht)
    · rw [G.hK]; exact fin q
  | some s =>
    cases tg with
    | n i =>
      have q := ps_setLcA (pos := pos) G ht h z hl
      exact PS.imp q.1 fun D σ H q' => tF_of q.2 (fin q')
    | t is =>
      cases n with
      | zero => cases h
      | succ n =>
        have this : (∃ elt tg k l cond vs, e = .lc elt tg k l cond vs) ∨ (∃ elt tg j cond vs, e = .lcb elt tg j cond vs) := by
          cases a <;> first | cases z | skip
          cases e <;> first
            | exact .inl ⟨_, _, _, _, _, _, rfl⟩
            | exact .inr ⟨_, _, _, _, _, rfl⟩
            | (exfalso; unfold matE at h; simp only at h; first | cases h | (split at h <;> first | cases h | simp_all))
        have he : PE X a (tF C (n + 1) e) ∧ ∀ en p, evE C.T (n + 1) e en = .ok p → ∃ ds, p.1 = .lst ds := by
          rcases this with ⟨elt, tg, k, l, cond, vs, rfl⟩ | ⟨elt, tg, j, cond, vs, rfl⟩
          · exact ⟨(pe_lcF G.toGd (snd n) h).1, fun en p e => lc_isL e⟩
          · exact ⟨(pe_lcbF G.toGd (snd n) h).1, fun en p e => lcb_isL e⟩
        refine PS.imp (ps_asg he.1 (pg_T G.hN G.nd G.calm G.loc ht) ?_ (sw_none hw) ?_) fun D σ H q => ?_
        · cases a <;> first | cases z | skip
          cases t <;> first | rfl | cases ht
        · cases t <;> first | rfl | cases ht
        · rw [G.hK]; exact tF_of he.2 (fin q)
theorem ps_parE (G : Gs C X N sc io) {i j : Nat} {es : List E} {ts as : List Expr} {k k2 : Nat} {p p2 pos : Pos} (hp : parB sc (.Tuple ts k p) (.Tuple as k2 p2) = true) (ht : namesB N sc [i, j] ts = true) (h : matL (matE n C.T.dflt N sc) es as = true) : PS X (.Assign [.Tuple ts k p] (.Tuple as k2 p2) pos) (tSn C Kf io fr (n + 1) (.par [i, j] es)) := by
  have hp0 := hp
  unfold parB at hp
  split at hp
  · rename_i e1 e2
    cases e1
    cases e2
    obtain ⟨t1, t2⟩ := and2 ht
    obtain ⟨t3, _⟩ := and2 t2
    obtain ⟨q1, q2, q3, q4⟩ := sw_par G.hs G.kind hp0
    have n1 := of_decide_eq_true (and2 t1).1
    have n2 := of_decide_eq_true (and2 t3).1
    rw [← G.hN] at n1 n2
    have ij : i ≠ j := fun e => by subst e; rw [n1] at n2; exact q2 (Option.some.inj n2)
    refine PS.imp (ps_par G.calm G.nd n1 n2 ij q3 q4 (pa_L (snd n C X N sc G.toGd) h) q1 rfl) fun D σ H q => ?_
    obtain ⟨F, en, k, q⟩ := q
    have q : ResS C fr D F ((evList (evE C.T n) es en).o fun p => match setMany [i, j] p.1 p.2 with
      | some en1 => .nx en1
      | none => .bad) := q
    refine o_runL k q fun p vs F' H' g k' dn r => ?_
    cases e2 : setMany [i, j] p.1 p.2 with
    | none => rw [e2] at r; exact r.elim
    | some en1 =>
      rw [e2] at r
      have z := setMany_run (vs := [i, j]) (Q := D.nx) e2 k' dn (fun _ z => z) (fun a ha => setMany_no e2 ha) fun σ2 k2 _ => r σ2 F' H' (Same.refl _) k2
      obtain ⟨v, r1, ev, z⟩ := z
      obtain ⟨w, r2, ew, z⟩ := z
      obtain ⟨e0, z⟩ := z
      subst ev; subst ew; subst e0
      exact ⟨v, w, rfl, z⟩
  · cases hp
end
end Vm
end
section
set_option Elab.async false
set_option linter.all false
set_option maxRecDepth 100000
namespace Vm
open PySem PySem.Spec L2
section
variable {C : Cg} {X : Cx} {N : List Str} {sc : Scope} {n : Nat} {io : Option Nat} {fr : Bool} {D : Ends} {σ : St} {F H F' H' : Hp} {en en' : En} {Q : VK} {Kf : Nat}
theorem no_own {en : En} (h : anyOwn en = false) (i : Nat) : ownAt en i = none := by
  cases z : ownAt en i with
  | none => rfl
  | some l =>
    have e := ownAt_some.mp z
    have m := List.mem_of_getElem? e
    have : anyOwn en = true := List.any_eq_true.mpr ⟨_, m, rfl⟩
    rw [h] at this
    cases this
theorem ps_raiE (G : Gs C X N sc io) (tk : Takes X C.W) {x c m : Str} {j : Nat} {p p2 p3 pos : Pos} (hx : x = c) (hg : glbB sc x = true) (ho : okName x = true) : PS X (.Raise (some (.Call (.Name x p) [.Constant (.str m) j p2] [] p3)) none pos) (tSn C Kf io fr (n + 1) (.rai c)) := by
  subst hx
  cases e : C.T.exc x with
  | none =>
    refine PS.imp ps_never fun D σ H ⟨F, en, k, q⟩ => ?_
    have q : ResS C fr D F (match C.T.exc x with
      | some l => .ex x l
      | none => .bad) := q
    rw [e] at q
    exact q
  | some l =>
    obtain ⟨h1, h2, h3⟩ := G.exc x l e
    obtain ⟨k1, k2, k3, k4⟩ := He.exc_ok h3
    refine PS.imp (ps_raise G.calm tk (pmk_own PySem.F.excBase_ValueError k1 h1 k2 (raises_own k3 k4) (glb_of G.hs hg) (okName_of ho).1)) fun D σ H ⟨F, en, k, q⟩ => ?_
    have q : ResS C fr D F (match C.T.exc x with
      | some l => .ex x l
      | none => .bad) := q
    rw [e] at q
    have q : WishS C x l := q
    exact q σ _ _ F H k.bk (by rw [G.xi]; exact ⟨rfl, rfl, h2⟩)
def tTry (C : Cg) (n i : Nat) (e : E) (W : WX) : TS := fun D σ H => ∃ F en, Ok C.B C.K F H σ en ∧ anyOwn en = false ∧ (match evE C.T n e en with
  | .ok p => (match setTg (.n i) p.1 p.2 with
    | some en1 => ∀ σ' F' H', Same F F' → Ok C.B C.K F' H' σ' en1 → D.nx σ' H'
    | none => False)
  | .ex c l => ∀ F' H', Same F F' → Px F H F' H' → xokB C.K c l = true → W (.ref (He.ga C.K c)) none σ H'
  | .bad => False)
theorem pss_try (G : Gs C X N sc io) {i : Nat} {e : E} {t a : Expr} {pos : Pos} (ht : nameB N sc i t = true) (h : matE n C.T.dflt N sc e a = true) (hl : isLc a = false) (W : WX) (pn : List (Addr × Obj)) (xe : Value → Shared → Prop) (tk : Takes (X.tr pn xe) W) (th : PassesOwn (model X.prog X.w) X.A X.env xe) :
    PSs (X.tr pn xe) [.Assign [t] a pos] (tTry C n i e W) := by
  refine ⟨fun pins s σ H D I q => ?_⟩
  obtain ⟨F, en, k, no, q0⟩ := q
  let C' : Cg := { C with B := ⟨F, H, fun _ => False, fun _ _ => False⟩, W := W }
  have G' : Gs C' (X.tr pn xe) N sc none :=
    { hK := G.hK, hN := G.hN, hs := G.hs, calm := G.calm, guards := G.guards, room := G.room, nd := G.nd, glob := G.glob, blt := G.blt, call := G.call, xif := G.xif, pass := fun σ => passAt tk σ, exc := G.exc
      fn := G.fn, thru := th, kind := G.kind, pinP := fun _ z => z.elim, pinI := fun _ _ z => z.elim, xi := G.xi, stk := G.stk, frm := G.frm, nex := G.nex }
  have lc : lcSc a = none := by cases a <;> first | rfl | cases hl
  have ps := ps_setAny (pos := pos) G' ht (snd n C' (X.tr pn xe) N sc G'.toGd e a h).1 lc hl
  refine (pss_one ps).run pins s σ H D I ?_
  have k' : Ok C'.B C'.K F H σ en := ⟨k.len, k.val, fun i l z => absurd (ownAt_some.mpr z) (by rw [no_own no i]; exact fun w => nomatch w), k.inj, k.sub, Same.refl _, fun _ z _ => z, fun _ _ z _ => z, fun _ z => z, fun _ _ z => z.elim⟩
  refine ⟨F, en, k', ?_⟩
  show Res C' σ F H en (evE C.T n e en) _
  cases r : evE C.T n e en with
  | bad => rw [r] at q0; exact q0
  | ex c l =>
    rw [r] at q0
    intro cls dx F' H' s' b x
    have x : C.xi c l cls dx F' H' := x
    rw [G.xi] at x
    obtain ⟨rfl, rfl, x3⟩ := x
    rw [G.hK] at x3 ⊢
    exact q0 F' H' s' ⟨s', fun a o z => b.bkeep a o z fun w => w, b.bnew, b.sub⟩ x3
  | ok p =>
    obtain ⟨d, en1⟩ := p
    rw [r] at q0
    intro v F' H' g k1 dn
    have nw : ∀ a, ¬ Own σ en a := fun a ⟨i, l, z, _⟩ => absurd (ownAt_some.mpr z) (by rw [no_own no i]; exact fun w => nomatch w)
    have px : Px F H F' H' := ⟨g.sub, fun a o z => g.keep a o z (nw a), g.new, k1.sub⟩
    have e1 : en1 = en := List.ext_getElem? fun i => g.vals i (no_own no i)
    subst e1
    have q : (match setTg (.n i) d en1 with
      | some en1 => ∀ σ' F' H', Same F F' → Ok C.B C.K F' H' σ' en1 → D.nx σ' H'
      | none => False) := q0
    cases e2 : setTg (.n i) d en1 with
    | none => rw [e2] at q; exact q.elim
    | some en2 =>
      rw [e2] at q
      have e3 : en2 = en1.set i (.val d) := by
        have e2 : (if (ownAt en1 i).isSome then none else some (en1.set i (.val d))) = some en2 := e2
        rw [no_own no i] at e2
        cases e2
        rfl
      subst e3
      exact q _ F' H' px.sub ((k.px px).set (no_own no i) dn)
theorem cls_glob (G : Gd C X N sc) {h : Str} (e : clsAt C.T h = true) : X.mg h = some (.ref (He.ga X.K h)) := by
  unfold clsAt at e
  split at e
  · rename_i x g
    have e := of_decide_eq_true e
    subst e
    obtain ⟨v, u, q1, q2, q3⟩ := G.glob _ _ g
    have q3 := q3 (fun _ => none)
    cases q3
    rw [q1]
    exact congrArg some q2
  · cases e
theorem anyOwn_set {en : En} {i : Nat} {d : Vm.D} (h : anyOwn en = false) : anyOwn (en.set i (.val d)) = false := by
  cases z : anyOwn (en.set i (.val d)) with
  | false => rfl
  | true =>
    obtain ⟨s, m, e⟩ := List.any_eq_true.mp z
    rcases List.mem_or_eq_of_mem_set m with m | m
    · have : anyOwn en = true := List.any_eq_true.mpr ⟨s, m, e⟩
      rw [h] at this
      cases this
    · subst m
      cases e
theorem ps_tryAE (G : Gs C X N sc io) {i m j : Nat} {e : E} {h x y nn : Str} {t a t2 : Expr} {p1 p2 p3 p4 p5 pos : Pos} (ht : nameB N sc i t = true) (he : matE n C.T.dflt N sc e a = true) (hl : isLc a = false) (hx : x = h) (hg : glbB sc x = true) (ho : okName x = true)
    (hm : N[m]? = some nn) (hn : sc.names.lookup nn = some .local) (ht2 : nameB N sc j t2 = true) (hy : y = nn) (hy2 : okName y = true) (hmj : m ≠ j) :
    PS X (.Try [.Assign [t] a p1] [.ExceptHandler (some (.Name x p2)) (some nn) [.Assign [t2] (.Name y p3) p4] p5] [] [] pos) (tSn C Kf io fr (n + 1) (.tryA i e h m j)) := by
  subst hx; subst hy
  cases hc : clsAt C.T x with
  | false =>
    refine PS.imp ps_never fun D σ H ⟨F, en, k, q⟩ => ?_
    have q : ResS C fr D F (if anyOwn en || decide (en.length ≤ m) || !clsAt C.T x then .bad else _) := q
    rw [hc, Bool.not_false, Bool.or_true, if_pos rfl] at q
    exact q
  | true =>
  have gx := cls_glob G.toGd hc
  have sw : ∀ (a : Addr) (pn : List (Addr × Obj)), PSs (X.suite a pn) [.Assign [t2] (.Name y p3) p4] (tAsg (tVar m) (gName j)) := fun a pn => by
    unfold nameB at ht2
    split at ht2
    · obtain ⟨h1, h2⟩ := and2 ht2
      obtain ⟨q1, q2⟩ := G.loc _ h2
      refine pss_one (ps_set (X := X.suite a pn) G.nd (by rw [G.hN]; exact of_decide_eq_true h1) q1 (pe_var (X := X.suite a pn) (by show X.N[m]? = _; rw [G.hN]; exact hm) (.inl (by show X.env.scope.names.lookup _ = _; rw [G.hs]; exact hn)) (okName_of hy2).1 (okName_of hy2).2) rfl q2)
    · cases ht2
  refine PS.imp (ps_try_keep (i := m) (c := .ref (He.ga X.K x)) G.stk G.frm G.nex G.nd (by rw [G.hN]; exact hm) (by show X.env.scope.names.lookup _ = _; rw [G.hs]; exact hn) ⟨glb_of G.hs hg, (okName_of ho).1, .inl gx⟩
    (fun W pn xe tk th => pss_try G ht he hl W pn xe tk th) sw) fun D σ H ⟨F, en, k, q⟩ => ?_
  have q : ResS C fr D F (if anyOwn en || decide (en.length ≤ m) || !clsAt C.T x then .bad else (match evE C.T n e en with
      | .ok p => (match setTg (.n i) p.1 p.2 with
        | some en1 => .nx en1
        | none => .bad)
      | .ex c l => if excLook x l = some true then .nx ((en.set j (.val (.exc c l))).set m .no) else .bad
      | .bad => .bad)) := q
  cases no : anyOwn en with
  | true => rw [no, Bool.true_or, Bool.true_or, if_pos rfl] at q; exact q.elim
  | false =>
  cases lt : decide (en.length ≤ m) with
  | true => rw [no, lt, Bool.false_or, Bool.true_or, if_pos rfl] at q; exact q.elim
  | false =>
  rw [no, lt, hc, if_neg (by decide)] at q
  refine ⟨F, en, k, no, ?_⟩
  cases r : evE C.T n e en with
  | bad => rw [r] at q; exact q
  | ok p =>
    rw [r] at q
    have q : ResS C fr D F (match setTg (.n i) p.1 p.2 with
        | some en1 => .nx en1
        | none => .bad) := q
    show (match setTg (.n i) p.1 p.2 with
      | some en1 => ∀ σ' F' H', Same F F' → Ok C.B C.K F' H' σ' en1 → D.nx σ' H'
      | none => False)
    cases e2 : setTg (.n i) p.1 p.2 with
    | none => rw [e2] at q; exact q
    | some en1 => rw [e2] at q; exact q
  | ex c l =>
    rw [r] at q
    have q : ResS C fr D F (if excLook x l = some true then .nx ((en.set j (.val (.exc c l))).set m .no) else .bad) := q
    by_cases hk : excLook x l = some true
    · rw [if_pos hk] at q
      intro F' H' s' px xo
      obtain ⟨x1, x2, x3⟩ := xok_all xo
      have lm : m < σ.length := by
        have := of_decide_eq_false lt
        rw [← k.len]
        omega
      refine ⟨by rw [G.hK]; exact (excLook_ok x3 hk).2, rfl, fun a na => ⟨.ref a, by rw [List.getElem?_set_self lm], ?_⟩⟩
      have pa := Px.add (o := ExZ (.ref (He.ga C.K c)) a) px.fh na
      have k1 := (k.px px).px pa
      have dn : Dn C.K (upd F' a (ExZ (.ref (He.ga C.K c)) a)) (.ref a) (.exc c l) := .exc upd_same xo
      have k2 := k1.set (no_own no m) dn
      have k3 := k2.set (no_own (anyOwn_set no) j) dn
      have k4 := k3.wiped (vs := [m]) (fun i _ => no_own (anyOwn_set (anyOwn_set no)) i)
      have e4 : wipeE ((en.set m (.val (.exc c l))).set j (.val (.exc c l))) [m] = (en.set j (.val (.exc c l))).set m .no := by
        show ((en.set m (.val (.exc c l))).set j (.val (.exc c l))).set m .no = _
        rw [List.set_comm _ _ hmj, List.set_set]
      rw [e4] at k4
      exact q _ _ _ (px.sub.trans pa.sub) k4
    · rw [if_neg hk] at q; exact q.elim
theorem ps_tryBE (G : Gs C X N sc io) (tk : Takes X C.W) {i j kk : Nat} {e : E} {d : Vm.D} {h x : Str} {kc : Const} {t a t2 : Expr} {p1 p2 p3 p4 p5 pos : Pos} (ht : nameB N sc i t = true) (he : matE n C.T.dflt N sc e a = true) (hl : isLc a = false) (hx : x = h) (hg : glbB sc x = true) (ho : okName x = true)
    (ht2 : nameB N sc j t2 = true) (hd : constB d kc = true) :
    PS X (.Try [.Assign [t] a p1] [.ExceptHandler (some (.Name x p2)) none [.Assign [t2] (.Constant kc kk p3) p4] p5] [] [] pos) (tSn C Kf io fr (n + 1) (.tryB i e h j d)) := by
  subst hx
  cases hc : clsAt C.T x with
  | false =>
    refine PS.imp ps_never fun D σ H ⟨F, en, k, q⟩ => ?_
    have q : ResS C fr D F (if anyOwn en || !clsAt C.T x then .bad else _) := q
    rw [hc, Bool.not_false, Bool.or_true, if_pos rfl] at q
    exact q
  | true =>
  have gx := cls_glob G.toGd hc
  obtain ⟨v, hv, dv⟩ : ∃ v : V, (∀ X' : Cx, PE X' (.Constant kc kk p3) (tC v)) ∧ ∀ F, Dn C.K F v d := by
    cases d <;> cases kc <;> first
      | (cases hd; done)
      | exact ⟨.non, fun _ => pe_non, fun _ => .non⟩
      | (have e := eq_of_beq hd; subst e; exact ⟨.bl _, fun _ => pe_bl, fun _ => .bl _⟩)
      | (have e := of_decide_eq_true hd; subst e; exact ⟨.int _, fun _ => pe_int, fun _ => .int _⟩)
      | (have e := of_decide_eq_true hd; subst e; exact ⟨.str _, fun _ => pe_str, fun _ => .str _⟩)
  have sw : ∀ (a : Addr) (pn : List (Addr × Obj)), PSs (X.suite a pn) [.Assign [t2] (.Constant kc kk p3) p4] (tAsg (tC v) (gName j)) := fun a pn => by
    unfold nameB at ht2
    split at ht2
    · obtain ⟨h1, h2⟩ := and2 ht2
      obtain ⟨q1, q2⟩ := G.loc _ h2
      exact pss_one (ps_set (X := X.suite a pn) G.nd (by rw [G.hN]; exact of_decide_eq_true h1) q1 (hv _) rfl q2)
    · cases ht2
  refine PS.imp (ps_try_only (c := .ref (He.ga X.K x)) (ts := fun _ _ _ => tAsg (tC v) (gName j)) (Wout := C.W) G.stk G.frm ⟨glb_of G.hs hg, (okName_of ho).1, .inl gx⟩ tk
    (fun W pn xe tk th => pss_try G ht he hl W pn xe tk th) (fun a _ _ _ pn _ _ => sw a _)) fun D σ H ⟨F, en, k, q⟩ => ?_
  have q : ResS C fr D F (if anyOwn en || !clsAt C.T x then .bad else (match evE C.T n e en with
      | .ok p => (match setTg (.n i) p.1 p.2 with
        | some en1 => .nx en1
        | none => .bad)
      | .ex c l => if excLook x l = some true then .nx (en.set j (.val d)) else .bad
      | .bad => .bad)) := q
  cases no : anyOwn en with
  | true => rw [no, Bool.true_or, if_pos rfl] at q; exact q.elim
  | false =>
  rw [no, hc, if_neg (by decide)] at q
  refine ⟨F, en, k, no, ?_⟩
  cases r : evE C.T n e en with
  | bad => rw [r] at q; exact q
  | ok p =>
    rw [r] at q
    have q : ResS C fr D F (match setTg (.n i) p.1 p.2 with
        | some en1 => .nx en1
        | none => .bad) := q
    show (match setTg (.n i) p.1 p.2 with
      | some en1 => ∀ σ' F' H', Same F F' → Ok C.B C.K F' H' σ' en1 → D.nx σ' H'
      | none => False)
    cases e2 : setTg (.n i) p.1 p.2 with
    | none => rw [e2] at q; exact q
    | some en1 => rw [e2] at q; exact q
  | ex c l =>
    rw [r] at q
    have q : ResS C fr D F (if excLook x l = some true then .nx (en.set j (.val d)) else .bad) := q
    by_cases hk : excLook x l = some true
    · rw [if_pos hk] at q
      intro F' H' s' px xo
      obtain ⟨x1, x2, x3⟩ := xok_all xo
      refine ⟨true, by rw [G.hK]; exact (excLook_ok x3 hk).2, fun _ a na => ?_, fun z => nomatch z⟩
      exact q _ _ _ px.sub ((k.px px).set (no_own no j) (dv _))
    · rw [if_neg hk] at q; exact q.elim
end
end Vm
end
section
set_option Elab.async false
set_option linter.all false
set_option maxRecDepth 100000
set_option maxHeartbeats 1000000
namespace Vm
open PySem PySem.Spec PyProof.Rows L2
def tRemD (K : PySem.W.Frag) (to te : TE) : TE := fun σ H Q => to σ H fun x H1 => tyV K "list" x H1 ∧ te σ H1 fun y H2 => ∃ (l : Addr) (us : List V) (d : PyData) (ds : List PyData) (j : Nat) (z : PyData), x = .ref l ∧ H2 l = some (.lst us) ∧ DpAll K H2 us ds ∧ Dp K H2 y d ∧
  SeqAt.shaped (.list ds) = true ∧ SeqAt.shaped d = true ∧ ds[j]? = some z ∧ PyData.eqv z d = true ∧ (∀ (m : Nat) (z' : PyData), m < j → ds[m]? = some z' → PyData.eqv z' d = false) ∧ Q .non (upd H2 l (.lst (us.eraseIdx j)))
section
variable {X : Cx} {o e : Expr} {to te : TE} {apos cpos : Pos}
theorem pe_remD (hc : X.calm = true) (hu : X.A.units + 65 < cLine) (ho : PE X o to) (he : PE X e te) (hbase : attributeBase o "remove" X.env (eval o X.env) = eval o X.env := by rfl)
    (hfew : ((backTo cpos (starEach [e] X.env)).all (fun x => !x.1) && (backToKw cpos (keywordEach [] X.env)).all (fun x => x.1.isSome)
      && decide (([e] : List Expr).length + ([] : List Keyword).length + (if ([] : List Keyword).isEmpty then 0 else 1) < 30)) = true := by rfl)
    (hline : (apos.endLine == cpos.line) = true := by rfl) (hs : starEach [e] X.env = (false, eval e X.env) :: starEach [] X.env := by rfl) (hplain : (backTo cpos (starEach [] X.env)).any (·.1) = false := by rfl) :
    PE X (.Call (.Attribute o "remove" apos) [e] [] cpos) (tRemD X.K to te) := by
  refine ⟨fun pins s σ H Q I h => ?_⟩
  refine wpAny_Call_method_late hbase hfew hline rfl (thn (ho.run pins s σ H _ I h) fun v s1 ⟨x, H1, I1, r1, ty, q1⟩ => ?_)
  obtain ⟨h1, h2⟩ := tyV_is I1 r1 ty
  refine ⟨"list", _, PySem.F.plainAttrs_list, PySem.F.slot_list_remove, PySem.F.type_list_remove, h1, h2, ?_⟩
  rw [hs]
  refine Calls.callWith_builtin (by show (false || (backTo cpos (starEach [] X.env)).any (·.1)) = false; rw [hplain] <;> rfl) (Calls.evalArgs_plain ?_)
  show wpAny _ _ (spliced ((false, eval e X.env) :: backTo cpos (starEach [] X.env))) _ _ s1
  refine Calls.spliced_cons (thn (he.run pins s1 σ H1 _ I1 q1) fun u s2 ⟨y, H2, I2, ry, q2⟩ => ?_)
  refine Calls.spliced_nil ?_
  obtain ⟨l, us, d, ds, j, z, ex, hH, hl, hy, sl, sd, hz, hzj, hno, q⟩ := q2
  subst ex
  cases (show v = Value.ref l from r1)
  obtain ⟨bs, rd⟩ := Dp.reads I2 d y u hy ry
  have hxs : PyData.canLayAll0 ds = true := SeqAt.canLay_of_shaped sl
  have hroom : X.A.units + 1 + min (PyData.depthAll ds) d.depth < cLine := room_in_shaped sd hu
  obtain ⟨zz, its, n, r, hln, e0⟩ := I2.lstM hH
  obtain ⟨as, h4⟩ := Dp.readsAll I2 ds us its hl r
  have hn : its.length = ds.length := SeqAt.ReadsAll.length ds its as h4
  have hmap : its.map (SeqAt.readOf s2.heap) = ds := SeqAt.readsAll_map ds its as hxs h4
  obtain ⟨hjd, _⟩ := List.getElem?_eq_some_iff.mp hz
  have hjl : j < its.length := by omega
  have hj : j < its.toArray.size := by simpa using hjl
  have hsz : its.toArray.size ≤ sizeLine := by rw [List.size_toArray, ← hln]; exact zz
  have at_ : ∀ (m : Nat) (hm : m < its.toArray.size) (z' : PyData), ds[m]? = some z' → SeqAt.readOf s2.heap its.toArray[m] = z' := by
    intro m hm z' hz'
    have hml : m < its.length := by simpa using hm
    rw [← hmap, List.getElem?_map, List.getElem?_eq_getElem hml] at hz'
    have e1 : SeqAt.readOf s2.heap its[m] = z' := Option.some.inj (show some (SeqAt.readOf s2.heap its[m]) = some z' from hz')
    simpa using e1
  refine call_meets PySem.F.slot_list_remove ⟨_, e0, rfl⟩ PySem.F.entry_list_remove (PySem.F.args_list_remove_2 _ _)
    (SeqAt.list_removeAt l its.toArray n none #[] u (fun u => PyData.eqv (SeqAt.readOf s2.heap u) d) j hj ?_ ?_ hsz) ⟨e0, SeqAt.items_eqAt (vs := its.toArray) (show ReadsAll s2.heap its.toArray.toList ds as from h4) rd hxs (SeqAt.canLay_of_shaped sd) hroom, ?_⟩
  · show PyData.eqv (SeqAt.readOf s2.heap its.toArray[j]) d = true
    rw [at_ j hj z hz]
    exact hzj
  · intro m hm hmj
    have hmd : m < ds.length := by omega
    have hz' : ds[m]? = some ds[m] := List.getElem?_eq_getElem hmd
    show PyData.eqv (SeqAt.readOf s2.heap its.toArray[m]) d = false
    rw [at_ m hm _ hz']
    exact hno m _ hmj hz'
  · refine ⟨.non, _, I2.lset (its' := its.eraseIdx j) hH e0 ?_ (r.eraseIdx j) ?_, rfl, q⟩
    · show its.toArray.eraseIdxIfInBounds j = (its.eraseIdx j).toArray
      rw [List.eraseIdxIfInBounds_toArray]
    · have := List.length_eraseIdx_le us j
      omega
end
end Vm
end
section
set_option Elab.async false
set_option linter.all false
set_option maxRecDepth 100000
namespace Vm
open PySem PySem.Spec L2
section
variable {C : Cg} {X : Cx} {N : List Str} {sc : Scope} {n : Nat} {io : Option Nat} {fr : Bool} {D : Ends} {σ : St} {F H F' H' : Hp} {en en' : En} {Q : VK} {Kf : Nat}
theorem notB {b : Bool} (h : (!b) = true) : b = false := by cases b; rfl; cases h
theorem isOwn {en : En} {i : Nat} (h : (ownAt en i).isSome = true) : ∃ l, ownAt en i = some l := Option.isSome_iff_exists.mp h
theorem plain_asg {o y : Expr} {p : Pos} (h : (!isSlice y) = true) {env : PySem.Env} : ∀ v, assign (.Subscript o y p) env v = (do
      let ov ← holding [v] (eval o env)
      let iv ← holding [v, ov] (eval y env)
      standAt p
      holding [v, ov, iv] (setItem ov iv v)
      release [v, ov, iv] []) := by
  cases y <;> first
    | exact fun _ => rfl
    | cases h
theorem ps_setIE (G : Gs C X N sc io) {i : Nat} {ix e : E} {x y a : Expr} {p pos : Pos} (hn : nmB N sc i x = true) (hy : matE n C.T.dflt N sc ix y = true) (hs : (!isSlice y) = true) (h : matE n C.T.dflt N sc e a = true) : PS X (.Assign [.Subscript x y p] a pos) (tSn C Kf io fr (n + 1) (.setI i ix e)) := by
  refine PS.imp (ps_asg (snd n C X N sc G.toGd e a h).1 (pg_sub (pe_nm G.toGd hn) (snd n C X N sc G.toGd ix y hy).1 set_list (plain_asg hs)) ?_ ?_ rfl) fun D σ H q => ?_
  · cases a <;> rfl
  · rfl
  obtain ⟨F, en, k, q⟩ := q
  have q : ResS C fr D F (if (ownAt en i).isSome then (evE C.T n e en).o fun p => (evE C.T n ix p.2).o fun q => match q.1, ownAt q.2 i with
      | .int k, some l => (match ixN l.length k with
        | some j => .nx (q.2.set i (.own (l.set j p.1)))
        | none => .bad)
      | _, _ => .bad else .bad) := q
  cases ho : (ownAt en i).isSome with
  | false => rw [ho] at q; exact q.elim
  | true =>
    rw [ho, if_pos rfl] at q
    obtain ⟨l0, hl0⟩ := isOwn ho
    obtain ⟨p0, us0, w1, _⟩ := k.own i l0 (ownAt_some.mp hl0)
    refine o_run k q fun d1 v F1 H1 g1 k1 dn r => ⟨_, w1, ?_⟩
    refine o_run k1 r fun d2 u F2 H2 g2 k2 dn2 r2 => ?_
    obtain ⟨d2, en2⟩ := d2
    cases d2 <;> first | exact r2.elim | skip
    rename_i kk
    cases o : ownAt en2 i with
    | none => simp only [o] at r2; exact r2.elim
    | some l =>
      simp only [o] at r2
      cases e4 : ixN l.length kk with
      | none => rw [e4] at r2; exact r2.elim
      | some j =>
        rw [e4] at r2
        obtain ⟨p, us, f1, f2, f3, f4, f5⟩ := k2.own i l (ownAt_some.mp o)
        rw [w1] at f1
        cases f1
        cases dn2
        refine ⟨p0, us, kk, j, rfl, rfl, f2, by rw [f3.len]; exact e4, ?_⟩
        exact r2 _ F2 _ (Same.refl _) (k2.put (ownAt_some.mp o) w1 (DnA.set (dn.up g2.sub) j f3))
theorem ps_appE (G : Gs C X N sc io) {i : Nat} {e : E} {x a : Expr} {apos cpos pos : Pos} (hn : nmB N sc i x = true) (hl : (apos.endLine == cpos.line) = true) (h : matE n C.T.dflt N sc e a = true) : PS X (.Expr (.Call (.Attribute x "append" apos) [a] [] cpos) pos) (tSn C Kf io fr (n + 1) (.app i e)) := by
  have hs := (ev_ok h).1 X.env []
  have he := (snd n C X N sc G.toGd e a h).1
  have ha : PA X [a] (tCons (tE C n e) tNil) := pa_cons he pa_nil hs
  have hbase : attributeBase x "append" X.env (eval x X.env) = eval x X.env := by
    unfold nmB at hn
    split at hn
    · rfl
    · cases hn
  refine PS.imp (ps_expr (pe_bm PySem.F.plainAttrs_list PySem.F.slot_list_append PySem.F.type_list_append mt_append (pe_nm G.toGd hn) ha hbase (by rw [hs]; rfl) hl hs rfl) rfl) fun D σ H q => ?_
  obtain ⟨F, en, k, q⟩ := q
  have q : ResS C fr D F (if (ownAt en i).isSome then (evE C.T n e en).o fun p => match ownAt p.2 i with
      | some l => if l.length < lineN then .nx (p.2.set i (.own (l ++ [p.1]))) else .bad
      | none => .bad else .bad) := q
  cases ho : (ownAt en i).isSome with
  | false => rw [ho] at q; exact q.elim
  | true =>
    rw [ho, if_pos rfl] at q
    obtain ⟨l0, hl0⟩ := isOwn ho
    obtain ⟨p0, us0, w1, w2, _⟩ := k.own i l0 (ownAt_some.mp hl0)
    refine ⟨_, w1, .inl ⟨rfl, us0, SqL.of w2⟩, ?_⟩
    refine o_run k q fun d1 v F1 H1 g1 k1 dn r => ?_
    cases o : ownAt d1.2 i with
    | none => rw [o] at r; exact r.elim
    | some l =>
      rw [o] at r
      obtain ⟨p, us, f1, f2, f3, f4, f5⟩ := k1.own i l (ownAt_some.mp o)
      rw [w1] at f1
      cases f1
      by_cases z : l.length < lineN
      · simp only [z, if_true] at r
        refine ⟨p0, us, v, rfl, rfl, f2, ?_, ?_⟩
        · have : lineN ≤ sizeLine := by decide
          have := f3.len
          omega
        · exact r _ F1 _ (Same.refl _) (k1.put (ownAt_some.mp o) w1 (f3.app (.cons dn .nil)))
      · simp only [z, if_false] at r
        exact r.elim
theorem DnA.dropLast {K : PySem.W.Frag} {F : Hp} : ∀ {vs : List V} {ds : List Vm.D}, DnA K F vs ds → DnA K F vs.dropLast ds.dropLast
  | _, _, .nil => .nil
  | _, _, .cons _ .nil => .nil
  | _, _, .cons a (.cons b t) => .cons a (DnA.dropLast (.cons b t))
theorem ps_popE (G : Gs C X N sc io) {i : Nat} {x : Expr} {apos cpos pos : Pos} (hn : nmB N sc i x = true) (hl : (apos.endLine == cpos.line) = true) : PS X (.Expr (.Call (.Attribute x "pop" apos) [] [] cpos) pos) (tSn C Kf io fr (n + 1) (.pop i)) := by
  have hbase : attributeBase x "pop" X.env (eval x X.env) = eval x X.env := by
    unfold nmB at hn
    split at hn
    · rfl
    · cases hn
  refine PS.imp (ps_expr (pe_bm0 PySem.F.plainAttrs_list PySem.F.slot_list_pop PySem.F.type_list_pop mt_pop (pe_nm G.toGd hn) hbase hl) rfl) fun D σ H q => ?_
  obtain ⟨F, en, k, q⟩ := q
  have q : ResS C fr D F (match ownAt en i with
      | some l => if l = [] then .bad else .nx (en.set i (.own l.dropLast))
      | none => .bad) := q
  cases o : ownAt en i with
  | none => rw [o] at q; exact q.elim
  | some l =>
    rw [o] at q
    have q : ResS C fr D F (if l = [] then .bad else .nx (en.set i (.own l.dropLast))) := q
    by_cases z : l = []
    · rw [if_pos z] at q; exact q.elim
    · rw [if_neg z] at q
      obtain ⟨p, us, f1, f2, f3, f4, f5⟩ := k.own i l (ownAt_some.mp o)
      have ne : us ≠ [] := fun w => by
        have := f3.len
        rw [w] at this
        exact z (List.length_eq_zero_iff.mp this.symm)
      have lt : us.length - 1 < us.length := by
        have := List.length_pos_iff.mpr ne
        omega
      exact ⟨_, f1, .inl ⟨rfl, us, SqL.of f2⟩, p, us, us[us.length - 1], rfl, rfl, f2, List.getElem?_eq_getElem lt, q _ F _ (Same.refl _) (k.put (ownAt_some.mp o) f1 f3.dropLast)⟩
theorem findIdx_at {l : List Vm.D} {k : Vm.D} {j : Nat} (h : (l.findIdx? fun z => z.eqv k) = some j) : ∃ z, l[j]? = some z ∧ z.eqv k = true ∧ ∀ (m : Nat) (z' : Vm.D), m < j → l[m]? = some z' → z'.eqv k = false := by
  obtain ⟨h1, h2, h3⟩ := List.findIdx?_eq_some_iff_getElem.mp h
  refine ⟨l[j], List.getElem?_eq_getElem h1, h2, fun m z' hm e => ?_⟩
  have lt : m < l.length := by omega
  rw [List.getElem?_eq_getElem lt] at e
  cases e
  have := h3 m hm
  simpa using this
theorem pyAll_get : ∀ (l : List Vm.D) (j : Nat), (Vm.D.pyAll l)[j]? = (l[j]?).map Vm.D.py
  | [], j => by cases j <;> rfl
  | d :: l, 0 => rfl
  | d :: l, j + 1 => by
    show (Vm.D.pyAll l)[j]? = (l[j]?).map Vm.D.py
    exact pyAll_get l j
theorem DnA.eraseIdx {K : PySem.W.Frag} {F : Hp} : ∀ {vs : List V} {ds : List Vm.D} (j : Nat), DnA K F vs ds → DnA K F (vs.eraseIdx j) (ds.eraseIdx j)
  | _, _, _, .nil => .nil
  | _, _, 0, .cons _ t => t
  | _, _, j + 1, .cons h t => .cons h (DnA.eraseIdx j t)
theorem ps_remE (G : Gs C X N sc io) {i : Nat} {e : E} {x a : Expr} {apos cpos pos : Pos} (hn : nmB N sc i x = true) (hl : (apos.endLine == cpos.line) = true) (h : matE n C.T.dflt N sc e a = true) (tk : Takes X C.W) : PS X (.Expr (.Call (.Attribute x "remove" apos) [a] [] cpos) pos) (tSn C Kf io fr (n + 1) (.rem i e)) := by
  have hs := (ev_ok h).1 X.env []
  have he := (snd n C X N sc G.toGd e a h).1
  have un := G.toGd.un
  have hbase : attributeBase x "remove" X.env (eval x X.env) = eval x X.env := by
    unfold nmB at hn
    split at hn
    · rfl
    · cases hn
  refine PS.imp (ps_expr (pe_remD G.calm (by omega) (pe_nm G.toGd hn) he hbase (by rw [hs]; rfl) hl hs rfl) rfl) fun D σ H q => ?_
  obtain ⟨F, en, k, q⟩ := q
  have q : ResS C fr D F (if (ownAt en i).isSome then (evE C.T n e en).o fun p => match ownAt p.2 i with
      | some l => (match remD l p.1 with
        | some l' => .nx (p.2.set i (.own l'))
        | none => .bad)
      | none => .bad else .bad) := q
  cases ho : (ownAt en i).isSome with
  | false => rw [ho] at q; exact q.elim
  | true =>
    rw [ho, if_pos rfl] at q
    obtain ⟨l0, hl0⟩ := isOwn ho
    obtain ⟨p0, us0, w1, w2, _⟩ := k.own i l0 (ownAt_some.mp hl0)
    refine ⟨_, w1, .inl ⟨rfl, us0, SqL.of w2⟩, ?_⟩
    refine o_run k q fun d1 v F1 H1 g1 k1 dn r => ?_
    obtain ⟨d1, en1⟩ := d1
    cases o : ownAt en1 i with
    | none => simp only [o] at r; exact r.elim
    | some l =>
      simp only [o] at r
      cases e4 : remD l d1 with
      | none => rw [e4] at r; exact r.elim
      | some l' =>
        rw [e4] at r
        have r : ResS C fr D F1 (.nx (en1.set i (.own l'))) := r
        obtain ⟨p, us, f1, f2, f3, f4, f5⟩ := k1.own i l (ownAt_some.mp o)
        rw [w1] at f1
        cases f1
        unfold remD at e4
        split at e4
        · rename_i hz
          obtain ⟨j, e5, e6⟩ := Option.map_eq_some_iff.mp e4
          subst e6
          obtain ⟨g1', g2'⟩ := and2 hz
          obtain ⟨q1, s1⟩ := okEq_shaped g1'
          obtain ⟨q2, s2⟩ := okEq_shaped g2'
          obtain ⟨z, z1, z2, z3⟩ := findIdx_at e5
          rw [G.hK]
          refine ⟨p0, us, d1.py, Vm.D.pyAll l, j, z.py, rfl, f2, DnA.dp _ _ q2 (f3.up k1.sub), Dn.dp _ _ q1 (dn.up k1.sub), s2, s1, by rw [pyAll_get, z1]; rfl, z2, fun m z' hm e7 => ?_, ?_⟩
          · rw [pyAll_get] at e7
            obtain ⟨y, e8, e9⟩ := Option.map_eq_some_iff.mp e7
            subst e9
            exact z3 m y hm e8
          · exact r _ F1 _ (Same.refl _) (k1.put (ownAt_some.mp o) w1 (f3.eraseIdx j))
        · cases e4
theorem ps_exprE (G : Gs C X N sc io) {e : E} {a : Expr} {pos : Pos} (h : matE n C.T.dflt N sc e a = true) (hl : (!isLc a) = true) : PS X (.Expr a pos) (tSn C Kf io fr (n + 1) (.expr e)) := by
  refine PS.imp (ps_expr (snd n C X N sc G.toGd e a h).1 ?_) fun D σ H q => ?_
  · cases a <;> first | rfl | cases hl
  obtain ⟨F, en, k, q⟩ := q
  have q : ResS C fr D F ((evE C.T n e en).o fun p => .nx p.2) := q
  exact o_run k q fun d1 v F1 H1 g1 k1 dn r => r _ F1 H1 (Same.refl _) k1
theorem ps_retE (G : Gs C X N sc io) {e : E} {a : Expr} {pos : Pos} (h : matE n C.T.dflt N sc e a = true) : PS X (.Return (some a) pos) (tSn C Kf io fr (n + 1) (.ret e)) := by
  refine PS.imp (ps_ret (snd n C X N sc G.toGd e a h).1) fun D σ H q => ?_
  obtain ⟨F, en, k, q⟩ := q
  have q : ResS C fr D F (if fr then .bad else (evE C.T n e en).o fun p => .rt p.1 p.2) := q
  cases fr with
  | true => exact q.elim
  | false =>
    refine o_run k q fun d1 v F1 H1 g1 k1 dn r => r v _ F1 H1 (Same.refl _) k1 ?_
    unfold RetOk
    rw [if_neg (fun z => nomatch z)]
    exact dn
theorem ps_retFE (G : Gs C X N sc io) {e : E} {a : Expr} {pos : Pos} (h : matE n C.T.dflt N sc e a = true) (hf : frE C.T.fresh e = true) : PS X (.Return (some a) pos) (tSn C Kf io fr (n + 1) (.retF e)) := by
  refine PS.imp (ps_ret (pe_F G.toGd hf h)) fun D σ H q => ?_
  obtain ⟨F, en, k, q⟩ := q
  have q : ResS C fr D F (if fr then (evE C.T n e en).o fun p => match p.1 with
      | .lst l => .rt (.lst l) p.2
      | _ => .bad else .bad) := q
  cases fr with
  | false => exact q.elim
  | true =>
    have q : ResS C true D F ((evE C.T n e en).o fun p => match p.1 with
      | .lst l => .rt (.lst l) p.2
      | _ => .bad) := q
    refine o_runF (fun d en hb => ?_) k q fun ds en' p us F' H' g k' h1 h2 h3 h4 h5 r => ?_
    · cases d <;> first | rfl | (rename_i l; exact absurd rfl (hb l))
    · refine r _ _ F' H' (Same.refl _) k' ?_
      unfold RetOk
      rw [if_pos rfl]
      exact ⟨p, us, ds, rfl, rfl, bk_none k h1, h2, h3, h4⟩
theorem ps_retOE (G : Gs C X N sc io) {i : Nat} {a : Expr} {pos : Pos} (h : nmB N sc i a = true) : PS X (.Return (some a) pos) (tSn C Kf io fr (n + 1) (.retO i)) := by
  refine PS.imp (ps_ret (pe_nm G.toGd h)) fun D σ H q => ?_
  obtain ⟨F, en, k, q⟩ := q
  have q : ResS C fr D F (if io = some i then .bad else match ownAt en i with
      | some l => .rt (.lst l) (if fr then en else en.set i (.val (.lst l)))
      | none => .bad) := q
  by_cases hio : io = some i
  · rw [if_pos hio] at q; exact q.elim
  · rw [if_neg hio] at q
    cases o : ownAt en i with
    | none => rw [o] at q; exact q.elim
    | some l =>
      rw [o] at q
      have ni : ∀ q, ¬ C.B.pin i q := fun q hq => hio (G.pinI i q hq)
      obtain ⟨p, us, f1, f2, f3, f4, f5⟩ := k.own i l (ownAt_some.mp o)
      refine ⟨_, f1, ?_⟩
      cases fr with
      | true =>
        refine q _ _ F H (Same.refl _) k ?_
        unfold RetOk
        rw [if_pos rfl]
        exact ⟨p, us, l, rfl, rfl, own_newB k (ownAt_some.mp o) f1 G.pinP ni, f4, f2, f3⟩
      | false =>
        obtain ⟨F', p', s, g1, dn, k'⟩ := k.frz (ownAt_some.mp o) G.pinP ni
        rw [f1] at g1
        cases g1
        refine q _ _ F' H s k' ?_
        unfold RetOk
        rw [if_neg (fun z => nomatch z)]
        exact dn
theorem iff_bad {a b : En → O} : ∀ d en, (∀ z, d ≠ Vm.D.bl z) → (fun p : Vm.D × En => match p.1 with
      | .bl true => a p.2
      | .bl false => b p.2
      | _ => .bad) (d, en) = .bad := fun d en h => by
  cases d <;> first | rfl | (rename_i z; exact absurd rfl (h z))
theorem ps_ite {t : E} {fa fb : En → O} {x : Expr} {p q : List Stmt} {pos : Pos} (ht : PT X x (tT C n t)) (ha : PSs X p (tS C fr fa)) (hb : PSs X q (tS C fr fb)) : PS X (.If x p q pos) (tS C fr fun en => (evE C.T n t en).o fun p => match p.1 with
      | .bl true => fa p.2
      | .bl false => fb p.2
      | _ => .bad) := by
  refine PS.imp (ps_if ht ha hb) fun D σ H q => ?_
  obtain ⟨F, en, k, q⟩ := q
  refine o_runT iff_bad k q fun b en' F' H' g k' r => ?_
  cases b with
  | true => rw [if_pos rfl]; exact ⟨F', en', k', r⟩
  | false => rw [if_neg (fun z => nomatch z)]; exact ⟨F', en', k', r⟩
theorem ps_whl (thru : PassesOwn (model X.prog X.w) X.A X.env X.xe) {t : E} {fb : En → O} {x : Expr} {p : List Stmt} {pos : Pos} (ht : PT X x (tT C n t)) (hb : PSs X p (tS C fr fb)) : PS X (.While x p [] pos) (tS C fr fun en => loopW (evE C.T n t) fb Kf en) := by
  refine PS.imp (ps_while thru ht hb) fun D σ H q => ?_
  obtain ⟨F, en, k, q⟩ := q
  refine ⟨fun m σ H => ∃ F en, Ok C.B C.K F H σ en ∧ ResS C fr D F (loopW (evE C.T n t) fb m en), ⟨Kf, F, en, k, q⟩, ?_⟩
  rintro m σ H ⟨F, en, k, q⟩
  cases m with
  | zero => exact q.elim
  | succ m =>
    have q : ResS C fr D F ((evE C.T n t en).o fun p => match p.1 with
      | .bl true => (fb p.2).turn (loopW (evE C.T n t) fb m)
      | .bl false => .nx p.2
      | _ => .bad) := q
    refine o_runT (iff_bad (a := fun en => (fb en).turn (loopW (evE C.T n t) fb m)) (b := fun en => .nx en)) k q fun b en' F' H' g k' r => ?_
    cases b with
    | false => rw [if_neg (fun z => nomatch z)]; exact r σ F' H' (Same.refl _) k'
    | true =>
      rw [if_pos rfl]
      exact ⟨tS C fr (loopW (evE C.T n t) fb m) D, fun σ' H' z => ⟨m, Nat.lt_succ_self m, z⟩, F', en', k', turn_run r⟩
theorem ps_forS (thru : PassesOwn (model X.prog X.w) X.A X.env X.xe) (G : Gd C X N sc) {tg : Tg} {k : Ik} {l : List E} {fb : En → O} {x a : Expr} {p : List Stmt} {pos : Pos} (hi : PI X x a (tI C n k l)) (hg : PG X x (gT C.K tg)) (hb : PSs X p (tS C fr fb)) (hs : ∀ x, foldedSetIterable a X.env x = pure x) :
    PS X (.For x a p [] pos) (tS C fr fun en => (evList (evE C.T n) l en).o fun p => match items k p.1 with
      | some ds => loopF tg fb ds p.2
      | none => .bad) := by
  refine PS.imp (ps_for thru G.calm hi hg hb hs) fun D σ H q => ?_
  obtain ⟨F, en, ok, q⟩ := q
  have q : ResS C fr D F ((evList (evE C.T n) l en).o fun p => match items k p.1 with
      | some ds => loopF tg fb ds p.2
      | none => .bad) := q
  refine ⟨F, en, ok, ?_⟩
  cases r : evList (evE C.T n) l en with
  | bad => rw [r] at q; exact q.elim
  | ex c l => rw [r] at q; exact WishS.w q
  | ok pp =>
    obtain ⟨ls, en1⟩ := pp
    rw [r] at q
    have q : ResS C fr D F (match items k ls with
      | some ds => loopF tg fb ds en1
      | none => .bad) := q
    cases e : items k ls with
    | none => rw [e] at q; exact q.elim
    | some ds =>
      rw [e] at q
      have q : ResS C fr D F (loopF tg fb ds en1) := q
      refine ⟨ds, e, fun J F1 H1 g1 k1 w => ?_⟩
      refine ⟨fun i m σ H => m = ds.length - i ∧ i ≤ ds.length ∧ ∃ F en, Same F1 F ∧ Ok C.B C.K F H σ en ∧ ResS C fr D F (loopF tg fb (ds.drop i) en), ⟨ds.length - 0, rfl, Nat.zero_le _, F1, en1, Same.refl _, k1, ResS.mono q g1.sub⟩, ?_⟩
      rintro i m σ H ⟨rfl, li, F2, en2, s2, k2, q2⟩
      obtain ⟨w1, w2⟩ := w i F2 H s2 k2.sub
      rcases Nat.lt_or_ge i ds.length with lt | ge
      · rw [List.drop_eq_getElem_cons lt] at q2
        have q2 : ResS C fr D F2 (match setTg tg ds[i] en2 with
          | none => .bad
          | some en3 => (fb en3).turn (loopF tg fb (ds.drop (i + 1)))) := q2
        cases e2 : setTg tg ds[i] en2 with
        | none => rw [e2] at q2; exact q2.elim
        | some en3 =>
          rw [e2] at q2
          have q2 : ResS C fr D F2 ((fb en3).turn (loopF tg fb (ds.drop (i + 1)))) := q2
          obtain ⟨go, yl⟩ := w1 ds[i] (List.getElem?_eq_getElem lt)
          refine .inr ⟨go, fun σ' H' => ∃ F en, Same F1 F ∧ Ok C.B C.K F H' σ' en ∧ ResS C fr D F (loopF tg fb (ds.drop (i + 1)) en), fun σ' H' z => ⟨ds.length - (i + 1), by omega, rfl, lt, z⟩, fun v H' y => ?_⟩
          obtain ⟨F3, px, dn⟩ := yl v H' y
          have k3 := k2.px px
          refine setTg_run (vs := tgS tg) e2 k3 dn (fun _ z => z) (setTg_no e2) fun σ3 k4 _ => ⟨F3, en3, k4, ?_⟩
          have q3 := ResS.mono q2 px.sub
          cases rr : fb en3 with
          | nx en => rw [rr] at q3; exact fun σ' F' H' s k => ⟨F', en, (s2.trans px.sub).trans s, k, ResS.mono q3 s⟩
          | bk en => rw [rr] at q3; exact q3
          | ct en => rw [rr] at q3; exact fun σ' F' H' s k => ⟨F', en, (s2.trans px.sub).trans s, k, ResS.mono q3 s⟩
          | rt d en => rw [rr] at q3; exact q3
          | ex c l => rw [rr] at q3; exact q3
          | bad => rw [rr] at q3; exact q3
      · refine .inl ⟨w2 (by omega), ?_⟩
        rw [List.drop_eq_nil_of_le ge] at q2
        exact q2 σ F2 H (Same.refl _) k2
theorem fold_ok {tg : Tg} {k : Ik} {l : List E} {a : Expr} (h : matI (matE n C.T.dflt N sc) sc tg k l a = true) : ∀ x, foldedSetIterable a X.env x = pure x := by
  unfold matI at h
  split at h
  · exact (ev_ok h).2 _
  all_goals first
    | (split at h
       · exact fun _ => rfl
       · cases h)
    | cases h
theorem frz_run (G : Gs C X N sc io) {i : Nat} {f : En → O} {D : Ends} {σ : St} {H : Hp} (h : tS C fr (fun en => (if io = some i then .bad else match ownAt en i with
      | some l => .nx (en.set i (.val (.lst l)))
      | none => .bad : O).seq f) D σ H) : tS C fr f D σ H := by
  obtain ⟨F, en, k, q⟩ := h
  have q : ResS C fr D F ((if io = some i then .bad else match ownAt en i with
      | some l => .nx (en.set i (.val (.lst l)))
      | none => .bad : O).seq f) := q
  by_cases hio : io = some i
  · rw [if_pos hio] at q; exact q.elim
  · rw [if_neg hio] at q
    cases o : ownAt en i with
    | none => rw [o] at q; exact q.elim
    | some l =>
      rw [o] at q
      obtain ⟨F', p, s, _, _, k'⟩ := k.frz (ownAt_some.mp o) G.pinP fun q hq => hio (G.pinI i q hq)
      exact ⟨F', _, k', ResS.mono q s⟩
theorem wip_run (G : Gs C X N sc io) {vs : List Nat} {f : En → O} {D : Ends} {σ : St} {H : Hp} (h : tS C fr (fun en => (if ioIn io vs then .bad else .nx (wipeE en vs) : O).seq f) D σ H) : tS C fr f D σ H := by
  obtain ⟨F, en, k, q⟩ := h
  have q : ResS C fr D F ((if ioIn io vs then .bad else .nx (wipeE en vs) : O).seq f) := q
  cases hio : ioIn io vs with
  | true => rw [hio] at q; exact q.elim
  | false =>
    rw [hio] at q
    refine ⟨F, _, k.forget fun i p hp hi => ?_, q⟩
    have e := G.pinI i p hp
    rw [e] at hio
    have hio : vs.contains i = false := hio
    rw [List.contains_iff_mem.mpr hi] at hio
    cases hio
theorem sndL (G : Gs C X N sc io) {m : S → Stmt → Bool} {f : S → En → O} (hw : ∀ vs en, f (.wip vs) en = .bad ∨ f (.wip vs) en = if ioIn io vs then .bad else .nx (wipeE en vs)) (hf : ∀ i en, f (.frz i) en = .bad ∨ f (.frz i) en = if io = some i then .bad else match ownAt en i with
      | some l => .nx (en.set i (.val (.lst l)))
      | none => .bad) (hs : ∀ en, f .stop en = .bad) (ih : ∀ c st, m c st = true → PS X st (tS C fr (f c))) : ∀ (cs : List S) (sts : List Stmt), matSL m cs sts = true → PSs X sts (tS C fr (runL f cs))
  | [], [], _ => PSs.imp pss_nil fun D σ H ⟨F, en, k, q⟩ => q σ F H (Same.refl _) k
  | c :: cs, [], h => by
    cases c <;> first | cases h | skip
    · exact PSs.imp pss_never fun D σ H ⟨F, en, k, q⟩ => by
        have q : ResS C fr D F ((f .stop en).seq (runL f cs)) := q
        rw [hs] at q
        exact q
    · exact PSs.imp (sndL G hw hf hs ih cs [] h) fun D σ H q => frz_run (fr := fr) G (by
        obtain ⟨F, en, k, q⟩ := q
        exact ⟨F, en, k, by
          have q : ResS C fr D F ((f (.frz _) en).seq (runL f cs)) := q
          rcases hf _ en with e | e
          · rw [e] at q; exact q.elim
          · rw [e] at q
            exact q⟩)
    · exact PSs.imp (sndL G hw hf hs ih cs [] h) fun D σ H q => wip_run (fr := fr) G (by
        obtain ⟨F, en, k, q⟩ := q
        exact ⟨F, en, k, by
          have q : ResS C fr D F ((f (.wip _) en).seq (runL f cs)) := q
          rcases hw _ en with e | e
          · rw [e] at q; exact q.elim
          · rw [e] at q
            exact q⟩)
  | [], _ :: _, h => by cases h
  | c :: cs, st :: sts, h => by
    have gen : m c st = true → matSL m cs sts = true → PSs X (st :: sts) (tS C fr (runL f (c :: cs))) := fun h1 h2 =>
      PSs.imp (pss_cons (ih c st h1) (sndL G hw hf hs ih cs sts h2)) fun D σ H ⟨F, en, k, q⟩ => ⟨F, en, k, seq_run (f := runL f cs) q⟩
    cases c with
    | wip vs =>
      exact PSs.imp (sndL G hw hf hs ih cs (st :: sts) h) fun D σ H q => wip_run (fr := fr) G (by
        obtain ⟨F, en, k, q⟩ := q
        exact ⟨F, en, k, by
          have q : ResS C fr D F ((f (.wip _) en).seq (runL f cs)) := q
          rcases hw _ en with e | e
          · rw [e] at q; exact q.elim
          · rw [e] at q
            exact q⟩)
    | frz i =>
      exact PSs.imp (sndL G hw hf hs ih cs (st :: sts) h) fun D σ H q => frz_run (fr := fr) G (by
        obtain ⟨F, en, k, q⟩ := q
        exact ⟨F, en, k, by
          have q : ResS C fr D F ((f (.frz _) en).seq (runL f cs)) := q
          rcases hf _ en with e | e
          · rw [e] at q; exact q.elim
          · rw [e] at q
            exact q⟩)
    | stop =>
      exact PSs.imp pss_never fun D σ H ⟨F, en, k, q⟩ => by
        have q : ResS C fr D F ((f .stop en).seq (runL f cs)) := q
        rw [hs] at q
        exact q
    | asg _ _ => exact gen (and2 h).1 (and2 h).2
    | asgO _ _ => exact gen (and2 h).1 (and2 h).2
    | par _ _ => exact gen (and2 h).1 (and2 h).2
    | setI _ _ _ => exact gen (and2 h).1 (and2 h).2
    | app _ _ => exact gen (and2 h).1 (and2 h).2
    | pop _ => exact gen (and2 h).1 (and2 h).2
    | rem _ _ => exact gen (and2 h).1 (and2 h).2
    | expr _ => exact gen (and2 h).1 (and2 h).2
    | ret _ => exact gen (and2 h).1 (and2 h).2
    | retF _ => exact gen (and2 h).1 (and2 h).2
    | retO _ => exact gen (and2 h).1 (and2 h).2
    | ite _ _ _ => exact gen (and2 h).1 (and2 h).2
    | whl _ _ => exact gen (and2 h).1 (and2 h).2
    | for_ _ _ _ _ => exact gen (and2 h).1 (and2 h).2
    | brk => exact gen (and2 h).1 (and2 h).2
    | cont => exact gen (and2 h).1 (and2 h).2
    | pass => exact gen (and2 h).1 (and2 h).2
    | rai _ => exact gen (and2 h).1 (and2 h).2
    | tryA _ _ _ _ _ => exact gen (and2 h).1 (and2 h).2
    | tryB _ _ _ _ _ => exact gen (and2 h).1 (and2 h).2
theorem sndS (G : Gs C X N sc io) (tk : Takes X C.W) : ∀ (n : Nat) (c : S) (st : Stmt), matS C.T.fresh C.T.dflt N sc n c st = true → PS X st (tSn C Kf io fr n c)
  | 0, _, _, h => by cases h
  | n + 1, c, st, h => by
    have ihL : ∀ cs sts, matSL (matS C.T.fresh C.T.dflt N sc n) cs sts = true → PSs X sts (tS C fr (runL (exS C.T Kf io fr n) cs)) := by
      cases n with
      | zero => exact fun cs sts h => sndL G (fun _ _ => .inl rfl) (fun _ _ => .inl rfl) (fun _ => rfl) (sndS G tk 0) cs sts h
      | succ n => exact fun cs sts h => sndL G (fun _ _ => .inr rfl) (fun _ _ => .inr rfl) (fun _ => rfl) (sndS G tk (n + 1)) cs sts h
    have ihE := snd n C X N sc G.toGd
    cases c with
    | frz i => cases h
    | wip vs => cases h
    | stop => exact PS.imp ps_never fun D σ H ⟨F, en, k, q⟩ => q
    | rai c =>
      unfold matS at h
      simp only at h
      split at h
      · obtain ⟨h, h3⟩ := and2 h
        obtain ⟨h1, h2⟩ := and2 h
        exact ps_raiE G tk (of_decide_eq_true h1) h2 h3
      · cases h
    | tryA i e x m j =>
      unfold matS at h
      simp only at h
      split at h
      · obtain ⟨h, h12⟩ := and2 h
        obtain ⟨h, h11⟩ := and2 h
        obtain ⟨h, h10⟩ := and2 h
        obtain ⟨h, h9⟩ := and2 h
        obtain ⟨h, h8⟩ := and2 h
        obtain ⟨h, h7⟩ := and2 h
        obtain ⟨h, h6⟩ := and2 h
        obtain ⟨h, h5⟩ := and2 h
        obtain ⟨h, h4⟩ := and2 h
        obtain ⟨h, h3⟩ := and2 h
        obtain ⟨h1, h2⟩ := and2 h
        exact ps_tryAE G h1 h2 (notB h3) (of_decide_eq_true h4) h5 h6 (of_decide_eq_true h7) (of_decide_eq_true h8) h9 (of_decide_eq_true h10) h11 (of_decide_eq_false (notB h12))
      · cases h
    | tryB i e x j d =>
      unfold matS at h
      simp only at h
      split at h
      · obtain ⟨h, h8⟩ := and2 h
        obtain ⟨h, h7⟩ := and2 h
        obtain ⟨h, h6⟩ := and2 h
        obtain ⟨h, h5⟩ := and2 h
        obtain ⟨h, h4⟩ := and2 h
        obtain ⟨h, h3⟩ := and2 h
        obtain ⟨h1, h2⟩ := and2 h
        exact ps_tryBE G tk h1 h2 (notB h3) (of_decide_eq_true h4) h5 h6 h7 h8
      · cases h
    | asg tg e =>
      unfold matS at h
      simp only at h
      split at h
      · obtain ⟨h, h4⟩ := and2 h
        obtain ⟨h, h3⟩ := and2 h
        obtain ⟨h1, h2⟩ := and2 h
        exact ps_asgE G h1 h2 h3 h4
      · cases h
    | asgO i e =>
      unfold matS at h
      simp only at h
      split at h
      · obtain ⟨h, h4⟩ := and2 h
        obtain ⟨h, h3⟩ := and2 h
        obtain ⟨h1, h2⟩ := and2 h
        exact ps_asgO G h1 h2 h3 h4
      · cases h
    | par is es =>
      unfold matS at h
      simp only at h
      split at h
      · obtain ⟨h, h3⟩ := and2 h
        obtain ⟨h1, h2⟩ := and2 h
        exact ps_parE G h1 h2 h3
      · cases h
    | setI i ix e =>
      unfold matS at h
      simp only at h
      split at h
      · obtain ⟨h, h4⟩ := and2 h
        obtain ⟨h, h3⟩ := and2 h
        obtain ⟨h1, h2⟩ := and2 h
        exact ps_setIE G h1 h2 h3 h4
      · cases h
    | app i e =>
      unfold matS at h
      simp only at h
      split at h
      · obtain ⟨h, h4⟩ := and2 h
        obtain ⟨h, h3⟩ := and2 h
        obtain ⟨h1, h2⟩ := and2 h
        have e := of_decide_eq_true h2
        subst e
        exact ps_appE G h1 h3 h4
      · cases h
    | pop i =>
      unfold matS at h
      simp only at h
      split at h
      · obtain ⟨h, h3⟩ := and2 h
        obtain ⟨h1, h2⟩ := and2 h
        have e := of_decide_eq_true h2
        subst e
        exact ps_popE G h1 h3
      · cases h
    | rem i e =>
      unfold matS at h
      simp only at h
      split at h
      · obtain ⟨h, h4⟩ := and2 h
        obtain ⟨h, h3⟩ := and2 h
        obtain ⟨h1, h2⟩ := and2 h
        have e := of_decide_eq_true h2
        subst e
        exact ps_remE G h1 h3 h4 tk
      · cases h
    | expr e =>
      unfold matS at h
      simp only at h
      split at h
      · exact ps_exprE G (and2 h).1 (and2 h).2
      · cases h
    | ret e =>
      unfold matS at h
      simp only at h
      split at h
      · exact ps_retE G h
      · cases h
    | retF e =>
      unfold matS at h
      simp only at h
      split at h
      · exact ps_retFE G (and2 h).1 (and2 h).2
      · cases h
    | retO i =>
      unfold matS at h
      simp only at h
      split at h
      · exact ps_retOE G h
      · cases h
    | ite t a b =>
      unfold matS at h
      simp only at h
      split at h
      · obtain ⟨h, h3⟩ := and2 h
        obtain ⟨h1, h2⟩ := and2 h
        exact ps_ite (ihE _ _ h1).2 (ihL _ _ h2) (ihL _ _ h3)
      · cases h
    | whl t b =>
      unfold matS at h
      simp only at h
      split at h
      · exact ps_whl G.thru (ihE _ _ (and2 h).1).2 (ihL _ _ (and2 h).2)
      · cases h
    | for_ tg k l b =>
      unfold matS at h
      simp only at h
      split at h
      · obtain ⟨h, h3⟩ := and2 h
        obtain ⟨h1, h2⟩ := and2 h
        refine ps_forS G.thru G.toGd (pi_E G.toGd ihE h1 h2) ?_ (ihL _ _ h3) (fold_ok h1)
        rw [← G.hK]
        exact pg_T G.hN G.nd G.calm G.loc h2
      · cases h
    | brk =>
      unfold matS at h
      simp only at h
      split at h
      · exact PS.imp ps_break fun D σ H ⟨F, en, k, q⟩ => q σ F H (Same.refl _) k
      · cases h
    | cont =>
      unfold matS at h
      simp only at h
      split at h
      · exact PS.imp ps_continue fun D σ H ⟨F, en, k, q⟩ => q σ F H (Same.refl _) k
      · cases h
    | pass =>
      unfold matS at h
      simp only at h
      split at h
      · exact PS.imp ps_pass fun D σ H ⟨F, en, k, q⟩ => q σ F H (Same.refl _) k
      · cases h
end
end Vm
end
section
set_option Elab.async false
set_option linter.all false
set_option maxRecDepth 100000
namespace Vm
open PySem PySem.Spec L2 PyProof.Rows
structure Fd where
  x : Str
  np : Nat
  nN : Nat
  io : Option Nat
  fr : Bool
  fuel : Nat
  code : List S
  dfl : List D
def slotsOk (io : Option Nat) : Nat → List Slot → Bool
  | _, [] => true
  | i, .own _ :: ss => decide (io = some i) && slotsOk io (i + 1) ss
  | i, .val _ :: ss => !decide (io = some i) && slotsOk io (i + 1) ss
  | _, .no :: _ => false
def outOf (io : Option Nat) (r : D) (en : En) : R (D × Option (List D)) := match io with
  | none => .ok (r, none)
  | some i => (match ownAt en i with
    | some l => .ok (r, some l)
    | none => .bad)
def endOf (io : Option Nat) (fr : Bool) (o : O) : R (D × Option (List D)) := match o with
  | .rt r en => outOf io r en
  | .nx en => if fr then .bad else outOf io .non en
  | .ex c l => .ex c l
  | _ => .bad
def runFd (T : Tab) (K : Nat) (d : Fd) (ss : List Slot) : R (D × Option (List D)) :=
  if decide (ss.length = d.np) && slotsOk d.io 0 ss && (match d.io with
    | none => true
    | some i => decide (i < d.np)) then endOf d.io d.fr (runL (exS T K d.io d.fr d.fuel) d.code (ss ++ List.replicate (d.nN - ss.length) .no)) else .bad
def Tab.add (T : Tab) (K : Nat) (d : Fd) : Tab where
  has f := if f = d.x then true else T.has f
  call f ss := if f = d.x then runFd T K d ss else T.call f ss
  glob := T.glob
  fresh f := if f = d.x then d.fr else T.fresh f
  dflt f := if f = d.x then d.dfl else T.dflt f
  exc := T.exc
def Tab.nil (g : Str → Option D) (x : Str → Option (List D)) : Tab := ⟨fun _ => false, fun _ _ => .bad, g, fun _ => false, fun _ => [], x⟩
section
variable {P : Program} {w : World} {K : PySem.W.Frag} {mg : Str → Option Value} {base : Heap} {xi : XI}
theorem FnG.mono {j k : Nat} {f : Addr} {fd : FuncData} {ps : List Str} {sp : Sp} (F : FnG P w K mg base j f fd ps sp) (h : j ≤ k) : FnG P w K mg base k f fd ps sp :=
  ⟨F.len, fun A outer s H args us vs Q E hg hr => F.run A outer s H args us vs Q E hg (hr.mono h)⟩
def TabOk (P : Program) (w : World) (K : PySem.W.Frag) (mg : Str → Option Value) (base : Heap) (xi : XI) (k : Nat) (T : Tab) : Prop := ∀ f, T.has f = true → ∃ (fa : Addr) (fd : FuncData) (ps : List Str), mg f = some (.ref fa) ∧ PySem.W.keepIn K (.ref fa) = true ∧
  FnG P w K mg base k fa fd ps (SpOf K xi (T.fresh f) (T.call f)) ∧ ∀ dl : List D, (dl.isEmpty || lSame (T.dflt f) dl) = true → ∃ ds dvs, Binds K fd ps ds ∧ Vals dvs ds ∧ ∀ F, DnA K F dvs dl
theorem TabOk.nil (g : Str → Option D) (x : Str → Option (List D)) (k : Nat) : TabOk P w K mg base xi k (Tab.nil g x) := fun f h => by cases h
theorem fnG_body {k : Nat} {f : Addr} {fd : FuncData} {x : Str} {params : Arguments} {body : List Stmt} {scope : Scope} {dvs : List V} {kws : List (Str × V)} {N ps : List Str} {sp : Sp} (Fu : FunD K x x params body scope dvs kws f fd) (S : FnScope N ps scope)
    (len : ∀ vs H Q E, sp vs H Q E → vs.length = ps.length)
    (go : ∀ (cdv : Value) (A : Around) (outer : List PySem.Env) (s : Shared) (H : Hp) (vs : List V) (Q : VK) (E : XK), A.guards = some [] → Room k (A.deeper (envOfC x scope s.heap.objs.size f cdv)) → sp vs H Q E →
      ∃ t, PSs (cxOf (L2.CX P w) P w K mg base N x scope f cdv A outer s H E) body t ∧ t { nx := fun _ H' => Q .non H', rt := Q } (L2.start N vs) H) :
    FnG P w K mg base (k + 1) f fd ps sp := by
  obtain ⟨oc, od, dV, kV, doc, pm, an, cdv, ct, osl, rfl, look, isCode, _, _⟩ := Fu.ex
  refine ⟨len, fun A outer s H args us vs Q E gu room e0 bd rel want => ?_⟩
  have inK : K.In s.heap := e0.mod.kin.keeps fun b o z => (e0.bs b o z).1
  refine codeAny_call_function room.depth (inK _ _ look) rfl S.co S.gen rfl (PySem.W.codeRec_of inK isCode) (bd _ _ _ _ ?_)
  refine wpAny_newFunctionEnv_cells S.kind (fun y hy => ?_) fun env same s1 inn => ?_
  · rcases S.par y.1 (List.of_mem_zip hy).1 with q | q
    · exact .inl q
    · exact .inr ⟨q, PySem.W.cellsFrom_some _ _ _ (.inl q)⟩
  subst same
  refine ⟨(e0.mod.nolimit.keeps fun b o z => (e0.bs b o z).1).keeps inn.toInCall.keep, codeAny_func ?_⟩
  obtain ⟨t, runs, wish⟩ := go cdv A outer s H vs Q E gu (room.deeper _) want
  have I := inv_start (CX := L2.CX P w) (E := E) S room.hd e0 (len _ _ _ _ want) rel inn
  refine wpAny_mono (runs.run [] s1 (L2.start N vs) H _ I wish) (fun out s2 z => ?_) fun _ _ z => z
  have leave : ∀ {σ2 : L2.St} {H2 : Hp} {v : V} {u : Value}, Inv (cxOf (L2.CX P w) P w K mg base N x scope f cdv A outer s H E) [] σ2 H2 s2 → RelV v u → Q v H2 → CE outer P w H s Q u s2 := fun {σ2 H2 v u} J r q => ⟨v, H2, J.os, J.bare, J.base, J.hok, r, q⟩
  match out, z with
  | .ret u, ⟨v, _, _, J, r, q⟩ => exact leave J r q
  | .next, ⟨_, _, J, q⟩ => exact leave (v := V.non) (u := Value.none) J rfl q
  | .brk, ⟨_, _, _, q⟩ => exact q.elim
  | .cont, ⟨_, _, _, q⟩ => exact q.elim
theorem slotsOk_own {io : Option Nat} {l : List D} : ∀ {ss : List Slot} {i j : Nat}, slotsOk io i ss = true → ss[j]? = some (.own l) → io = some (i + j)
  | [], _, _, _, e => by cases e
  | .own _ :: ss, i, 0, h, _ => of_decide_eq_true (and2 h).1
  | .val _ :: ss, i, 0, h, e => by cases e
  | .no :: _, _, _, h, _ => by cases h
  | .own _ :: ss, i, j + 1, h, e => by
    have q := slotsOk_own (ss := ss) (i := i + 1) (j := j) (and2 h).2 e
    rw [q]; congr 1; omega
  | .val _ :: ss, i, j + 1, h, e => by
    have q := slotsOk_own (ss := ss) (i := i + 1) (j := j) (and2 h).2 e
    rw [q]; congr 1; omega
theorem slotsOk_at {io : Option Nat} : ∀ {ss : List Slot} {i j : Nat}, slotsOk io i ss = true → io = some (i + j) → j < ss.length → ∃ l, ss[j]? = some (.own l)
  | [], _, _, _, _, lt => by cases lt
  | .own l :: ss, i, 0, h, _, _ => ⟨l, rfl⟩
  | .val _ :: ss, i, 0, h, e, _ => by
    have q := (and2 h).1
    rw [e] at q
    simp at q
  | .no :: _, _, _, h, _, _ => by cases h
  | .own _ :: ss, i, j + 1, h, e, lt => slotsOk_at (ss := ss) (i := i + 1) (j := j) (and2 h).2 (by rw [e]; congr 1; omega) (by simpa using lt)
  | .val _ :: ss, i, j + 1, h, e, lt => slotsOk_at (ss := ss) (i := i + 1) (j := j) (and2 h).2 (by rw [e]; congr 1; omega) (by simpa using lt)
theorem ArgsOk.len {F H : Hp} {vs : List V} {ss : List Slot} {o : Option Addr} (a : ArgsOk K F H vs ss o) : vs.length = ss.length := by
  induction a with
  | nil _ => rfl
  | val _ _ ih => rw [List.length_cons, List.length_cons, ih]
  | own _ _ _ _ ih => rw [List.length_cons, List.length_cons, ih]
theorem ArgsOk.val_at {F H : Hp} {vs : List V} {ss : List Slot} {o : Option Addr} (a : ArgsOk K F H vs ss o) : ∀ {i : Nat} {d : D}, ss[i]? = some (.val d) → ∃ v, vs[i]? = some v ∧ Dn K F v d := by
  induction a with
  | nil _ => intro i d e; cases e
  | val h _ ih =>
    intro i d e
    cases i with
    | zero => cases e; exact ⟨_, rfl, h⟩
    | succ i => exact ih (i := i) e
  | own _ _ _ _ ih =>
    intro i d e
    cases i with
    | zero => cases e
    | succ i => exact ih (i := i) e
theorem ArgsOk.own_at {F H : Hp} {vs : List V} {ss : List Slot} {o : Option Addr} (a : ArgsOk K F H vs ss o) : ∀ {i : Nat} {l : List D}, ss[i]? = some (Slot.own l) → ∃ p us, vs[i]? = some (.ref p) ∧ o = some p ∧ H p = some (.lst us) ∧ DnA K F us l ∧ F p = none := by
  induction a with
  | nil _ => intro i l e; cases e
  | val h _ ih =>
    intro i d e
    cases i with
    | zero => cases e
    | succ i => exact ih (i := i) e
  | @own p us l vs ss h1 h2 h3 t ih =>
    intro i d e
    cases i with
    | zero => cases e; exact ⟨p, us, rfl, rfl, h1, h2, h3⟩
    | succ i =>
      obtain ⟨_, _, _, z, _⟩ := ih (i := i) e
      cases z
theorem start_at {N : List Str} {vs : List V} {i : Nat} {v : V} (h : vs[i]? = some v) : (L2.start N vs)[i]? = some (some v) := by
  unfold L2.start
  have lt := (List.getElem?_eq_some_iff.mp h).1
  rw [List.getElem?_append_left (by simpa using lt), List.getElem?_map, h]
  rfl
theorem en_at {ss : List Slot} {m i : Nat} {s : Slot} (h : (ss ++ List.replicate m .no)[i]? = some s) (hs : s ≠ .no) : ss[i]? = some s := by
  by_cases lt : i < ss.length
  · rw [List.getElem?_append_left lt] at h; exact h
  · rw [List.getElem?_append_right (by omega), List.getElem?_replicate] at h
    split at h
    · cases h; exact absurd rfl hs
    · cases h
theorem runFd_len {T : Tab} {Kf : Nat} {d : Fd} {ss : List Slot} (h : runFd T Kf d ss ≠ .bad) : ss.length = d.np := by
  unfold runFd at h
  cases hc : (decide (ss.length = d.np) && slotsOk d.io 0 ss && (match d.io with
      | none => true
      | some i => decide (i < d.np))) with
  | false => rw [hc] at h; exact absurd rfl h
  | true => exact of_decide_eq_true (and2 (and2 hc).1).1
theorem fnG_of {k : Nat} {T : Tab} {d : Fd} {Kf : Nat} {f : Addr} {fd : FuncData} {params : Arguments} {body : List Stmt} {scope : Scope} {dvs : List V} {kws : List (Str × V)} {N ps : List Str}
    (hT : TabOk P w K mg base xi k T) (hxi : xi = xi1 K) (hexc : ∀ c l, T.exc c = some l → mg c = some (.ref (He.ga K c)) ∧ xokB K c l = true ∧ (He.Fa.exc c).ok K = true) (hgl : ∀ x d, T.glob x = some d → ∃ v u, mg x = some u ∧ RelV v u ∧ ∀ F, Dn K F v d) (hbl : ∀ x ∈ blts, mg x = none) (hk : 1 ≤ k)
    (Fu : FunD K d.x d.x params body scope dvs kws f fd) (S : FnScope N ps scope) (hn : ps.length = d.np) (hN : N.length = d.nN) (hm : matSL (matS T.fresh T.dflt N scope d.fuel) d.code body = true) (hf : 0 < d.fuel) :
    FnG P w K mg base (k + 1) f fd ps (SpOf K xi d.fr (runFd T Kf d)) := by
  refine fnG_body Fu S (fun vs H Q E h => ?_) fun cdv A outer s H vs Q E gu room want => ?_
  · obtain ⟨F, o, ss, _, a, h⟩ := h
    rw [a.len, hn]
    exact runFd_len fun e => by rw [e] at h; exact h
  · obtain ⟨F, o, ss, sub, a, h⟩ := want
    cases hc : (decide (ss.length = d.np) && slotsOk d.io 0 ss && (match d.io with
      | none => true
      | some i => decide (i < d.np))) with
    | false =>
      have e : runFd T Kf d ss = .bad := by
        unfold runFd
        rw [hc]
        rfl
      rw [e] at h
      exact h.elim
    | true =>
      have e : runFd T Kf d ss = endOf d.io d.fr (runL (exS T Kf d.io d.fr d.fuel) d.code (ss ++ List.replicate (d.nN - ss.length) .no)) := by
        unfold runFd
        rw [hc]
        rfl
      rw [e] at h
      obtain ⟨c0, c3⟩ := and2 hc
      obtain ⟨c1, c2⟩ := and2 c0
      have c1 : ss.length = d.np := of_decide_eq_true c1
      have lv : vs.length = ss.length := a.len
      let C : Cg := ⟨T, K, ⟨F, H, fun p => o = some p, fun i p => d.io = some i ∧ o = some p⟩, fun cls dx _ H' => E cls dx H', xi⟩
      have ioOwn : ∀ i, d.io = some i → ∃ l p us, ss[i]? = some (Slot.own l) ∧ vs[i]? = some (.ref p) ∧ o = some p ∧ H p = some (.lst us) := fun i hi => by
        rw [hi] at c3
        have lt : i < d.np := of_decide_eq_true c3
        obtain ⟨l, hl⟩ := slotsOk_at (i := 0) (j := i) c2 (by rw [hi, Nat.zero_add]) (by omega)
        obtain ⟨p, us, q1, q2, q3, _⟩ := a.own_at hl
        exact ⟨l, p, us, hl, q1, q2, q3⟩
      have oIo : ∀ p, o = some p → ∃ i, d.io = some i := fun p hp => by
        have : ∀ {vs : List V} {ss : List Slot} {o : Option Addr}, ArgsOk K F H vs ss o → o = some p → ∃ i l, ss[i]? = some (Slot.own l) := fun {vs ss o} a => by
          induction a with
          | nil e => intro z; rw [e] at z; cases z
          | val _ _ ih => intro z; obtain ⟨i, l, q⟩ := ih z; exact ⟨i + 1, l, q⟩
          | own _ _ _ _ _ => intro z; exact ⟨0, _, rfl⟩
        obtain ⟨i, l, q⟩ := this a hp
        exact ⟨0 + i, slotsOk_own c2 q⟩
      have G : Gs C (cxOf (L2.CX P w) P w K mg base N d.x scope f cdv A outer s H E) N scope d.io :=
        { hK := rfl
          hN := rfl
          hs := rfl
          calm := rfl
          guards := gu
          room := room.mono hk
          nd := S.nd
          glob := hgl
          blt := hbl
          call := fun g hg => by
            obtain ⟨fa, fd', ps', q1, q2, q3, q4⟩ := hT g hg
            exact ⟨k, fa, fd', ps', q1, q2, room, q3, q4⟩
          xif := fun c l cls dx F F' H z => by
            have z : xi c l cls dx F H := z
            show xi c l cls dx F' H
            rw [hxi] at z ⊢
            exact z
          exc := hexc
          xi := hxi
          stk := rfl
          frm := rfl
          nex := rfl
          pass := fun σ => passAt (takes_of rfl rfl rfl rfl) σ
          fn := fun _ _ => rfl
          thru := passes_of rfl
          kind := S.kind
          pinP := fun q hq => by
            obtain ⟨i, hi⟩ := oIo q hq
            exact ⟨i, hi, hq⟩
          pinI := fun j q hq => hq.1 }
      have k0 : Ok C.B K F H (L2.start N vs) (ss ++ List.replicate (d.nN - ss.length) .no) := by
        refine ⟨?_, fun i dd e => ?_, fun i l e => ?_, fun i j l m p e1 e2 _ _ => ?_, sub, Same.refl _, fun _ z _ => z, fun _ _ z _ => z, fun _ z => z, fun i p hp => ?_⟩
        · unfold L2.start
          rw [List.length_append, List.length_append, List.length_replicate, List.length_replicate, List.length_map, lv, hN]
        · obtain ⟨v, q1, q2⟩ := a.val_at (en_at e (fun z => nomatch z))
          exact ⟨v, start_at q1, q2⟩
        · obtain ⟨p, us, q1, q2, q3, q4, q5⟩ := a.own_at (en_at e (fun z => nomatch z))
          exact ⟨p, us, start_at q1, q3, q4, q5, .inl q2⟩
        · have z1 := slotsOk_own c2 (en_at e1 (fun z => nomatch z))
          have z2 := slotsOk_own c2 (en_at e2 (fun z => nomatch z))
          rw [z1] at z2
          have := Option.some.inj z2
          omega
        · obtain ⟨l, p', us, q1, q2, q3, q4⟩ := ioOwn i hp.1
          have q5 := hp.2
          rw [q3] at q5
          cases q5
          refine ⟨start_at q2, ?_⟩
          have lt := (List.getElem?_eq_some_iff.mp q1).1
          have z : (ss ++ List.replicate (d.nN - ss.length) .no)[i]? = some (.own l) := by rw [List.getElem?_append_left lt]; exact q1
          rw [ownAt_some.mpr z]
          exact fun w => nomatch w
      have body_ : PSs (cxOf (L2.CX P w) P w K mg base N d.x scope f cdv A outer s H E) body (tS C d.fr (runL (exS T Kf d.io d.fr d.fuel) d.code)) := by
        obtain ⟨n, hn'⟩ : ∃ n, d.fuel = n + 1 := ⟨d.fuel - 1, by omega⟩
        rw [hn'] at hm ⊢
        exact sndL G (fun _ _ => .inr rfl) (fun _ _ => .inr rfl) (fun _ => rfl) (sndS G (takes_of rfl rfl rfl rfl) (n + 1)) d.code body hm
      refine ⟨_, body_, F, _, k0, ?_⟩
      have bk : ∀ {σ' F' H' en}, Ok C.B K F' H' σ' en → Bk ⟨F, H, fun p => o = some p, fun _ _ => False⟩ F' H' := fun {σ' F' H' en} k' => ⟨k'.sub, k'.bsub, k'.bnew, k'.bkeep, k'.bdom⟩
      have out : ∀ {σ' F' H' en r x}, Ok C.B K F' H' σ' en → outOf d.io r en = .ok x → x.1 = r ∧ OutOk K F' H' o x.2 := fun {σ' F' H' en r x} k' e => by
        unfold outOf at e
        cases hio : d.io with
        | none =>
          rw [hio] at e
          cases e
          refine ⟨rfl, ?_⟩
          cases ho : o with
          | none => trivial
          | some p =>
            obtain ⟨i, hi⟩ := oIo p ho
            rw [hio] at hi; cases hi
        | some i =>
          rw [hio] at e
          cases hw : ownAt en i with
          | none => simp only [hw] at e; cases e
          | some l =>
            simp only [hw] at e
            cases e
            refine ⟨rfl, ?_⟩
            obtain ⟨l0, p, us0, q1, q2, q3, q4⟩ := ioOwn i hio
            obtain ⟨p', us, f1, f2, f3, f4, f5⟩ := k'.own i l (ownAt_some.mp hw)
            obtain ⟨g1, _⟩ := k'.pin i p ⟨hio, q3⟩
            rw [g1] at f1
            cases f1
            rw [q3]
            exact ⟨f4, us, f2, f3⟩
      have noex : ∀ {r en c l}, outOf d.io r en ≠ .ex c l := fun {r en c l} e => by
        unfold outOf at e
        split at e
        · cases e
        · split at e <;> cases e
      cases r : runL (exS T Kf d.io d.fr d.fuel) d.code (ss ++ List.replicate (d.nN - ss.length) .no) with
      | nx en =>
        rw [r] at h
        have h : (match (if d.fr then .bad else outOf d.io .non en : R (D × Option (List D))) with
          | .ok r => ∀ v F' H', Bk ⟨F, H, fun a => o = some a, fun _ _ => False⟩ F' H' → OutOk K F' H' o r.2 → RetOk d.fr K F' H H' v r.1 → Q v H'
          | .ex c l => ∀ cls dx F' H', Bk ⟨F, H, fun a => o = some a, fun _ _ => False⟩ F' H' → xi c l cls dx F' H' → E cls dx H'
          | .bad => False) := h
        cases fr : d.fr with
        | true => rw [fr] at h; exact h.elim
        | false =>
          rw [fr] at h
          intro σ' F' H' s' k'
          cases e2 : outOf d.io .non en with
          | bad => simp only [e2] at h; exact h.elim
          | ex c l => exact absurd e2 noex
          | ok x =>
            simp only [e2] at h
            obtain ⟨o1, o2⟩ := out k' e2
            refine h .non F' H' (bk k') o2 ?_
            rw [o1]
            unfold RetOk
            rw [if_neg (fun z => nomatch z)]
            exact .non
      | rt rr en =>
        rw [r] at h
        intro v σ' F' H' s' k' ret
        have h : (match outOf d.io rr en with
          | .ok r => ∀ v F' H', Bk ⟨F, H, fun a => o = some a, fun _ _ => False⟩ F' H' → OutOk K F' H' o r.2 → RetOk d.fr K F' H H' v r.1 → Q v H'
          | .ex c l => ∀ cls dx F' H', Bk ⟨F, H, fun a => o = some a, fun _ _ => False⟩ F' H' → xi c l cls dx F' H' → E cls dx H'
          | .bad => False) := h
        cases e2 : outOf d.io rr en with
        | bad => rw [e2] at h; exact h.elim
        | ex c l => exact absurd e2 noex
        | ok x =>
          rw [e2] at h
          obtain ⟨o1, o2⟩ := out k' e2
          exact h v F' H' (bk k') o2 (by rw [o1]; exact ret)
      | ex c l =>
        rw [r] at h
        exact fun σ cls dx F' H' b x => h cls dx F' H' ⟨b.sub, b.bsub, b.bnew, b.bkeep, b.bdom⟩ x
      | bk en => rw [r] at h; exact h.elim
      | ct en => rw [r] at h; exact h.elim
      | bad => rw [r] at h; exact h.elim
theorem TabOk.add {k : Nat} {T : Tab} {d : Fd} {Kf : Nat} {f : Addr} {fd : FuncData} {ps : List Str} (hT : TabOk P w K mg base xi k T) (hm : mg d.x = some (.ref f)) (hk : PySem.W.keepIn K (.ref f) = true) (F : FnG P w K mg base (k + 1) f fd ps (SpOf K xi d.fr (runFd T Kf d)))
    (hb : ∀ dl : List D, (dl.isEmpty || lSame d.dfl dl) = true → ∃ ds dvs, Binds K fd ps ds ∧ Vals dvs ds ∧ ∀ F, DnA K F dvs dl) : TabOk P w K mg base xi (k + 1) (T.add Kf d) := fun g hg => by
  by_cases e : g = d.x
  · subst e
    have e1 : (T.add Kf d).fresh d.x = d.fr := if_pos rfl
    have e2 : (T.add Kf d).call d.x = runFd T Kf d := funext fun ss => if_pos rfl
    have e3 : (T.add Kf d).dflt d.x = d.dfl := if_pos rfl
    rw [e1, e2, e3]
    exact ⟨f, fd, ps, hm, hk, F, hb⟩
  · have e0 : (T.add Kf d).has g = T.has g := if_neg e
    have e1 : (T.add Kf d).fresh g = T.fresh g := if_neg e
    have e2 : (T.add Kf d).call g = T.call g := funext fun ss => if_neg e
    have e3 : (T.add Kf d).dflt g = T.dflt g := if_neg e
    rw [e0] at hg
    rw [e1, e2, e3]
    obtain ⟨fa, fd', ps', q1, q2, q3, q4⟩ := hT g hg
    exact ⟨fa, fd', ps', q1, q2, q3.mono (Nat.le_succ k), q4⟩
end
end Vm
end
section
set_option Elab.async false
set_option linter.all false
set_option maxRecDepth 100000
namespace Vm
open PySem PySem.Spec L2 PyProof.Rows
section
variable {P : Program} {w : World} {K : PySem.W.Frag} {mg mb : Str → Option Value}
theorem law_run {k : Nat} {fa a : Addr} {fd : FuncData} {x : Str} {rs : List Slot → R (D × Option (List D))} {s1 : Shared} {vs : List Value} {ns : List Int}
    (inK : K.In s1.heap) (gl : s1.heap.Ns mainGlobals mg) (bt : s1.heap.Ns builtinsNs mb) (btb : ∀ y : Str, y ≠ "__name__" → mb y = bootBuiltins y) (lim : s1.heap.NoLimit) (gens : s1.gens = #[])
    (obj : s1.heap.get? a = some { cls := .type "list", data := .seq vs.toArray }) (are : IntsAre vs ns) (small : ns.length ≤ sizeLine) (room : Room k callerA)
    (F : ∀ base : Heap, K.In base → base.Ns mainGlobals mg → FnG P w K mg base k fa fd [x] (SpOf K (xi1 K) false rs)) (bd : ∀ (s : Shared) (u : Value), BindsTo s fd ⟨[u], []⟩ [(x, u)])
    (run : rs [.val (.scr ns)] = .ok (.bl true, none)) :
    codeAny (model P w) callerA (.call (.ref fa) ⟨[.ref a], []⟩) (fun r s' => r = .ok (.ret (.bool true)) ∧ OldK s1.heap s'.heap ∧ s'.os = s1.os ∧ AllBare s'.gens) s1 := by
  have vals := vals_ints are
  -- with a tracked heap H that holds the script at the most
  have main : ∀ H : Hp, (∀ b, H b = none ∨ (b = a ∧ K.lookup a = none ∧ ∃ o xs, H b = some (.frz o (.lst xs)))) → SqL K H a (ns.map V.int) → HOk P w H s1.heap →
      codeAny (model P w) callerA (.call (.ref fa) ⟨[.ref a], []⟩) (fun r s' => r = .ok (.ret (.bool true)) ∧ OldK s1.heap s'.heap ∧ s'.os = s1.os ∧ AllBare s'.gens) s1 := by
    intro H only sq ok
    have plain : ∀ {b : Addr} {o : Obj} {es : Array DictEntry} {ep : Nat}, s1.heap.get? b = some o → o.data = .dict es ep → H b = none := fun {b o es ep} e d => by
      rcases only b with z | ⟨z, _, _⟩
      · exact z
      · subst z
        rw [obj] at e
        cases e
        cases d
    have under : ∀ {b : Addr} {m : Str → Option Value}, s1.heap.Ns b m → (hidT s1.heap H).Ns b m := fun {b m} ⟨o, es, ep, e, d, r⟩ => ⟨o, es, ep, hidT_get e (plain e d), d, r⟩
    have inB : K.In (hidT s1.heap H) := fun b o e => hidT_get (inK b o e) (by
      rcases only b with z | ⟨z, z2, _⟩
      · exact z
      · subst z
        rw [z2] at e; cases e)
    obtain ⟨mc, l1, l2⟩ := lim
    have e0 : Env0 P w K mg (hidT s1.heap H) callerA [] s1 H :=
      ⟨rfl, ⟨inB, under gl, ⟨mb, under bt, btb⟩, ⟨mc, under l1, l2⟩⟩, fun b o e => of_hidT e, Nat.le_of_eq (hidT_size _ _), trivial, fun b hb => absurd (show b ∈ ([] : List Addr) from hb) (by simp), ok, .of_eq gens⟩
    have want : SpOf K (xi1 K) false rs [.ref a] H (fun v _ => v = .bl true) fun _ _ _ => False := by
      refine ⟨H, none, [.val (.scr ns)], Same.refl _, .val (.scr sq) (.nil rfl), ?_⟩
      rw [run]
      intro v F' H' _ _ ret
      unfold RetOk at ret
      rw [if_neg (fun z => nomatch z)] at ret
      cases ret
      rfl
    refine codeAny_mono ((F _ inB (under gl)).run callerA [] s1 H ⟨[.ref a], []⟩ [.ref a] [.ref a] _ _ rfl room e0 (bd s1 (.ref a)) (.cons rfl .nil) want) fun r s' z => ?_
    match r, z with
    | .error e, ⟨_, _, _, _, _, _, _, _, _, _, _, _, no⟩ => exact no.elim
    | .ok .next, z => exact z.elim
    | .ok .brk, z => exact z.elim
    | .ok .cont, z => exact z.elim
    | .ok (.ret u), ⟨v, H', os, bare, un, ok', r', q⟩ =>
      have q : v = .bl true := q
      subst q
      obtain rfl : u = Value.bool true := r'
      refine ⟨rfl, OldK.of_keep fun b o e => ?_, os, bare⟩
      rcases only b with z | ⟨_, _, ob, xs, z⟩
      · exact un.keep b o e z (by intro y; exact absurd (show b ∈ ([] : List Addr) from y) (by simp)) (by simp)
      · obtain ⟨e1, _⟩ := ok b _ z
        obtain ⟨e2, _⟩ := ok' b _ (un.frzs b ob _ z)
        rw [e] at e1
        cases e1
        exact e2
  have len := are.length
  cases look : K.lookup a with
  | some o =>
    have e := inK a o look
    rw [obj] at e
    cases e
    exact main (fun _ => none) (fun _ => .inl rfl) (.inr ⟨_, vs.toArray, _, look, rfl, rfl, rfl, by rw [List.size_toArray, len]; exact small, by simpa using vals⟩) fun b u z => by
      have z : (none : Option HO) = some u := z
      cases z
  | none =>
    let H : Hp := fun b => if b = a then some (.frz { cls := .type "list", data := .seq vs.toArray } (.lst (ns.map V.int))) else none
    have at_ : H a = some (.frz { cls := .type "list", data := .seq vs.toArray } (.lst (ns.map V.int))) := if_pos rfl
    refine main H (fun b => ?_) (.inl (.inr ⟨{ cls := .type "list", data := .seq vs.toArray }, at_⟩)) fun b u z => ?_
    · by_cases e : b = a
      · subst e; exact .inr ⟨rfl, look, _, _, at_⟩
      · exact .inl (if_neg e)
    · by_cases e : b = a
      · subst e
        rw [at_] at z
        cases z
        exact ⟨obj, by rw [List.length_map]; exact small, vs, _, vals, obj⟩
      · have z2 : H b = none := if_neg e
        rw [z2] at z; cases z
end
theorem walk_end {l : PySem.W.OpenLaw} {n k : Nat} {q : Program} {loose : List Str} {XP : (Str → Option Value) → Heap → Prop} {YP : World → Heap → Prop} {d : DefRec} {x : Str} {rs : List Slot → R (D × Option (List D))}
    (hn : l.most = some n) (hn2 : n ≤ sizeLine) (hdf : d.params.defaults = []) (hr : Room k callerA)
    (F : ∀ (w : World) (mg : Str → Option Value) (fa : Addr) (h : Heap), YP w h → h.Ns mainGlobals mg → mg d.name = some (.ref fa) → ∃ (K : PySem.W.Frag) (fd : FuncData), K.In h ∧ (∀ (s : Shared) (u : Value), BindsTo s fd ⟨[u], []⟩ [(x, u)]) ∧
      ∀ base : Heap, K.In base → base.Ns mainGlobals mg → FnG l.prog w K mg base k fa fd [x] (SpOf K (xi1 K) false rs))
    (run : ∀ ns : List Int, ns.length ≤ n → (∀ z ∈ ns, Builtin.Int.intBits z ≤ 1048576) → rs [.val (.scr ns)] = .ok (.bl true, none)) :
    PySem.W.WalkO q loose XP YP l.row.toRowW d [] (fun f vs => PySem.call f vs) := by
  refine Att.attach_callB hn hdf fun w s₀ s₁ mg mb fa o pm cd doc a vs ns G Y ho hd hcd hmg hobj hints hlen hbits hg => ?_
  obtain ⟨K, fd, KX, hb, hF⟩ := F w mg fa _ Y G.T.g hmg
  exact law_run KX G.T.g G.T.b G.T.builtins G.T.nolimit hg hobj hints (Nat.le_trans hlen hn2) hr hF hb (run ns hlen hbits)
mutual
def datB (K : PySem.W.Frag) : Value → D → Bool
  | .none, .non => true
  | .bool a, .bl b => a == b
  | .int i _, .int j => decide (i = j)
  | .str x _, .str y => decide (x = y)
  | .ref a, .tup ds => (match K.lookup a with
    | some ⟨.type c, _, .seq its _, _⟩ => decide (c = "tuple") && decide (its.size ≤ sizeLine) && datAll K its.toList ds
    | _ => false)
  | _, _ => false
def datAll (K : PySem.W.Frag) : List Value → List D → Bool
  | [], [] => true
  | u :: us, d :: ds => datB K u d && datAll K us ds
  | _, _ => false
end
def rv : Value → V
  | .none => .non
  | .bool b => .bl b
  | .int i _ => .int i
  | .str x _ => .str x
  | .ref a => .ref a
  | _ => .non
mutual
theorem datB_ok {K : PySem.W.Frag} {H : Hp} : ∀ (d : D) (u : Value), datB K u d = true → RelV (rv u) u ∧ Dn K H (rv u) d
  | .non, u, h => by cases u <;> first | exact ⟨rfl, .non⟩ | cases h
  | .bl b, u, h => by
    cases u <;> first | cases h | skip
    rename_i a
    have e : a = b := eq_of_beq (show (a == b) = true from h)
    subst e
    exact ⟨rfl, .bl _⟩
  | .int i, u, h => by
    cases u <;> first | cases h | skip
    have e := of_decide_eq_true h
    subst e
    exact ⟨⟨_, rfl⟩, .int _⟩
  | .str x, u, h => by
    cases u <;> first | cases h | skip
    have e := of_decide_eq_true h
    subst e
    exact ⟨⟨_, rfl⟩, .str _⟩
  | .tup ds, u, h => by
    cases u <;> first | cases h | skip
    rename_i a
    have h : (match K.lookup a with
      | some ⟨.type c, _, .seq its _, _⟩ => decide (c = "tuple") && decide (its.size ≤ sizeLine) && datAll K its.toList ds
      | _ => false) = true := h
    split at h
    · rename_i c od its n osl e
      obtain ⟨h0, h3⟩ := and2 h
      obtain ⟨h1, h2⟩ := and2 h0
      obtain ⟨q1, q2⟩ := datAll_ok (H := H) ds its.toList h3
      exact ⟨rfl, .tup (.inr ⟨_, its, n, e, congrArg Value.type (of_decide_eq_true h1), rfl, of_decide_eq_true h2, q1⟩) q2⟩
    · cases h
  | .lst _, u, h => by cases u <;> cases h
  | .dic _, u, h => by cases u <;> cases h
  | .exc _ _, u, h => by cases u <;> cases h
  | .scr _, u, h => by cases u <;> cases h
  | .cls _, u, h => by cases u <;> cases h
theorem datAll_ok {K : PySem.W.Frag} {H : Hp} : ∀ (ds : List D) (us : List Value), datAll K us ds = true → Vals (us.map rv) us ∧ DnA K H (us.map rv) ds
  | [], [], _ => ⟨.nil, .nil⟩
  | d :: ds, u :: us, h => by
    obtain ⟨h1, h2⟩ := and2 (show (datB K u d && datAll K us ds) = true from h)
    obtain ⟨a1, a2⟩ := datB_ok (H := H) d u h1
    obtain ⟨b1, b2⟩ := datAll_ok (H := H) ds us h2
    exact ⟨.cons a1 b1, .cons a2 b2⟩
  | [], _ :: _, h => by cases h
  | _ :: _, [], h => by cases h
end
def isExc : D → Bool
  | .exc _ _ => true
  | _ => false
def gloB (K : PySem.W.Frag) (p : Str × D) : Bool := match p.2 with
  | .cls x => decide (p.1 = x) && He.eqO (PySem.W.nsIn K mainGlobals x) (some (some (.ref (He.ga K x))))
  | .exc c l => decide (p.1 = c) && He.eqO (PySem.W.nsIn K mainGlobals c) (some (some (.ref (He.ga K c)))) && xokB K c l && (He.Fa.exc c).ok K
  | d => (match PySem.W.nsIn K mainGlobals p.1 with
    | some (some u) => datB K u d
    | _ => false)
theorem gloB_ok {K : PySem.W.Frag} {h : Heap} {mg : Str → Option Value} (X : K.In h) (G : h.Ns mainGlobals mg) {p : Str × D} (hx : isExc p.2 = false) (e : gloB K p = true) : ∃ v u, mg p.1 = some u ∧ RelV v u ∧ ∀ F, Dn K F v p.2 := by
  obtain ⟨n, d⟩ := p
  have gen : (match PySem.W.nsIn K mainGlobals n with
    | some (some u) => datB K u d
    | _ => false) = true → ∃ v u, mg n = some u ∧ RelV v u ∧ ∀ F, Dn K F v d := fun e => by
    split at e
    · rename_i u q
      exact ⟨rv u, u, PySem.W.mg_of X G q, (datB_ok (H := fun _ => none) d u e).1, fun F => (datB_ok (H := F) d u e).2⟩
    · cases e
  cases d with
  | cls x =>
    obtain ⟨e1, e2⟩ := and2 (show (decide (n = x) && He.eqO (PySem.W.nsIn K mainGlobals x) (some (some (.ref (He.ga K x))))) = true from e)
    have e1 := of_decide_eq_true e1
    subst e1
    exact ⟨.ref (He.ga K n), .ref (He.ga K n), PySem.W.mg_of X G (He.eqO_ok e2), rfl, fun F => .cls⟩
  | exc _ _ => cases hx
  | non => exact gen e
  | bl _ => exact gen e
  | int _ => exact gen e
  | str _ => exact gen e
  | tup _ => exact gen e
  | lst _ => exact gen e
  | dic _ => exact gen e
  | scr _ => exact gen e
theorem gloB_exc {K : PySem.W.Frag} {h : Heap} {mg : Str → Option Value} (X : K.In h) (G : h.Ns mainGlobals mg) {n c : Str} {l : List D} (e : gloB K (n, .exc c l) = true) : mg c = some (.ref (He.ga K c)) ∧ xokB K c l = true ∧ (He.Fa.exc c).ok K = true := by
  obtain ⟨e, e4⟩ := and2 (show (decide (n = c) && He.eqO (PySem.W.nsIn K mainGlobals c) (some (some (.ref (He.ga K c)))) && xokB K c l && (He.Fa.exc c).ok K) = true from e)
  obtain ⟨e, e3⟩ := and2 e
  obtain ⟨e1, e2⟩ := and2 e
  exact ⟨PySem.W.mg_of X G (He.eqO_ok e2), e3, e4⟩
abbrev AlV : Type := He.AlD × Bool
def obsV (fa : List He.Fa) (fn : List He.DefD) (gs : List (Str × D)) (K : PySem.W.Frag) : AlV := (He.obsD fa fn K, gs.all (gloB K))
def SaysV (fa : List He.Fa) (fn : List He.DefD) (gs : List (Str × D)) (K : PySem.W.Frag) : Prop := obsV fa fn gs K = (He.valD fn, true)
def obsVG (n : Nat) (fa : List He.Fa) (fn : List He.DefD) (gs : List (Str × D)) (g : Addr → Option Obj) : AlV := obsV fa fn gs (He.frG g (He.asD g n))
def hookV (n : Nat) (fa : List He.Fa) (fn : List He.DefD) (gs : List (Str × D)) : PySem.W.Hook where
  α := AlV
  obs := fun s => obsVG n fa fn gs s.heap.get?
  val := fun _ => (He.valD fn, true)
  says := fun _ h => ∃ K : PySem.W.Frag, K.In h ∧ SaysV fa fn gs K
  of := fun _ _ e => ⟨_, He.frG_in, e⟩
  keeps := fun _ _ _ ⟨K, hK, c⟩ k => ⟨K, PySem.W.Frag.In.keeps hK k, c⟩
theorem obsVG_eq {n : Nat} {fa : List He.Fa} {fn : List He.DefD} {gs : List (Str × D)} {g : Addr → Option Obj} {s : Shared} (h : ∀ a, g a = s.heap.get? a) : obsVG n fa fn gs g = (hookV n fa fn gs).obs s := by
  have e : g = s.heap.get? := funext h
  rw [e]
  rfl
section
variable {fa : List He.Fa} {fn : List He.DefD} {gs : List (Str × D)} {K : PySem.W.Frag}
theorem SaysV.d (c : SaysV fa fn gs K) : He.SaysD fa fn K := congrArg Prod.fst c
theorem SaysV.g (c : SaysV fa fn gs K) : gs.all (gloB K) = true := congrArg Prod.snd c
end
end Vm
end
section
set_option Elab.async false
set_option linter.all false
set_option maxRecDepth 100000
namespace Vm
open PySem PySem.Spec L2 PyProof.Rows
def facts (names : List Str) : List He.Fa := names.map He.Fa.glo ++ blts.map He.Fa.free
structure Top (K : PySem.W.Frag) (mg : Str → Option Value) (names : List Str) (g : Str → Option D) (x : Str → Option (List D)) : Prop where
  bl : ∀ x ∈ blts, mg x = none
  nm : ∀ x ∈ names, mg x = some (.ref (He.ga K x))
  gl : ∀ x d, g x = some d → ∃ v u, mg x = some u ∧ RelV v u ∧ ∀ F, Dn K F v d
  ex : ∀ c l, x c = some l → mg c = some (.ref (He.ga K c)) ∧ xokB K c l = true ∧ (He.Fa.exc c).ok K = true
def gOf (gs : List (Str × D)) (x : Str) : Option D := (gs.filter fun p => !isExc p.2).lookup x
def xOf (gs : List (Str × D)) (c : Str) : Option (List D) := match (gs.filter fun p => isExc p.2).lookup c with
  | some (.exc _ l) => some l
  | _ => none
theorem top_of {K : PySem.W.Frag} {h : Heap} {mg : Str → Option Value} {names : List Str} {fn : List He.DefD} {gs : List (Str × D)} (X : K.In h) (G : h.Ns mainGlobals mg) (c : SaysV (facts names) fn gs K) : Top K mg names (gOf gs) (xOf gs) := by
  have all : ∀ f ∈ facts names, f.ok K = true := fun f hf => by
    have c1 := (He.ba (show (((facts names).all fun f => f.ok K) && fn.all fun d => d.ok K) = true from congrArg (fun z : He.AlD => z.1) c.d)).1
    exact List.all_eq_true.mp c1 f hf
  refine ⟨fun x hx => He.free_ok X G (all _ (List.mem_append_right _ (List.mem_map.mpr ⟨x, hx, rfl⟩))), fun x hx => He.glo_ok X G (all _ (List.mem_append_left _ (List.mem_map.mpr ⟨x, hx, rfl⟩))), fun x d e => ?_, fun c' l e => ?_⟩
  · have m : (x, d) ∈ gs.filter fun p => !isExc p.2 := by
      unfold gOf at e
      exact PySem.mem_of_lookup e
    obtain ⟨m1, m2⟩ := List.mem_filter.mp m
    exact gloB_ok X G (notB m2) (List.all_eq_true.mp c.g (x, d) m1)
  · unfold xOf at e
    split at e
    · rename_i n l' q
      cases e
      have m := PySem.mem_of_lookup q
      obtain ⟨m1, m2⟩ := List.mem_filter.mp m
      have z := List.all_eq_true.mp c.g _ m1
      have e1 := of_decide_eq_true (and2 (and2 (and2 (show (decide (c' = n) && He.eqO (PySem.W.nsIn K mainGlobals n) (some (some (.ref (He.ga K n)))) && xokB K n l && (He.Fa.exc n).ok K) = true from z)).1).1).1
      subst e1
      exact gloB_exc X G z
    · cases e
section
variable {P : Program} {w : World} {K : PySem.W.Frag} {mg : Str → Option Value} {base : Heap} {names : List Str}
theorem lSame_nil {dl : List D} (h : (dl.isEmpty || lSame [] dl) = true) : dl = [] := by
  cases dl with
  | nil => rfl
  | cons _ _ => cases h
theorem lSame_one {i : Int} {dl : List D} (h : (dl.isEmpty || lSame [.int i] dl) = true) : dl = [] ∨ dl = [.int i] := by
  cases dl with
  | nil => exact .inl rfl
  | cons a l =>
    have h : (dSame (.int i) a && lSame [] l) = true := h
    obtain ⟨h1, h2⟩ := and2 h
    cases l with
    | cons _ _ => cases h2
    | nil =>
      cases a <;> first | cases h1 | skip
      have e := of_decide_eq_true h1
      subst e
      exact .inr rfl
theorem TabOk.step {k : Nat} {T : Tab} (hT : TabOk P w K mg base (xi1 K) k T) (tp : Top K mg names T.glob T.exc) (hk : 1 ≤ k) {d : Fd} {Kf : Nat} {params : Arguments} {body : List Stmt} {scope : Scope} {dfl : List He.Dv} {N ps : List Str}
    (fu : ∃ fd, FunD K d.x d.x params body scope (dfl.map (He.Dv.v K)) [] (He.ga K d.x) fd) (hx : d.x ∈ names) (S : C8.scC N ps scope = true) (hn : ps.length = d.np) (hN : N.length = d.nN) (hf : 0 < d.fuel) (hm : matSL (matS T.fresh T.dflt N scope d.fuel) d.code body = true)
    (hb : ∀ fd, FunD K d.x d.x params body scope (dfl.map (He.Dv.v K)) [] (He.ga K d.x) fd → ∀ dl : List D, (dl.isEmpty || lSame d.dfl dl) = true → ∃ ds dvs, Binds K fd ps ds ∧ Vals dvs ds ∧ ∀ F, DnA K F dvs dl) : TabOk P w K mg base (xi1 K) (k + 1) (T.add Kf d) := by
  obtain ⟨fd, Fu⟩ := fu
  exact hT.add (tp.nm _ hx) Fu.kp (fnG_of hT rfl tp.ex tp.gl tp.bl hk Fu (C8.fnScope_by S) hn hN hm hf) (hb fd Fu)
theorem binds_none {d : Fd} {params : Arguments} {body : List Stmt} {scope : Scope} {ps : List Str} (hd : d.dfl = [])
    (h : ∀ (kV doc pm : Value) (an : Option Addr) (cdv ct : Value) (us : List Value), us.length = ps.length → bindArgs (PySem.W.fnOf d.x d.x params body scope .none kV doc pm an cdv ct) ⟨us, []⟩ = pure (ps.zip us)) :
    ∀ fd, FunD K d.x d.x params body scope (([] : List He.Dv).map (He.Dv.v K)) [] (He.ga K d.x) fd → ∀ dl : List D, (dl.isEmpty || lSame d.dfl dl) = true → ∃ ds dvs, Binds K fd ps ds ∧ Vals dvs ds ∧ ∀ F, DnA K F dvs dl := fun fd Fu dl e => by
  rw [hd] at e
  have e := lSame_nil e
  subst e
  exact ⟨[], [], FunD.bindsN Fu h, .nil, fun _ => .nil⟩
theorem binds_one {d : Fd} {params : Arguments} {body : List Stmt} {scope : Scope} {ps : List Str} {i : Int} {m : Nat} (hd : d.dfl = [.int i]) (hm : ps.length = m + 1)
    (h1 : ∀ (T : Addr) (kV doc pm : Value) (an : Option Addr) (cdv ct : Value) (us its : List Value), us.length = m → its.length = 1 →
      ∃ k, bindArgs (PySem.W.fnOf d.x d.x params body scope (.ref T) kV doc pm an cdv ct) ⟨us, []⟩ = seqItems? (.ref T) >>= k ∧ k (some its.toArray) = pure (ps.zip (us ++ its.drop 0)))
    (h2 : ∀ (T : Addr) (kV doc pm : Value) (an : Option Addr) (cdv ct : Value) (us its : List Value), us.length = m + 1 → its.length = 1 →
      ∃ k, bindArgs (PySem.W.fnOf d.x d.x params body scope (.ref T) kV doc pm an cdv ct) ⟨us, []⟩ = seqItems? (.ref T) >>= k ∧ k (some its.toArray) = pure (ps.zip (us ++ its.drop 1))) :
    ∀ fd, FunD K d.x d.x params body scope (([.int i] : List He.Dv).map (He.Dv.v K)) [] (He.ga K d.x) fd → ∀ dl : List D, (dl.isEmpty || lSame d.dfl dl) = true → ∃ ds dvs, Binds K fd ps ds ∧ Vals dvs ds ∧ ∀ F, DnA K F dvs dl := fun fd Fu dl e => by
  rw [hd] at e
  rcases lSame_one e with z | z
  · subst z
    obtain ⟨ds, q1, q2⟩ := FunD.binds1 (ps := ps) Fu (m + 1) 1 (by simp) (by simp [hm]) h2
    exact ⟨ds, [], q2, q1, fun _ => .nil⟩
  · subst z
    obtain ⟨ds, q1, q2⟩ := FunD.binds1 (ps := ps) Fu m 0 (by simp) (by simp [hm]) h1
    exact ⟨ds, [.int i], q2, q1, fun _ => .cons (.int i) .nil⟩
theorem fun_of {fa : List He.Fa} {fn : List He.DefD} (c : He.SaysD fa fn K) (i : Nat) {x : Str} {params : Arguments} {body : List Stmt} {scope : Scope} {dfl : List He.Dv} (h : fn[i]? = some ⟨(x, none), x, x, params, body, scope, dfl, []⟩) :
    ∃ fd, FunD K x x params body scope (dfl.map (He.Dv.v K)) [] (He.ga K x) fd := c.def_ i h
end
end Vm
end
section
set_option Elab.async false
set_option linter.all false
set_option maxRecDepth 100000
namespace Vm
open PySem PySem.Spec L2
section
variable {T : Tab} {n K : Nat} {io : Option Nat} {fr : Bool} {en : En} {f : E → En → R (D × En)} {es : List E}
theorem b_ok {α β : Type} (a : α) (f : α → R β) : (R.ok a).bind f = f a := rfl
theorem b_bad {α β : Type} (f : α → R β) : (R.bad : R α).bind f = .bad := rfl
theorem e_c (d : D) : evE T (n + 1) (.c d) en = .ok (d, en) := rfl
theorem e_v (i : Nat) : evE T (n + 1) (.v i) en = match valAt en i with
      | some d => .ok (d, en)
      | none => .bad := rfl
theorem e_g (x : Str) : evE T (n + 1) (.g x) en = match T.glob x with
      | some d => .ok (d, en)
      | none => .bad := rfl
def prR (p : Pr) (q : List AV × En) : R (D × En) := match resolveD q.2 q.1 with
      | none => .bad
      | some ds => (prim p ds).bind fun d => .ok (d, q.2)
theorem e_pr (p : Pr) (l : List E) : evE T (n + 1) (.pr p l) en = (evArgs (evE T n) l en).bind (prR p) := rfl
def andR (k : En → R (D × En)) (p : D × En) : R (D × En) := match p.1 with
      | .bl true => k p.2
      | .bl false => .ok (.bl false, p.2)
      | _ => .bad
def orR (k : En → R (D × En)) (p : D × En) : R (D × En) := match p.1 with
      | .bl true => .ok (.bl true, p.2)
      | .bl false => k p.2
      | _ => .bad
def iteR (a b : En → R (D × En)) (p : D × En) : R (D × En) := match p.1 with
      | .bl true => a p.2
      | .bl false => b p.2
      | _ => .bad
theorem e_and (a b : E) : evE T (n + 1) (.and_ a b) en = (evE T n a en).bind (andR (evE T n b)) := rfl
theorem e_or (a b : E) : evE T (n + 1) (.or_ a b) en = (evE T n a en).bind (orR (evE T n b)) := rfl
theorem e_ite (t a b : E) : evE T (n + 1) (.ite t a b) en = (evE T n t en).bind (iteR (evE T n a) (evE T n b)) := rfl
def callR (T : Tab) (f : Str) (dl : List D) (q : List AV × En) : R (D × En) := if ioFine q.1 then (match resolve q.2 q.1 with
      | none => .bad
      | some ss => (T.call f (ss ++ dl.map .val)).bind fun r => if safeB (T.fresh f) q.2 q.1 r then (putBack q.1 r.2 q.2).bind fun en2 => .ok (r.1, en2) else .bad) else .bad
theorem e_call (x : Str) (l : List E) (dl : List D) (h : T.has x = true) : evE T (n + 1) (.call x l dl) en = (evArgs (evE T n) l en).bind (callR T x dl) := if_pos h
theorem a_nil : evArgs f [] en = .ok ([], en) := rfl
def consR (k : En → R (List AV × En)) (p : D × En) : R (List AV × En) := (k p.2).bind fun q => .ok (.d p.1 :: q.1, q.2)
theorem a_c (d : D) : evArgs f (.c d :: es) en = (f (.c d) en).bind (consR (evArgs f es)) := rfl
theorem a_g (d : Str) : evArgs f (.g d :: es) en = (f (.g d) en).bind (consR (evArgs f es)) := rfl
theorem a_v (d : Nat) : evArgs f (.v d :: es) en = (f (.v d) en).bind (consR (evArgs f es)) := rfl
theorem a_pr (p : Pr) (l : List E) : evArgs f (.pr p l :: es) en = (f (.pr p l) en).bind (consR (evArgs f es)) := rfl
theorem a_and (a b : E) : evArgs f (.and_ a b :: es) en = (f (.and_ a b) en).bind (consR (evArgs f es)) := rfl
theorem a_or (a b : E) : evArgs f (.or_ a b :: es) en = (f (.or_ a b) en).bind (consR (evArgs f es)) := rfl
theorem a_ite (t a b : E) : evArgs f (.ite t a b :: es) en = (f (.ite t a b) en).bind (consR (evArgs f es)) := rfl
theorem a_ch (o p : Pr) (a b c : E) : evArgs f (.ch o p a b c :: es) en = (f (.ch o p a b c) en).bind (consR (evArgs f es)) := rfl
theorem a_call (x : Str) (l : List E) (dl : List D) : evArgs f (.call x l dl :: es) en = (f (.call x l dl) en).bind (consR (evArgs f es)) := rfl
theorem a_lc (e : E) (t : Tg) (k : Ik) (l : List E) (c : Option E) (v : List Nat) : evArgs f (.lc e t k l c v :: es) en = (f (.lc e t k l c v) en).bind (consR (evArgs f es)) := rfl
theorem a_lcb (e : E) (t : Tg) (i : Nat) (c : Option E) (v : List Nat) : evArgs f (.lcb e t i c v :: es) en = (f (.lcb e t i c v) en).bind (consR (evArgs f es)) := rfl
theorem cons_ok (k : En → R (List AV × En)) (d : D) (en : En) : consR k (d, en) = (k en).bind fun q => .ok (.d d :: q.1, q.2) := rfl
theorem a_bw (i : Nat) : evArgs f (.bw i :: es) en = if (ownAt en i).isSome then (evArgs f es en).bind fun q => .ok (.b i :: q.1, q.2) else .bad := rfl
theorem a_io (i : Nat) : evArgs f (.io i :: es) en = if (ownAt en i).isSome then (evArgs f es en).bind fun q => .ok (.o i :: q.1, q.2) else .bad := rfl
theorem v_0 (d : D) (en : En) : valAt (.val d :: en) 0 = some d := rfl
theorem v_s (s : Slot) (en : En) (i : Nat) : valAt (s :: en) (i + 1) = valAt en i := by
  unfold valAt
  rw [List.getElem?_cons_succ]
theorem w_0 (l : List D) (en : En) : ownAt (.own l :: en) 0 = some l := rfl
theorem w_v (d : D) (en : En) : ownAt (.val d :: en) 0 = none := rfl
theorem w_n (en : En) : ownAt (.no :: en) 0 = none := rfl
theorem w_s (s : Slot) (en : En) (i : Nat) : ownAt (s :: en) (i + 1) = ownAt en i := by
  unfold ownAt
  rw [List.getElem?_cons_succ]
theorem rd_nil : resolveD en [] = some [] := rfl
theorem rd_d (d : D) (l : List AV) : resolveD en (.d d :: l) = (resolveD en l).map (d :: ·) := rfl
theorem rd_b (i : Nat) (l : List AV) : resolveD en (.b i :: l) = match ownAt en i with
    | some ds => (resolveD en l).map (.lst ds :: ·)
    | none => none := rfl
theorem r_nil : resolve en [] = some [] := rfl
theorem r_d (d : D) (l : List AV) : resolve en (.d d :: l) = (resolve en l).map (.val d :: ·) := rfl
theorem r_b (i : Nat) (l : List AV) : resolve en (.b i :: l) = match ownAt en i with
    | some ds => (resolve en l).map (.val (.lst ds) :: ·)
    | none => none := rfl
theorem r_o (i : Nat) (l : List AV) : resolve en (.o i :: l) = match ownAt en i with
    | some ds => (resolve en l).map (.own ds :: ·)
    | none => none := rfl
theorem om_some {α β : Type} (f : α → β) (a : α) : (some a).map f = some (f a) := rfl
theorem ix_at {l : List D} {i : Int} {j : Nat} {d : D} (h : ixN l.length i = some j) (h2 : l[j]? = some d) : ixL l i = .ok d := by
  unfold ixL
  rw [h]
  simp only
  rw [h2]
theorem ix_0 (a : D) (l : List D) : ixL (a :: l) 0 = .ok a := ix_at (j := 0) (by unfold ixN; simp) rfl
theorem ix_1 (a b : D) (l : List D) : ixL (a :: b :: l) 1 = .ok b := ix_at (j := 1) (by unfold ixN; simp; omega) rfl
theorem ix_2 (a b c : D) (l : List D) : ixL (a :: b :: c :: l) 2 = .ok c := ix_at (j := 2) (by unfold ixN; simp; omega) rfl
theorem l_cons (g : S → En → O) (s : S) (ss : List S) : runL g (s :: ss) en = (g s en).seq (runL g ss) := rfl
def asgR (tg : Tg) (p : D × En) : O := match setTg tg p.1 p.2 with
      | some en1 => .nx en1
      | none => .bad
theorem x_asg (tg : Tg) (e : E) : exS T K io fr (n + 1) (.asg tg e) en = (evE T n e en).o (asgR tg) := rfl
theorem x_ret (e : E) : exS T K io false (n + 1) (.ret e) en = (evE T n e en).o fun p => .rt p.1 p.2 := rfl
def iteO (a b : En → O) (p : D × En) : O := match p.1 with
      | .bl true => a p.2
      | .bl false => b p.2
      | _ => .bad
theorem x_ite (t : E) (a b : List S) : exS T K io fr (n + 1) (.ite t a b) en = (evE T n t en).o (iteO (runL (exS T K io fr n) a) (runL (exS T K io fr n) b)) := rfl
def parR (is : List Nat) (p : List D × En) : O := match setMany is p.1 p.2 with
      | some en1 => .nx en1
      | none => .bad
theorem x_par (is : List Nat) (es : List E) : exS T K io fr (n + 1) (.par is es) en = (evList (evE T n) es en).o (parR is) := rfl
theorem x_whl (t : E) (b : List S) : exS T K io fr (n + 1) (.whl t b) en = loopW (evE T n t) (runL (exS T K io fr n) b) K en := rfl
theorem el_nil : evList f [] en = .ok ([], en) := rfl
def elcR (k : En → R (List D × En)) (p : D × En) : R (List D × En) := (k p.2).bind fun q => .ok (p.1 :: q.1, q.2)
theorem el_cons (e : E) : evList f (e :: es) en = (f e en).bind (elcR (evList f es)) := rfl
theorem elc_ok (k : En → R (List D × En)) (d : D) (en : En) : elcR k (d, en) = (k en).bind fun q => .ok (d :: q.1, q.2) := rfl
theorem x_stop : exS T K io fr (n + 1) .stop en = .bad := rfl
theorem p_add_i (i j : Int) : prim .add [.int i, .int j] = .ok (.int (i + j)) := rfl
theorem p_sub_i (i j : Int) : prim .sub [.int i, .int j] = .ok (.int (i - j)) := rfl
theorem p_neg_i (i : Int) : prim .neg [.int i] = .ok (.int (-i)) := rfl
theorem p_mul_i (i j : Int) : prim .mul [.int i, .int j] = if mulOk i j = true then .ok (.int (i * j)) else .bad := rfl
def dnegR (i j : Int) : R D := match dneg i j with
  | some k => .ok (.int k)
  | none => .bad
theorem p_fdiv_i (i j : Int) : prim .fdiv [.int i, .int j] = if divOk j = true then .ok (.int (i / j)) else dnegR i j := rfl
theorem p_fdiv_n {i j : Int} (h : j < 0) (h2 : j.natAbs.log2 < 9000) : prim .fdiv [.int i, .int j] = .ok (.int (i.fdiv j)) := by
  have e1 : divOk j = false := by unfold divOk; rw [decide_eq_false (by omega)]; rfl
  have e2 : dneg i j = some (i.fdiv j) := by unfold dneg; rw [decide_eq_true h, decide_eq_true h2]; rfl
  rw [p_fdiv_i, e1, if_neg (fun z => nomatch z)]
  unfold dnegR
  rw [e2]
theorem p_mod_i (i j : Int) : prim .mod [.int i, .int j] = if j ≠ 0 then .ok (.int (i.fmod j)) else .bad := rfl
theorem p_ix_t (l : List D) (i : Int) : prim .ix [.tup l, .int i] = ixL l i := rfl
theorem p_ix_l (l : List D) (i : Int) : prim .ix [.lst l, .int i] = ixL l i := rfl
theorem p_lt_i (i j : Int) : prim .lt [.int i, .int j] = .ok (.bl (decide (i < j))) := rfl
theorem p_le_i (i j : Int) : prim .le [.int i, .int j] = .ok (.bl (decide (i ≤ j))) := rfl
theorem p_gt_i (i j : Int) : prim .gt [.int i, .int j] = .ok (.bl (decide (j < i))) := rfl
theorem p_ge_i (i j : Int) : prim .ge [.int i, .int j] = .ok (.bl (decide (j ≤ i))) := rfl
theorem p_abs_i (i : Int) : prim .abs [.int i] = .ok (.int (if i < 0 then -i else i)) := rfl
theorem p_not_b (b : Bool) : prim .not [.bl b] = .ok (.bl (!b)) := rfl
theorem p_len_t (l : List D) : prim .len [.tup l] = .ok (.int l.length) := rfl
theorem p_len_l (l : List D) : prim .len [.lst l] = .ok (.int l.length) := rfl
theorem p_eq_i (i j : Int) : prim .eq [.int i, .int j] = .ok (.bl (decide (i = j))) := by
  show (if (D.int i).okEq && (D.int j).okEq then R.ok (D.bl ((D.int i).eqv (.int j))) else .bad) = _
  have h : ∀ i : Int, (D.int i).okEq = true := fun i => rfl
  rw [h, h]
  have e : (D.int i).eqv (.int j) = decide (i = j) := rfl
  rw [e]
  rfl
theorem p_ne_i (i j : Int) : prim .ne [.int i, .int j] = .ok (.bl (!decide (i = j))) := by
  show (if (D.int i).okEq && (D.int j).okEq then R.ok (D.bl (!(D.int i).eqv (.int j))) else .bad) = _
  have h : ∀ i : Int, (D.int i).okEq = true := fun i => rfl
  rw [h, h]
  have e : (D.int i).eqv (.int j) = decide (i = j) := rfl
  rw [e]
  rfl
theorem st_n (i : Nat) (d : D) (en : En) : setTg (.n i) d en = if (ownAt en i).isSome then none else some (en.set i (.val d)) := rfl
theorem st_t (is : List Nat) (ds : List D) (en : En) : setTg (.t is) (.tup ds) en = setMany is ds en := rfl
theorem st_l (is : List Nat) (ds : List D) (en : En) : setTg (.t is) (.lst ds) en = setMany is ds en := rfl
theorem sm_cons (i : Nat) (is : List Nat) (d : D) (ds : List D) (en : En) : setMany (i :: is) (d :: ds) en = if (ownAt en i).isSome then none else setMany is ds (en.set i (.val d)) := rfl
theorem fls_iff {α : Type} (a b : α) : (if false = true then a else b) = b := rfl
theorem tru_iff {α : Type} (a b : α) : (if true = true then a else b) = a := rfl
theorem n_isSome {α : Type} : (none : Option α).isSome = false := rfl
theorem s_isSome {α : Type} (a : α) : (some a).isSome = true := rfl
end
section
variable {T : Tab} {n K : Nat} {io : Option Nat} {fr : Bool} {en : En}
def setR1 (i : Nat) (d : D) (q : D × En) : O := match q.1, ownAt q.2 i with
      | .int k, some l => (match ixN l.length k with
        | some j => .nx (q.2.set i (.own (l.set j d)))
        | none => .bad)
      | _, _ => .bad
def setR (g : En → R (D × En)) (i : Nat) (p : D × En) : O := (g p.2).o (setR1 i p.1)
theorem x_setI (i : Nat) (ix e : E) : exS T K io fr (n + 1) (.setI i ix e) en = if (ownAt en i).isSome then (evE T n e en).o (setR (evE T n ix) i) else .bad := rfl
theorem setR_eq (g : En → R (D × En)) (i : Nat) (d : D) (en : En) : setR g i (d, en) = (g en).o (setR1 i d) := rfl
def appR (i : Nat) (p : D × En) : O := match ownAt p.2 i with
      | some l => if l.length < lineN then .nx (p.2.set i (.own (l ++ [p.1]))) else .bad
      | none => .bad
theorem x_app (i : Nat) (e : E) : exS T K io fr (n + 1) (.app i e) en = if (ownAt en i).isSome then (evE T n e en).o (appR i) else .bad := rfl
def forR (tg : Tg) (k : Ik) (b : En → O) (p : List D × En) : O := match items k p.1 with
      | some ds => loopF tg b ds p.2
      | none => .bad
theorem x_for (tg : Tg) (k : Ik) (l : List E) (b : List S) : exS T K io fr (n + 1) (.for_ tg k l b) en = (evList (evE T n) l en).o (forR tg k (runL (exS T K io fr n) b)) := rfl
theorem x_pop (i : Nat) : exS T K io fr (n + 1) (.pop i) en = match ownAt en i with
      | some l => if l = [] then .bad else .nx (en.set i (.own l.dropLast))
      | none => .bad := rfl
end
section
variable {T : Tab} {n K : Nat} {en : En}
def lcC (T : Tab) (n : Nat) : Option E → En → R (D × En)
  | some c => evE T n c
  | none => fun en => .ok (.bl true, en)
def lcR (T : Tab) (n : Nat) (elt : E) (tg : Tg) (k : Ik) (cond : Option E) (vs : List Nat) (q : List D × En) : R (D × En) := match items k q.1 with
      | none => .bad
      | some ds => if noOwn q.2 vs && decide (ds.length ≤ lineN) then
          (lcGo (lcC T n cond) (evE T n elt) tg vs ds (wipeE q.2 vs)).bind fun r => .ok (.lst r.1, restE q.2 vs r.2)
        else .bad
theorem e_lc (elt : E) (tg : Tg) (k : Ik) (l : List E) (cond : Option E) (vs : List Nat) : evE T (n + 1) (.lc elt tg k l cond vs) en = (evList (evE T n) l en).bind (lcR T n elt tg k cond vs) := by
  cases cond <;> rfl
inductive Rel2 (Q : D → D → Prop) : List D → List D → Prop
  | nil : Rel2 Q [] []
  | cons {a b : D} {l m : List D} : Q a b → Rel2 Q l m → Rel2 Q (a :: l) (b :: m)
end
theorem take_min {l : List D} {i : Nat} : l.take (min i l.length) = l.take i := by
  by_cases h : i ≤ l.length
  · rw [Nat.min_eq_left h]
  · rw [Nat.min_eq_right (by omega), List.take_of_length_le (Nat.le_refl _), List.take_of_length_le (by omega)]
theorem drop_min {l : List D} {i : Nat} : l.drop (min i l.length) = l.drop i := by
  by_cases h : i ≤ l.length
  · rw [Nat.min_eq_left h]
  · rw [Nat.min_eq_right (by omega), List.drop_of_length_le (Nat.le_refl _), List.drop_of_length_le (by omega)]
theorem cut_to (l : List D) (i : Nat) : cut l none (some (i : Int)) = l.take i := by
  unfold cut
  rw [HT.sIx_nat, HT.sIx_none, List.drop_zero, Nat.sub_zero, take_min]
theorem cut_mid (l : List D) (i j : Nat) : cut l (some (i : Int)) (some (j : Int)) = (l.drop i).take (j - i) := by
  unfold cut
  rw [HT.sIx_nat, HT.sIx_nat, drop_min]
  apply List.ext_getElem?
  intro m
  rw [List.getElem?_take, List.getElem?_take, List.getElem?_drop]
  by_cases h1 : m < j - i
  · rw [if_pos h1]
    by_cases h2 : m < min j l.length - min i l.length
    · rw [if_pos h2]
    · rw [if_neg h2, List.getElem?_eq_none (by omega)]
  · rw [if_neg h1]
    by_cases h2 : m < min j l.length - min i l.length
    · rw [if_pos h2, List.getElem?_eq_none (by omega)]
    · rw [if_neg h2]
end Vm
end
section
set_option Elab.async false
set_option linter.all false
set_option maxRecDepth 100000
namespace Vm
open PySem
theorem big_ex (m : Nat) : ∃ n, ∀ x k : Nat, x < 2 ^ k → k ≤ m → x < n := ⟨2 ^ m, fun x k h hk => Nat.lt_of_lt_of_le h (Nat.pow_le_pow_right (by decide) hk)⟩
noncomputable def big : Nat := Classical.choose (big_ex 268435456)
theorem big_gt {x k : Nat} (h : x < 2 ^ k) (hk : k ≤ 268435456) : x < big := Classical.choose_spec (big_ex 268435456) x k h hk
def Bd (k : Nat) (i : Int) : Prop := i.natAbs < 2 ^ k
theorem Bd.mono {k m : Nat} {i : Int} (h : Bd k i) (hk : k ≤ m) : Bd m i := Nat.lt_of_lt_of_le h (Nat.pow_le_pow_right (by decide) hk)
theorem Bd.log {k : Nat} {i : Int} (h : Bd k i) : i.natAbs.log2 ≤ k := by
  by_cases z : i.natAbs = 0
  · rw [z]; simp
  · exact Nat.le_of_lt ((Nat.log2_lt z).mpr h)
theorem Bd.mul {k m : Nat} {i j : Int} (h : Bd k i) (g : Bd m j) : Bd (k + m) (i * j) := by
  unfold Bd at *
  rw [Int.natAbs_mul, Nat.pow_add]
  exact Nat.mul_lt_mul'' h g
theorem Bd.add {k : Nat} {i j : Int} (h : Bd k i) (g : Bd k j) : Bd (k + 1) (i + j) := by
  unfold Bd at *
  have := Int.natAbs_add_le i j
  rw [Nat.pow_succ]
  omega
theorem Bd.neg {k : Nat} {i : Int} (h : Bd k i) : Bd k (-i) := by
  unfold Bd at *
  rw [Int.natAbs_neg]; exact h
theorem Bd.sub {k : Nat} {i j : Int} (h : Bd k i) (g : Bd k j) : Bd (k + 1) (i - j) := by
  rw [Int.sub_eq_add_neg]; exact h.add g.neg
theorem mulOk_bd {k m : Nat} {i j : Int} (h : Bd k i) (g : Bd m j) (hk : k + m ≤ 130000000 := by omega) : mulOk i j = true := by
  unfold mulOk
  have h1 := h.log
  have h2 := g.log
  exact decide_eq_true (by omega)
theorem divOk_bd {k : Nat} {j : Int} (h : Bd k j) (h0 : 0 < j) (hk : k < 9000 := by omega) : divOk j = true := by
  unfold divOk
  rw [decide_eq_true h0, decide_eq_true (Nat.lt_of_le_of_lt h.log hk)]
  rfl
theorem fmod_step {a b : Int} (hb : b ≠ 0) : (a.fmod b).natAbs < b.natAbs ∧ b.gcd (a.fmod b) = a.gcd b ∧ (0 ≤ a → 0 ≤ b → 0 ≤ a.fmod b) := by
  refine ⟨?_, ?_, fun h1 h2 => Int.fmod_nonneg h1 h2⟩
  · by_cases h : 0 < b
    · have h1 := Int.fmod_nonneg_of_pos a h
      have h2 := Int.fmod_lt_of_pos a h
      omega
    · have e : a.fmod b = -((-a).fmod (-b)) := by
        rw [Int.neg_fmod_neg, Int.neg_neg]
      have h3 : 0 < -b := by omega
      have h1 := Int.fmod_nonneg_of_pos (-a) h3
      have h2 := Int.fmod_lt_of_pos (-a) h3
      omega
  · rw [Int.fmod_def, Int.gcd_sub_mul_left_right, Int.gcd_comm]
def fr (r : Rat) : D := .tup [.int r.num, .int r.den]
theorem gcd_bd {k : Nat} {p q : Int} (h : Bd k q) (hq : q ≠ 0) : Bd k ((p.gcd q : Nat) : Int) ∧ (0 : Int) < ((p.gcd q : Nat) : Int) := by
  have h1 := Int.gcd_le_natAbs_right p hq
  have h2 : 0 < p.gcd q := Int.gcd_pos_of_ne_zero_right p hq
  unfold Bd at *
  constructor <;> omega
theorem fr_num {p q : Int} : (Rat.divInt p q).num = q.sign * p / (p.gcd q : Nat) := by rw [Rat.num_divInt, Int.gcd_comm]
theorem fr_den {p q : Int} (hq : q ≠ 0) : (((Rat.divInt p q).den : Nat) : Int) = q.sign * q / (p.gcd q : Nat) := by
  rw [Rat.den_divInt, if_neg hq, Int.gcd_comm, Int.natCast_ediv, Int.sign_mul_self]
end Vm
end
section
set_option Elab.async false
set_option linter.all false
set_option maxRecDepth 100000
namespace Vm
open PySem
mutual
def D.nodes : D → Nat
  | .tup l => 1 + D.nodesAll l
  | .lst l => 1 + D.nodesAll l
  | _ => 1
def D.nodesAll : List D → Nat
  | [] => 0
  | d :: l => d.nodes + D.nodesAll l
end
mutual
def D.num : Nat → D → Bool
  | _, .non => true
  | _, .bl _ => true
  | _, .int i => decide (i.natAbs.log2 < 1920)
  | 0, _ => false
  | k + 1, .tup l => D.numAll k l
  | k + 1, .lst l => D.numAll k l
  | _, _ => false
def D.numAll : Nat → List D → Bool
  | _, [] => true
  | k, d :: l => d.num k && D.numAll k l
end
theorem int_shown {i : Int} (h : i.natAbs.log2 < 1920) : (PyData.int i).shown.length ≤ 1921 := PyProof.Rows.int_text_len_1921 h
mutual
theorem num_ok : ∀ (k : Nat) (d : D), d.num k = true → d.plain = true ∧ d.py.depth ≤ k ∧ d.py.showable = true ∧ d.py.shown.length + 5 ≤ 1926 * d.nodes
  | k, .non, _ => ⟨rfl, Nat.zero_le _, rfl, by have e : (D.non.py.shown).length = 4 := rfl; have e2 : D.non.nodes = 1 := rfl; omega⟩
  | k, .bl b, _ => ⟨rfl, Nat.zero_le _, rfl, by have e : ((D.bl b).py.shown).length ≤ 5 := by cases b <;> decide
                                                have e2 : (D.bl b).nodes = 1 := rfl
                                                omega⟩
  | k, .int i, h => by
    have h : decide (i.natAbs.log2 < 1920) = true := by cases k <;> exact h
    have l := int_shown (of_decide_eq_true h)
    refine ⟨rfl, Nat.zero_le _, h, ?_⟩
    have e2 : (D.int i).nodes = 1 := rfl
    have e3 : (D.int i).py.shown.length ≤ 1921 := l
    omega
  | 0, .tup _, h => by cases h
  | 0, .lst _, h => by cases h
  | k + 1, .tup l, h => by
    obtain ⟨q1, q2, q3, q4⟩ := numAll_ok k l h
    have t := tupleText_len_le (PyData.shownAll (D.pyAll l))
    have t2 : (PyData.shownAll (D.pyAll l)).length = (D.pyAll l).length := PyData.shownAll_length _
    refine ⟨q1, Nat.succ_le_succ q2, q3, ?_⟩
    have e : (D.tup l).py.shown = tupleText (PyData.shownAll (D.pyAll l)) := rfl
    have e2 : (D.tup l).nodes = 1 + D.nodesAll l := rfl
    rw [e, e2]
    omega
  | k + 1, .lst l, h => by
    obtain ⟨q1, q2, q3, q4⟩ := numAll_ok k l h
    have t := listText_len_le (PyData.shownAll (D.pyAll l))
    have t2 : (PyData.shownAll (D.pyAll l)).length = (D.pyAll l).length := PyData.shownAll_length _
    refine ⟨q1, Nat.succ_le_succ q2, q3, ?_⟩
    have e : (D.lst l).py.shown = listText (PyData.shownAll (D.pyAll l)) := rfl
    have e2 : (D.lst l).nodes = 1 + D.nodesAll l := rfl
    rw [e, e2]
    omega
  | k, .str _, h => by cases k <;> cases h
  | k, .dic _, h => by cases k <;> cases h
  | k, .exc _ _, h => by cases k <;> cases h
  | k, .scr _, h => by cases k <;> cases h
  | k, .cls _, h => by cases k <;> cases h
theorem numAll_ok : ∀ (k : Nat) (l : List D), D.numAll k l = true → D.plainAll l = true ∧ PyData.depthAll (D.pyAll l) ≤ k ∧ PyData.showableAll (D.pyAll l) = true ∧ ((PyData.shownAll (D.pyAll l)).map (·.length)).sum + 5 * (D.pyAll l).length ≤ 1926 * D.nodesAll l
  | k, [], _ => ⟨rfl, Nat.zero_le _, rfl, Nat.zero_le _⟩
  | k, d :: l, h => by
    obtain ⟨h1, h2⟩ := (Bool.and_eq_true _ _).mp (show (d.num k && D.numAll k l) = true from h)
    obtain ⟨a1, a2, a3, a4⟩ := num_ok k d h1
    obtain ⟨b1, b2, b3, b4⟩ := numAll_ok k l h2
    refine ⟨(Bool.and_eq_true _ _).mpr ⟨a1, b1⟩, Nat.max_le.mpr ⟨a2, b2⟩, (Bool.and_eq_true _ _).mpr ⟨a3, b3⟩, ?_⟩
    have e1 : ((PyData.shownAll (D.pyAll (d :: l))).map (·.length)).sum = d.py.shown.length + ((PyData.shownAll (D.pyAll l)).map (·.length)).sum := rfl
    have e2 : (D.pyAll (d :: l)).length = (D.pyAll l).length + 1 := rfl
    have e3 : D.nodesAll (d :: l) = d.nodes + D.nodesAll l := rfl
    rw [e1, e2, e3]
    omega
end
theorem eq_ok_num {k : Nat} {d : D} (h : d.num k = true) (hk : k ≤ 64) : d.okEq = true := by
  obtain ⟨a1, a2, _⟩ := num_ok k d h
  unfold D.okEq
  rw [a1, decide_eq_true (Nat.le_trans a2 hk)]
  rfl
end Vm
end
section
set_option Elab.async false
set_option linter.all false
set_option maxRecDepth 100000
namespace Vm
open PySem PySem.Spec L2
section
variable {α β σ ρ : Type}
inductive Fl (σ ρ : Type) where
  | nx (s : σ) | rt (r : ρ)
def Fl.el (x : Fl σ ρ) (f : σ → R α) (g : ρ → R α) : R α := match x with
  | .nx s => f s
  | .rt r => g r
def iteD (x : D) (a b : R α) : R α := match x with
  | .bl true => a
  | .bl false => b
  | _ => .bad
def un1 (x : D) (f : D → R α) : R α := match x with
  | .tup [a] => f a
  | .lst [a] => f a
  | _ => .bad
def un2 (x : D) (f : D → D → R α) : R α := match x with
  | .tup [a, b] => f a b
  | .lst [a, b] => f a b
  | _ => .bad
def un3 (x : D) (f : D → D → D → R α) : R α := match x with
  | .tup [a, b, c] => f a b c
  | .lst [a, b, c] => f a b c
  | _ => .bad
def un4 (x : D) (f : D → D → D → D → R α) : R α := match x with
  | .tup [a, b, c, d] => f a b c d
  | .lst [a, b, c, d] => f a b c d
  | _ => .bad
def asL (x : D) (f : List D → R α) : R α := match x with
  | .lst l => f l
  | _ => .bad
def ownK (o : Option (List D)) (f : List D → R α) : R α := match o with
  | some l => f l
  | none => .bad
def itR (k : Ik) (ls : List D) : R (List D) := match items k ls with
  | some ds => .ok ds
  | none => .bad
def lcK (b : Bool) (ds : List D) (m : R α) : R α := if b && decide (ds.length ≤ lineN) then m else .bad
def setAt (l : List D) (k v : D) : R (List D) := match k with
  | .int i => (match ixN l.length i with
    | some j => .ok (l.set j v)
    | none => .bad)
  | _ => .bad
def appL (l : List D) (v : D) : R (List D) := if l.length < lineN then .ok (l ++ [v]) else .bad
def popL (l : List D) : R (List D) := if l = [] then .bad else .ok l.dropLast
def remL (l : List D) (k : D) : R (List D) := match remD l k with
  | some l' => .ok l'
  | none => .bad
def nlG (fr : Bool) (d : D) (m : R α) : R α := if nolR fr d then m else .bad
def ioG (b : Bool) (m : R α) : R α := if b then m else .bad
theorem b_assoc (m : R α) (f : α → R β) (g : β → R σ) : (m.bind f).bind g = m.bind fun x => (f x).bind g := by cases m <;> rfl
theorem iteD_t (a b : R α) : iteD (.bl true) a b = a := rfl
theorem iteD_f (a b : R α) : iteD (.bl false) a b = b := rfl
theorem iteD_bind (x : D) (a b : R α) (f : α → R β) : (iteD x a b).bind f = iteD x (a.bind f) (b.bind f) := by
  cases x <;> first | rfl | (rename_i z; cases z <;> rfl)
theorem un1_bind (x : D) (f : D → R α) (g : α → R β) : (un1 x f).bind g = un1 x fun a => (f a).bind g := by
  unfold un1
  split <;> rfl
theorem un2_bind (x : D) (f : D → D → R α) (g : α → R β) : (un2 x f).bind g = un2 x fun a b => (f a b).bind g := by
  unfold un2
  split <;> rfl
theorem un3_bind (x : D) (f : D → D → D → R α) (g : α → R β) : (un3 x f).bind g = un3 x fun a b c => (f a b c).bind g := by
  unfold un3
  split <;> rfl
theorem un4_bind (x : D) (f : D → D → D → D → R α) (g : α → R β) : (un4 x f).bind g = un4 x fun a b c d => (f a b c d).bind g := by
  unfold un4
  split <;> rfl
theorem un1_t (a : D) (f : D → R α) : un1 (.tup [a]) f = f a := rfl
theorem un2_t (a b : D) (f : D → D → R α) : un2 (.tup [a, b]) f = f a b := rfl
theorem un3_t (a b c : D) (f : D → D → D → R α) : un3 (.tup [a, b, c]) f = f a b c := rfl
theorem un4_t (a b c d : D) (f : D → D → D → D → R α) : un4 (.tup [a, b, c, d]) f = f a b c d := rfl
theorem asL_bind (x : D) (f : List D → R α) (g : α → R β) : (asL x f).bind g = asL x fun l => (f l).bind g := by
  unfold asL
  split <;> rfl
theorem asL_l (l : List D) (f : List D → R α) : asL (.lst l) f = f l := rfl
theorem ownK_s (l : List D) (f : List D → R α) : ownK (some l) f = f l := rfl
theorem el_nx (s : σ) (f : σ → R α) (g : ρ → R α) : (Fl.nx s : Fl σ ρ).el f g = f s := rfl
theorem el_rt (s : ρ) (f : σ → R α) (g : ρ → R α) : (Fl.rt s : Fl σ ρ).el f g = g s := rfl
theorem el_bind (x : Fl σ ρ) (f : σ → R α) (g : ρ → R α) (h : α → R β) : (x.el f g).bind h = x.el (fun s => (f s).bind h) (fun r => (g r).bind h) := by cases x <;> rfl
theorem lcK_bind (b : Bool) (ds : List D) (m : R α) (f : α → R β) : (lcK b ds m).bind f = lcK b ds (m.bind f) := by
  unfold lcK
  split <;> rfl
theorem nlG_bind (b : Bool) (d : D) (m : R α) (f : α → R β) : (nlG b d m).bind f = nlG b d (m.bind f) := by
  unfold nlG
  split <;> rfl
theorem ioG_bind (b : Bool) (m : R α) (f : α → R β) : (ioG b m).bind f = ioG b (m.bind f) := by cases b <;> rfl
theorem nx_ioG (b : Bool) (m : R α) : (ioG b m).noex = ioG b m.noex := by cases b <;> rfl
theorem nx_ok (a : α) : (R.ok a).noex = .ok a := rfl
theorem nx_bad : (R.bad : R α).noex = .bad := rfl
theorem nx_bind (m : R α) (f : α → R β) : (m.bind f).noex = m.noex.bind fun x => (f x).noex := by cases m <;> rfl
theorem nx_nx (m : R α) : m.noex.noex = m.noex := by cases m <;> rfl
theorem nx_iteD (x : D) (a b : R α) : (iteD x a b).noex = iteD x a.noex b.noex := by
  cases x <;> first | rfl | (rename_i z; cases z <;> rfl)
theorem nx_un1 (x : D) (f : D → R α) : (un1 x f).noex = un1 x fun a => (f a).noex := by
  unfold un1
  split <;> rfl
theorem nx_un2 (x : D) (f : D → D → R α) : (un2 x f).noex = un2 x fun a b => (f a b).noex := by
  unfold un2
  split <;> rfl
theorem nx_itR (k : Ik) (ls : List D) : (itR k ls).noex = itR k ls := by
  unfold itR
  split <;> rfl
theorem nx_lcK (b : Bool) (ds : List D) (m : R α) : (lcK b ds m).noex = lcK b ds m.noex := by
  unfold lcK
  split <;> rfl
theorem nx_nlG (b : Bool) (d : D) (m : R α) : (nlG b d m).noex = nlG b d m.noex := by
  unfold nlG
  split <;> rfl
end
abbrev XO := D × Option (List D)
def obs (io : Option Nat) (o : O) (kn kc kb : En → R XO) : R XO := match o with
  | .nx en => kn en
  | .rt d en => outOf io d en
  | .bk en => kb en
  | .ct en => kc en
  | .ex c l => .ex c l
  | .bad => .bad
section
variable {α : Type} {io : Option Nat} {kn kc kb : En → R XO}
theorem obs_nx (en : En) : obs io (.nx en) kn kc kb = kn en := rfl
theorem obs_rt (d : D) (en : En) : obs io (.rt d en) kn kc kb = outOf io d en := rfl
theorem obs_bk (en : En) : obs io (.bk en) kn kc kb = kb en := rfl
theorem obs_ct (en : En) : obs io (.ct en) kn kc kb = kc en := rfl
theorem obs_bad : obs io .bad kn kc kb = .bad := rfl
theorem obs_seq (o : O) (f : En → O) : obs io (o.seq f) kn kc kb = obs io o (fun en => obs io (f en) kn kc kb) kc kb := by cases o <;> rfl
theorem obs_turn (o : O) (f : En → O) : obs io (o.turn f) kn kc kb = obs io o (fun en => obs io (f en) kn kc kb) (fun en => obs io (f en) kn kc kb) kn := by cases o <;> rfl
theorem obs_o (m : R α) (f : α → O) : obs io (m.o f) kn kc kb = m.bind fun x => obs io (f x) kn kc kb := by cases m <;> rfl
theorem obs_nil (g : S → En → O) (en : En) : obs io (runL g [] en) kn kc kb = kn en := rfl
theorem obs_cons (g : S → En → O) (s : S) (ss : List S) (en : En) : obs io (runL g (s :: ss) en) kn kc kb = obs io (g s en) (fun en => obs io (runL g ss en) kn kc kb) kc kb := by
  rw [l_cons, obs_seq]
theorem obs_ite (a b : En → O) (x : D) (en : En) : obs io (iteO a b (x, en)) kn kc kb = iteD x (obs io (a en) kn kc kb) (obs io (b en) kn kc kb) := by
  cases x <;> first | rfl | (rename_i z; cases z <;> rfl)
theorem obs_own (o : Option (List D)) (f : List D → O) : obs io (match o with
    | some l => f l
    | none => .bad) kn kc kb = ownK o fun l => obs io (f l) kn kc kb := by cases o <;> rfl
theorem end_obs (fr : Bool) (o : O) : endOf io fr o = obs io o (fun en => if fr then .bad else outOf io .non en) (fun _ => .bad) (fun _ => .bad) := by cases o <;> rfl
theorem out_none (d : D) (en : En) : outOf none d en = .ok (d, none) := rfl
theorem out_some (i : Nat) (d : D) (en : En) : outOf (some i) d en = ownK (ownAt en i) fun l => .ok (d, some l) := by
  show (match ownAt en i with
    | some l => R.ok (d, some l)
    | none => .bad) = _
  cases ownAt en i <;> rfl
end
section
variable {α : Type} {T : Tab} {n K : Nat} {io : Option Nat} {fr : Bool} {en : En} {kn kc kb : En → R XO}
def stK (tg : Tg) (d : D) (en : En) (f : En → R α) : R α := match setTg tg d en with
  | some en1 => f en1
  | none => .bad
theorem stK_n (i : Nat) (d : D) (en : En) (f : En → R α) : stK (.n i) d en f = if (ownAt en i).isSome then .bad else f (en.set i (.val d)) := by
  unfold stK
  rw [st_n]
  split <;> rename_i h <;> split at h <;> simp_all
def smK (is : List Nat) (ds : List D) (en : En) (f : En → R α) : R α := match setMany is ds en with
  | some en1 => f en1
  | none => .bad
theorem smK_nil (en : En) (f : En → R α) : smK [] [] en f = f en := rfl
theorem smK_cons (i : Nat) (is : List Nat) (d : D) (ds : List D) (en : En) (f : En → R α) : smK (i :: is) (d :: ds) en f = if (ownAt en i).isSome then .bad else smK is ds (en.set i (.val d)) f := by
  unfold smK
  rw [sm_cons]
  by_cases h : (ownAt en i).isSome = true
  · rw [if_pos h, if_pos h]
  · rw [if_neg h, if_neg h]
theorem sm_len : ∀ (is : List Nat) (ds : List D) (en : En), is.length ≠ ds.length → setMany is ds en = none
  | [], [], _, h => absurd rfl h
  | [], _ :: _, _, _ => rfl
  | _ :: _, [], _, _ => rfl
  | i :: is, d :: ds, en, h => by
    rw [sm_cons]
    split
    · rfl
    · exact sm_len is ds _ fun z => h (by rw [List.length_cons, List.length_cons, z])
theorem stK_t1 (i : Nat) (d : D) (en : En) (f : En → R α) : stK (.t [i]) d en f = un1 d fun a => smK [i] [a] en f := by
  unfold stK un1
  cases d <;> first | rfl | skip
  all_goals rename_i l
  all_goals match l with
  | [a] => rfl
  | [] => first | rw [st_t, sm_len _ _ _ (by simp)] | rw [st_l, sm_len _ _ _ (by simp)]
  | a :: b :: l => first | rw [st_t, sm_len _ _ _ (by simp)] | rw [st_l, sm_len _ _ _ (by simp)]
theorem stK_t2 (i j : Nat) (d : D) (en : En) (f : En → R α) : stK (.t [i, j]) d en f = un2 d fun a b => smK [i, j] [a, b] en f := by
  unfold stK un2
  cases d <;> first | rfl | skip
  all_goals rename_i l
  all_goals match l with
  | [a, b] => rfl
  | [] => first | rw [st_t, sm_len _ _ _ (by simp)] | rw [st_l, sm_len _ _ _ (by simp)]
  | [a] => first | rw [st_t, sm_len _ _ _ (by simp)] | rw [st_l, sm_len _ _ _ (by simp)]
  | a :: b :: c :: l => first | rw [st_t, sm_len _ _ _ (by simp)] | rw [st_l, sm_len _ _ _ (by simp)]
theorem stK_t3 (i j k : Nat) (d : D) (en : En) (f : En → R α) : stK (.t [i, j, k]) d en f = un3 d fun a b c => smK [i, j, k] [a, b, c] en f := by
  unfold stK un3
  cases d <;> first | rfl | skip
  all_goals rename_i l
  all_goals match l with
  | [a, b, c] => rfl
  | [] => first | rw [st_t, sm_len _ _ _ (by simp)] | rw [st_l, sm_len _ _ _ (by simp)]
  | [a] => first | rw [st_t, sm_len _ _ _ (by simp)] | rw [st_l, sm_len _ _ _ (by simp)]
  | [a, b] => first | rw [st_t, sm_len _ _ _ (by simp)] | rw [st_l, sm_len _ _ _ (by simp)]
  | a :: b :: c :: e :: l => first | rw [st_t, sm_len _ _ _ (by simp)] | rw [st_l, sm_len _ _ _ (by simp)]
theorem stK_t4 (i j k m : Nat) (d : D) (en : En) (f : En → R α) : stK (.t [i, j, k, m]) d en f = un4 d fun a b c e => smK [i, j, k, m] [a, b, c, e] en f := by
  unfold stK un4
  cases d <;> first | rfl | skip
  all_goals rename_i l
  all_goals match l with
  | [a, b, c, e] => rfl
  | [] => first | rw [st_t, sm_len _ _ _ (by simp)] | rw [st_l, sm_len _ _ _ (by simp)]
  | [a] => first | rw [st_t, sm_len _ _ _ (by simp)] | rw [st_l, sm_len _ _ _ (by simp)]
  | [a, b] => first | rw [st_t, sm_len _ _ _ (by simp)] | rw [st_l, sm_len _ _ _ (by simp)]
  | [a, b, c] => first | rw [st_t, sm_len _ _ _ (by simp)] | rw [st_l, sm_len _ _ _ (by simp)]
  | a :: b :: c :: e :: g :: l => first | rw [st_t, sm_len _ _ _ (by simp)] | rw [st_l, sm_len _ _ _ (by simp)]
theorem obs_asg (tg : Tg) (d : D) (en : En) : obs io (asgR tg (d, en)) kn kc kb = stK tg d en kn := by
  unfold asgR stK
  cases setTg tg d en <;> rfl
theorem obs_par (is : List Nat) (ds : List D) (en : En) : obs io (parR is (ds, en)) kn kc kb = smK is ds en kn := by
  unfold parR smK
  cases setMany is ds en <;> rfl
theorem obs_set (i : Nat) (d x : D) (en : En) : obs io (setR1 i d (x, en)) kn kc kb = ownK (ownAt en i) fun l => (setAt l x d).bind fun l' => kn (en.set i (.own l')) := by
  unfold setR1 setAt
  cases h : ownAt en i with
  | none => cases x <;> simp only [h] <;> rfl
  | some l =>
    cases x <;> simp only [h] <;> first | rfl | skip
    rename_i k
    show obs io (match ixN l.length k with
      | some j => O.nx (en.set i (.own (l.set j d)))
      | none => .bad) kn kc kb = (match ixN l.length k with
      | some j => R.ok (l.set j d)
      | none => .bad).bind _
    cases ixN l.length k <;> rfl
theorem obs_app (i : Nat) (d : D) (en : En) : obs io (appR i (d, en)) kn kc kb = ownK (ownAt en i) fun l => (appL l d).bind fun l' => kn (en.set i (.own l')) := by
  unfold appR appL
  cases h : ownAt en i with
  | none => simp only [h]; rfl
  | some l =>
    simp only [h]
    show obs io (if l.length < lineN then O.nx (en.set i (.own (l ++ [d]))) else .bad) kn kc kb = (if l.length < lineN then R.ok (l ++ [d]) else .bad).bind _
    by_cases z : l.length < lineN
    · rw [if_pos z, if_pos z]; rfl
    · rw [if_neg z, if_neg z]; rfl
theorem obs_pop (i : Nat) : obs io (exS T K io fr (n + 1) (.pop i) en) kn kc kb = ownK (ownAt en i) fun l => (popL l).bind fun l' => kn (en.set i (.own l')) := by
  rw [x_pop]
  unfold popL
  cases ownAt en i with
  | none => rfl
  | some l =>
    show obs io (if l = [] then .bad else .nx (en.set i (.own l.dropLast))) kn kc kb = (if l = [] then R.bad else .ok l.dropLast).bind _
    by_cases z : l = []
    · rw [if_pos z, if_pos z]; rfl
    · rw [if_neg z, if_neg z]; rfl
def remR (i : Nat) (p : D × En) : O := match ownAt p.2 i with
      | some l => (match remD l p.1 with
        | some l' => .nx (p.2.set i (.own l'))
        | none => .bad)
      | none => .bad
theorem x_rem (i : Nat) (e : E) : exS T K io fr (n + 1) (.rem i e) en = if (ownAt en i).isSome then (evE T n e en).o (remR i) else .bad := rfl
theorem obs_rem (i : Nat) (x : D) (en : En) : obs io (remR i (x, en)) kn kc kb = ownK (ownAt en i) fun l => (remL l x).bind fun l' => kn (en.set i (.own l')) := by
  unfold remR remL
  show obs io (match ownAt en i with
      | some l => (match remD l x with
        | some l' => O.nx (en.set i (.own l'))
        | none => .bad)
      | none => .bad) kn kc kb = _
  cases ownAt en i with
  | none => rfl
  | some l =>
    show obs io (match remD l x with
        | some l' => O.nx (en.set i (.own l'))
        | none => .bad) kn kc kb = (match remD l x with
        | some l' => R.ok l'
        | none => .bad).bind _
    cases remD l x <;> rfl
theorem x_expr (e : E) : exS T K io fr (n + 1) (.expr e) en = (evE T n e en).o fun p => .nx p.2 := rfl
def asgO (i : Nat) (p : D × En) : O := match p.1 with
      | .lst l => .nx (p.2.set i (.own l))
      | _ => .bad
def isIo (io : Option Nat) (i : Nat) : Bool := match io with
  | some j => j == i
  | none => false
theorem isIo_iff {io : Option Nat} {i : Nat} : (io = some i) ↔ isIo io i = true := by
  cases io with
  | none => exact ⟨(fun h => nomatch h), (fun h => nomatch h)⟩
  | some j => exact ⟨fun h => by cases h; exact beq_self_eq_true i, fun h => by rw [eq_of_beq (show (j == i) = true from h)]⟩
theorem y_asgO (i : Nat) (e : E) : exS T K io fr (n + 1) (.asgO i e) en = if isIo io i then .bad else (evE T n e en).o (asgO i) := by
  show (if io = some i then .bad else (evE T n e en).o fun p => match p.1 with
      | .lst l => .nx (p.2.set i (.own l))
      | _ => .bad) = _
  by_cases h : io = some i
  · rw [if_pos h, if_pos (isIo_iff.mp h)]
  · rw [if_neg h, if_neg (fun z => h (isIo_iff.mpr z))]; rfl
theorem obs_asgO (i : Nat) (d : D) (en : En) : obs io (asgO i (d, en)) kn kc kb = asL d fun l => kn (en.set i (.own l)) := by
  cases d <;> rfl
theorem y_frz (i : Nat) : exS T K io fr (n + 1) (.frz i) en = if isIo io i then .bad else match ownAt en i with
      | some l => .nx (en.set i (.val (.lst l)))
      | none => .bad := by
  show (if io = some i then O.bad else _) = _
  by_cases h : io = some i
  · rw [if_pos h, if_pos (isIo_iff.mp h)]
  · rw [if_neg h, if_neg (fun z => h (isIo_iff.mpr z))] <;> cases ownAt en i <;> rfl
theorem y_wip (vs : List Nat) : exS T K io fr (n + 1) (.wip vs) en = if ioIn io vs then .bad else .nx (wipeE en vs) := rfl
theorem y_retO (i : Nat) : exS T K io fr (n + 1) (.retO i) en = if isIo io i then .bad else match ownAt en i with
      | some l => .rt (.lst l) (if fr then en else en.set i (.val (.lst l)))
      | none => .bad := by
  show (if io = some i then O.bad else _) = _
  by_cases h : io = some i
  · rw [if_pos h, if_pos (isIo_iff.mp h)]
  · rw [if_neg h, if_neg (fun z => h (isIo_iff.mpr z))] <;> cases ownAt en i <;> rfl
def retF (p : D × En) : O := match p.1 with
      | .lst l => .rt (.lst l) p.2
      | _ => .bad
theorem y_retF (e : E) : exS T K io true (n + 1) (.retF e) en = (evE T n e en).o retF := rfl
theorem obs_retF (d : D) (en : En) : obs io (retF (d, en)) kn kc kb = asL d fun l => outOf io (.lst l) en := by
  cases d <;> rfl
theorem x_brk : exS T K io fr (n + 1) .brk en = .bk en := rfl
theorem x_cont : exS T K io fr (n + 1) .cont en = .ct en := rfl
theorem x_pass : exS T K io fr (n + 1) .pass en = .nx en := rfl
theorem obs_for (tg : Tg) (k : Ik) (b : En → O) (ls : List D) (en : En) : obs io (forR tg k b (ls, en)) kn kc kb = (itR k ls).bind fun ds => obs io (loopF tg b ds en) kn kc kb := by
  unfold forR itR
  show obs io (match items k ls with
      | some ds => loopF tg b ds en
      | none => .bad) kn kc kb = _
  cases items k ls <;> rfl
theorem obs_f0 (tg : Tg) (b : En → O) (en : En) : obs io (loopF tg b [] en) kn kc kb = kn en := rfl
theorem obs_f1 (tg : Tg) (b : En → O) (d : D) (ds : List D) (en : En) : obs io (loopF tg b (d :: ds) en) kn kc kb = stK tg d en fun en1 => obs io (b en1) (fun en => obs io (loopF tg b ds en) kn kc kb) (fun en => obs io (loopF tg b ds en) kn kc kb) kn := by
  show obs io (match setTg tg d en with
    | none => .bad
    | some en1 => (b en1).turn (loopF tg b ds)) kn kc kb = _
  unfold stK
  cases setTg tg d en with
  | none => rfl
  | some en1 => exact obs_turn _ _
theorem obs_w0 (t : En → R (D × En)) (b : En → O) (en : En) : obs io (loopW t b 0 en) kn kc kb = .bad := rfl
def whC (io : Option Nat) (t : En → R (D × En)) (b : En → O) (K : Nat) (kn kc kb : En → R XO) (p : D × En) : R XO := iteD p.1 (obs io (b p.2) (fun en => obs io (loopW t b K en) kn kc kb) (fun en => obs io (loopW t b K en) kn kc kb) kn) (kn p.2)
theorem obs_w1 (t : En → R (D × En)) (b : En → O) (K : Nat) (en : En) : obs io (loopW t b (K + 1) en) kn kc kb = (t en).bind (whC io t b K kn kc kb) := by
  show obs io ((t en).o fun p => match p.1 with
    | .bl true => (b p.2).turn (loopW t b K)
    | .bl false => .nx p.2
    | _ => .bad) kn kc kb = _
  cases t en with
  | bad => rfl
  | ex c l => rfl
  | ok p =>
    obtain ⟨d, en'⟩ := p
    cases d <;> first | rfl | skip
    rename_i z
    cases z with
    | false => rfl
    | true => exact obs_turn _ _
theorem y_and (k : En → R (D × En)) (x : D) (en : En) : andR k (x, en) = iteD x (k en) (.ok (.bl false, en)) := by
  cases x <;> first | rfl | (rename_i z; cases z <;> rfl)
theorem y_or (k : En → R (D × En)) (x : D) (en : En) : orR k (x, en) = iteD x (.ok (.bl true, en)) (k en) := by
  cases x <;> first | rfl | (rename_i z; cases z <;> rfl)
theorem y_ite (a b : En → R (D × En)) (x : D) (en : En) : iteR a b (x, en) = iteD x (a en) (b en) := by
  cases x <;> first | rfl | (rename_i z; cases z <;> rfl)
def chR (o p : Pr) (k : En → R (D × En)) (q : List D × En) : R (D × En) := match q.1 with
      | [x, y] => (prim o [x, y]).bind fun z => match z with
        | .bl true => (k q.2).bind fun r => (prim p [y, r.1]).bind fun d => .ok (d, r.2)
        | .bl false => .ok (.bl false, q.2)
        | _ => .bad
      | _ => .bad
theorem e_ch (o p : Pr) (a b c : E) : evE T (n + 1) (.ch o p a b c) en = (evList (evE T n) [a, b] en).bind (chR o p (evE T n c)) := rfl
theorem y_ch (o p : Pr) (k : En → R (D × En)) (x y : D) (en : En) : chR o p k ([x, y], en) = (prim o [x, y]).bind fun z => iteD z ((k en).bind fun r => (prim p [y, r.1]).bind fun d => .ok (d, r.2)) (.ok (.bl false, en)) := by
  show ((prim o [x, y]).bind fun z => match z with
        | .bl true => (k en).bind fun r => (prim p [y, r.1]).bind fun d => .ok (d, r.2)
        | .bl false => .ok (.bl false, en)
        | _ => .bad) = _
  refine congrArg (R.bind (prim o [x, y])) (funext fun z => ?_)
  cases z <;> first | rfl | (rename_i z; cases z <;> rfl)
theorem y_lc (elt : E) (tg : Tg) (k : Ik) (cond : Option E) (vs : List Nat) (ls : List D) (en : En) : lcR T n elt tg k cond vs (ls, en) = (itR k ls).bind fun ds => lcK (noOwn en vs) ds ((lcGo (lcC T n cond) (evE T n elt) tg vs ds (wipeE en vs)).bind fun r => .ok (.lst r.1, restE en vs r.2)) := by
  unfold lcR itR lcK
  show (match items k ls with
      | none => R.bad
      | some ds => if noOwn en vs && decide (ds.length ≤ lineN) then _ else .bad) = _
  cases items k ls <;> rfl
theorem y_lcb (elt : E) (tg : Tg) (i : Nat) (cond : Option E) (vs : List Nat) (en : En) : evE T (n + 1) (.lcb elt tg i cond vs) en = ownK (ownAt en i) fun l => lcK (noOwn en vs) l ((lcGo (lcC T n cond) (evE T n elt) tg vs l (wipeE (en.set i .no) vs)).bind fun r => .ok (.lst r.1, (restE (en.set i .no) vs r.2).set i (.own l))) := by
  have e : evE T (n + 1) (.lcb elt tg i cond vs) en = (match ownAt en i with
      | none => .bad
      | some l => if noOwn en vs && decide (l.length ≤ lineN) then
          (lcGo (lcC T n cond) (evE T n elt) tg vs l (wipeE (en.set i .no) vs)).bind fun r => .ok (.lst r.1, (restE (en.set i .no) vs r.2).set i (.own l))
        else .bad) := by cases cond <;> rfl
  rw [e]
  cases ownAt en i <;> rfl
theorem lc_0 (c e : En → R (D × En)) (tg : Tg) (vs : List Nat) (en : En) : lcGo c e tg vs [] en = .ok ([], en) := rfl
theorem lc_1 (c e : En → R (D × En)) (tg : Tg) (vs : List Nat) (d : D) (ds : List D) (en : En) : lcGo c e tg vs (d :: ds) en = stK tg d en fun en1 => (c en1).noex.bind fun p => iteD p.1 ((e p.2).noex.bind fun q => (lcGo c e tg vs ds (wipeE q.2 vs)).bind fun r => .ok (q.1 :: r.1, r.2)) (lcGo c e tg vs ds (wipeE p.2 vs)) := by
  show (match setTg tg d en with
    | none => R.bad
    | some en1 => (c en1).noex.bind fun p => match p.1 with
      | .bl true => (e p.2).noex.bind fun q => (lcGo c e tg vs ds (wipeE q.2 vs)).bind fun r => .ok (q.1 :: r.1, r.2)
      | .bl false => lcGo c e tg vs ds (wipeE p.2 vs)
      | _ => .bad) = _
  unfold stK
  cases setTg tg d en with
  | none => rfl
  | some en1 =>
    refine congrArg (R.bind (c en1).noex) (funext fun p => ?_)
    obtain ⟨d, en'⟩ := p
    cases d <;> first | rfl | (rename_i z; cases z <;> rfl)
theorem lcC_n (en : En) : lcC T n none en = .ok (.bl true, en) := rfl
theorem lcC_s (c : E) (en : En) : lcC T n (some c) en = evE T n c en := rfl
theorem nx_prim (p : Pr) (l : List D) : (prim p l).noex = prim p l := by
  cases h : prim p l with
  | ok d => rfl
  | bad => rfl
  | ex c m => exact absurd h (by
      have := prim_noex p l
      simp_all)
end
theorem dt0 : prim .tup [] = .ok (.tup []) := rfl
theorem dl0 : prim .lst [] = .ok (.lst []) := rfl
theorem dt1 (x0 : D) : prim .tup [x0] = .ok (.tup [x0]) := rfl
theorem dl1 (x0 : D) : prim .lst [x0] = .ok (.lst [x0]) := rfl
theorem dt2 (x0 x1 : D) : prim .tup [x0, x1] = .ok (.tup [x0, x1]) := rfl
theorem dl2 (x0 x1 : D) : prim .lst [x0, x1] = .ok (.lst [x0, x1]) := rfl
theorem dt3 (x0 x1 x2 : D) : prim .tup [x0, x1, x2] = .ok (.tup [x0, x1, x2]) := rfl
theorem dl3 (x0 x1 x2 : D) : prim .lst [x0, x1, x2] = .ok (.lst [x0, x1, x2]) := rfl
theorem dt4 (x0 x1 x2 x3 : D) : prim .tup [x0, x1, x2, x3] = .ok (.tup [x0, x1, x2, x3]) := rfl
theorem dl4 (x0 x1 x2 x3 : D) : prim .lst [x0, x1, x2, x3] = .ok (.lst [x0, x1, x2, x3]) := rfl
theorem dt5 (x0 x1 x2 x3 x4 : D) : prim .tup [x0, x1, x2, x3, x4] = .ok (.tup [x0, x1, x2, x3, x4]) := rfl
theorem dl5 (x0 x1 x2 x3 x4 : D) : prim .lst [x0, x1, x2, x3, x4] = .ok (.lst [x0, x1, x2, x3, x4]) := rfl
theorem dt6 (x0 x1 x2 x3 x4 x5 : D) : prim .tup [x0, x1, x2, x3, x4, x5] = .ok (.tup [x0, x1, x2, x3, x4, x5]) := rfl
theorem dl6 (x0 x1 x2 x3 x4 x5 : D) : prim .lst [x0, x1, x2, x3, x4, x5] = .ok (.lst [x0, x1, x2, x3, x4, x5]) := rfl
theorem dt7 (x0 x1 x2 x3 x4 x5 x6 : D) : prim .tup [x0, x1, x2, x3, x4, x5, x6] = .ok (.tup [x0, x1, x2, x3, x4, x5, x6]) := rfl
theorem dl7 (x0 x1 x2 x3 x4 x5 x6 : D) : prim .lst [x0, x1, x2, x3, x4, x5, x6] = .ok (.lst [x0, x1, x2, x3, x4, x5, x6]) := rfl
theorem dt8 (x0 x1 x2 x3 x4 x5 x6 x7 : D) : prim .tup [x0, x1, x2, x3, x4, x5, x6, x7] = .ok (.tup [x0, x1, x2, x3, x4, x5, x6, x7]) := rfl
theorem dl8 (x0 x1 x2 x3 x4 x5 x6 x7 : D) : prim .lst [x0, x1, x2, x3, x4, x5, x6, x7] = .ok (.lst [x0, x1, x2, x3, x4, x5, x6, x7]) := rfl
theorem dt9 (x0 x1 x2 x3 x4 x5 x6 x7 x8 : D) : prim .tup [x0, x1, x2, x3, x4, x5, x6, x7, x8] = .ok (.tup [x0, x1, x2, x3, x4, x5, x6, x7, x8]) := rfl
theorem dl9 (x0 x1 x2 x3 x4 x5 x6 x7 x8 : D) : prim .lst [x0, x1, x2, x3, x4, x5, x6, x7, x8] = .ok (.lst [x0, x1, x2, x3, x4, x5, x6, x7, x8]) := rfl
theorem dt10 (x0 x1 x2 x3 x4 x5 x6 x7 x8 x9 : D) : prim .tup [x0, x1, x2, x3, x4, x5, x6, x7, x8, x9] = .ok (.tup [x0, x1, x2, x3, x4, x5, x6, x7, x8, x9]) := rfl
theorem dl10 (x0 x1 x2 x3 x4 x5 x6 x7 x8 x9 : D) : prim .lst [x0, x1, x2, x3, x4, x5, x6, x7, x8, x9] = .ok (.lst [x0, x1, x2, x3, x4, x5, x6, x7, x8, x9]) := rfl
theorem dt11 (x0 x1 x2 x3 x4 x5 x6 x7 x8 x9 x10 : D) : prim .tup [x0, x1, x2, x3, x4, x5, x6, x7, x8, x9, x10] = .ok (.tup [x0, x1, x2, x3, x4, x5, x6, x7, x8, x9, x10]) := rfl
theorem dl11 (x0 x1 x2 x3 x4 x5 x6 x7 x8 x9 x10 : D) : prim .lst [x0, x1, x2, x3, x4, x5, x6, x7, x8, x9, x10] = .ok (.lst [x0, x1, x2, x3, x4, x5, x6, x7, x8, x9, x10]) := rfl
theorem dt12 (x0 x1 x2 x3 x4 x5 x6 x7 x8 x9 x10 x11 : D) : prim .tup [x0, x1, x2, x3, x4, x5, x6, x7, x8, x9, x10, x11] = .ok (.tup [x0, x1, x2, x3, x4, x5, x6, x7, x8, x9, x10, x11]) := rfl
theorem dl12 (x0 x1 x2 x3 x4 x5 x6 x7 x8 x9 x10 x11 : D) : prim .lst [x0, x1, x2, x3, x4, x5, x6, x7, x8, x9, x10, x11] = .ok (.lst [x0, x1, x2, x3, x4, x5, x6, x7, x8, x9, x10, x11]) := rfl
theorem isIo_n (i : Nat) : isIo none i = false := rfl
theorem isIo_s (i j : Nat) : isIo (some j) i = (j == i) := rfl
theorem ioIn_n (l : List Nat) : ioIn none l = false := rfl
theorem ioIn_s (i : Nat) (l : List Nat) : ioIn (some i) l = l.contains i := rfl
theorem wi_nil (en : En) : wipeE en [] = en := rfl
theorem wi_cons (en : En) (v : Nat) (vs : List Nat) : wipeE en (v :: vs) = (wipeE en vs).set v .no := rfl
theorem re_nil (en e : En) : restE en [] e = e := rfl
theorem re_cons (en e : En) (v : Nat) (vs : List Nat) : restE en (v :: vs) e = (restE en vs e).set v (en[v]?.getD .no) := rfl
def nwA (en : En) (v : Nat) : Bool := match en[v]? with
    | some (.own _) => false
    | _ => true
theorem no_nil (en : En) : noOwn en [] = true := rfl
theorem no_cons (en : En) (v : Nat) (vs : List Nat) : noOwn en (v :: vs) = (nwA en v && noOwn en vs) := rfl
theorem no_v (d : D) (en : En) : nwA (.val d :: en) 0 = true := rfl
theorem no_n (en : En) : nwA (.no :: en) 0 = true := rfl
theorem no_s (s : Slot) (en : En) (i : Nat) : nwA (s :: en) (i + 1) = nwA en i := by
  unfold nwA
  rw [List.getElem?_cons_succ]
theorem om_none {α β : Type} (f : α → β) : (none : Option α).map f = none := rfl
theorem ownK_n {α : Type} (f : List D → R α) : ownK none f = .bad := rfl
def P1 (T : Tab) (x : Str) (b : Bool) (f : D → R D) : Prop := T.has x = true ∧ T.fresh x = b ∧ ∀ a, T.call x [.val a] = (f a).bind fun r => .ok (r, none)
def P2 (T : Tab) (x : Str) (b : Bool) (f : D → D → R D) : Prop := T.has x = true ∧ T.fresh x = b ∧ ∀ a1 a2, T.call x [.val a1, .val a2] = (f a1 a2).bind fun r => .ok (r, none)
def P3 (T : Tab) (x : Str) (b : Bool) (f : D → D → D → R D) : Prop := T.has x = true ∧ T.fresh x = b ∧ ∀ a1 a2 a3, T.call x [.val a1, .val a2, .val a3] = (f a1 a2 a3).bind fun r => .ok (r, none)
def P4 (T : Tab) (x : Str) (b : Bool) (f : D → D → D → D → R D) : Prop := T.has x = true ∧ T.fresh x = b ∧ ∀ a1 a2 a3 a4, T.call x [.val a1, .val a2, .val a3, .val a4] = (f a1 a2 a3 a4).bind fun r => .ok (r, none)
def P5 (T : Tab) (x : Str) (b : Bool) (f : D → D → D → D → D → R D) : Prop := T.has x = true ∧ T.fresh x = b ∧ ∀ a1 a2 a3 a4 a5, T.call x [.val a1, .val a2, .val a3, .val a4, .val a5] = (f a1 a2 a3 a4 a5).bind fun r => .ok (r, none)
def I1 (T : Tab) (x : Str) (b : Bool) (f : List D → R (D × List D)) : Prop := T.has x = true ∧ T.fresh x = b ∧ ∀ c, T.call x [.own c] = (f c).bind fun r => .ok (r.1, some r.2)
def I2 (T : Tab) (x : Str) (b : Bool) (f : List D → D → R (D × List D)) : Prop := T.has x = true ∧ T.fresh x = b ∧ ∀ c a1, T.call x [.own c, .val a1] = (f c a1).bind fun r => .ok (r.1, some r.2)
def I3 (T : Tab) (x : Str) (b : Bool) (f : List D → D → D → R (D × List D)) : Prop := T.has x = true ∧ T.fresh x = b ∧ ∀ c a1 a2, T.call x [.own c, .val a1, .val a2] = (f c a1 a2).bind fun r => .ok (r.1, some r.2)
def I4 (T : Tab) (x : Str) (b : Bool) (f : List D → D → D → D → R (D × List D)) : Prop := T.has x = true ∧ T.fresh x = b ∧ ∀ c a1 a2 a3, T.call x [.own c, .val a1, .val a2, .val a3] = (f c a1 a2 a3).bind fun r => .ok (r.1, some r.2)
def I5 (T : Tab) (x : Str) (b : Bool) (f : List D → D → D → D → D → R (D × List D)) : Prop := T.has x = true ∧ T.fresh x = b ∧ ∀ c a1 a2 a3 a4, T.call x [.own c, .val a1, .val a2, .val a3, .val a4] = (f c a1 a2 a3 a4).bind fun r => .ok (r.1, some r.2)
theorem P1.mk {T : Tab} {d : Fd} {x : Str} {b : Bool} {f : D → R D} (hx : x = d.x) (hb : d.fr = b) (h : ∀ a0, runFd T big d [.val a0] = (f a0).bind fun r => .ok (r, none)) : P1 (T.add big d) x b f := ⟨if_pos hx, (if_pos hx).trans hb, fun a0 => (if_pos hx).trans (h a0)⟩
theorem P1.up {T : Tab} {d : Fd} {x : Str} {b : Bool} {f : D → R D} (h : P1 T x b f) (hx : x ≠ d.x) : P1 (T.add big d) x b f := ⟨(if_neg hx).trans h.1, (if_neg hx).trans h.2.1, fun a0 => (if_neg hx).trans (h.2.2 a0)⟩
theorem I1.mk {T : Tab} {d : Fd} {x : Str} {b : Bool} {f : List D → R (D × List D)} (hx : x = d.x) (hb : d.fr = b) (h : ∀ c, runFd T big d [.own c] = (f c).bind fun r => .ok (r.1, some r.2)) : I1 (T.add big d) x b f := ⟨if_pos hx, (if_pos hx).trans hb, fun c => (if_pos hx).trans (h c)⟩
theorem I1.up {T : Tab} {d : Fd} {x : Str} {b : Bool} {f : List D → R (D × List D)} (h : I1 T x b f) (hx : x ≠ d.x) : I1 (T.add big d) x b f := ⟨(if_neg hx).trans h.1, (if_neg hx).trans h.2.1, fun c => (if_neg hx).trans (h.2.2 c)⟩
theorem P2.mk {T : Tab} {d : Fd} {x : Str} {b : Bool} {f : D → D → R D} (hx : x = d.x) (hb : d.fr = b) (h : ∀ a0 a1, runFd T big d [.val a0, .val a1] = (f a0 a1).bind fun r => .ok (r, none)) : P2 (T.add big d) x b f := ⟨if_pos hx, (if_pos hx).trans hb, fun a0 a1 => (if_pos hx).trans (h a0 a1)⟩
theorem P2.up {T : Tab} {d : Fd} {x : Str} {b : Bool} {f : D → D → R D} (h : P2 T x b f) (hx : x ≠ d.x) : P2 (T.add big d) x b f := ⟨(if_neg hx).trans h.1, (if_neg hx).trans h.2.1, fun a0 a1 => (if_neg hx).trans (h.2.2 a0 a1)⟩
theorem I2.mk {T : Tab} {d : Fd} {x : Str} {b : Bool} {f : List D → D → R (D × List D)} (hx : x = d.x) (hb : d.fr = b) (h : ∀ c a1, runFd T big d [.own c, .val a1] = (f c a1).bind fun r => .ok (r.1, some r.2)) : I2 (T.add big d) x b f := ⟨if_pos hx, (if_pos hx).trans hb, fun c a1 => (if_pos hx).trans (h c a1)⟩
theorem I2.up {T : Tab} {d : Fd} {x : Str} {b : Bool} {f : List D → D → R (D × List D)} (h : I2 T x b f) (hx : x ≠ d.x) : I2 (T.add big d) x b f := ⟨(if_neg hx).trans h.1, (if_neg hx).trans h.2.1, fun c a1 => (if_neg hx).trans (h.2.2 c a1)⟩
theorem P3.mk {T : Tab} {d : Fd} {x : Str} {b : Bool} {f : D → D → D → R D} (hx : x = d.x) (hb : d.fr = b) (h : ∀ a0 a1 a2, runFd T big d [.val a0, .val a1, .val a2] = (f a0 a1 a2).bind fun r => .ok (r, none)) : P3 (T.add big d) x b f := ⟨if_pos hx, (if_pos hx).trans hb, fun a0 a1 a2 => (if_pos hx).trans (h a0 a1 a2)⟩
theorem P3.up {T : Tab} {d : Fd} {x : Str} {b : Bool} {f : D → D → D → R D} (h : P3 T x b f) (hx : x ≠ d.x) : P3 (T.add big d) x b f := ⟨(if_neg hx).trans h.1, (if_neg hx).trans h.2.1, fun a0 a1 a2 => (if_neg hx).trans (h.2.2 a0 a1 a2)⟩
theorem I3.mk {T : Tab} {d : Fd} {x : Str} {b : Bool} {f : List D → D → D → R (D × List D)} (hx : x = d.x) (hb : d.fr = b) (h : ∀ c a1 a2, runFd T big d [.own c, .val a1, .val a2] = (f c a1 a2).bind fun r => .ok (r.1, some r.2)) : I3 (T.add big d) x b f := ⟨if_pos hx, (if_pos hx).trans hb, fun c a1 a2 => (if_pos hx).trans (h c a1 a2)⟩
theorem I3.up {T : Tab} {d : Fd} {x : Str} {b : Bool} {f : List D → D → D → R (D × List D)} (h : I3 T x b f) (hx : x ≠ d.x) : I3 (T.add big d) x b f := ⟨(if_neg hx).trans h.1, (if_neg hx).trans h.2.1, fun c a1 a2 => (if_neg hx).trans (h.2.2 c a1 a2)⟩
theorem P4.mk {T : Tab} {d : Fd} {x : Str} {b : Bool} {f : D → D → D → D → R D} (hx : x = d.x) (hb : d.fr = b) (h : ∀ a0 a1 a2 a3, runFd T big d [.val a0, .val a1, .val a2, .val a3] = (f a0 a1 a2 a3).bind fun r => .ok (r, none)) : P4 (T.add big d) x b f := ⟨if_pos hx, (if_pos hx).trans hb, fun a0 a1 a2 a3 => (if_pos hx).trans (h a0 a1 a2 a3)⟩
theorem P4.up {T : Tab} {d : Fd} {x : Str} {b : Bool} {f : D → D → D → D → R D} (h : P4 T x b f) (hx : x ≠ d.x) : P4 (T.add big d) x b f := ⟨(if_neg hx).trans h.1, (if_neg hx).trans h.2.1, fun a0 a1 a2 a3 => (if_neg hx).trans (h.2.2 a0 a1 a2 a3)⟩
theorem I4.mk {T : Tab} {d : Fd} {x : Str} {b : Bool} {f : List D → D → D → D → R (D × List D)} (hx : x = d.x) (hb : d.fr = b) (h : ∀ c a1 a2 a3, runFd T big d [.own c, .val a1, .val a2, .val a3] = (f c a1 a2 a3).bind fun r => .ok (r.1, some r.2)) : I4 (T.add big d) x b f := ⟨if_pos hx, (if_pos hx).trans hb, fun c a1 a2 a3 => (if_pos hx).trans (h c a1 a2 a3)⟩
theorem I4.up {T : Tab} {d : Fd} {x : Str} {b : Bool} {f : List D → D → D → D → R (D × List D)} (h : I4 T x b f) (hx : x ≠ d.x) : I4 (T.add big d) x b f := ⟨(if_neg hx).trans h.1, (if_neg hx).trans h.2.1, fun c a1 a2 a3 => (if_neg hx).trans (h.2.2 c a1 a2 a3)⟩
theorem P5.mk {T : Tab} {d : Fd} {x : Str} {b : Bool} {f : D → D → D → D → D → R D} (hx : x = d.x) (hb : d.fr = b) (h : ∀ a0 a1 a2 a3 a4, runFd T big d [.val a0, .val a1, .val a2, .val a3, .val a4] = (f a0 a1 a2 a3 a4).bind fun r => .ok (r, none)) : P5 (T.add big d) x b f := ⟨if_pos hx, (if_pos hx).trans hb, fun a0 a1 a2 a3 a4 => (if_pos hx).trans (h a0 a1 a2 a3 a4)⟩
theorem P5.up {T : Tab} {d : Fd} {x : Str} {b : Bool} {f : D → D → D → D → D → R D} (h : P5 T x b f) (hx : x ≠ d.x) : P5 (T.add big d) x b f := ⟨(if_neg hx).trans h.1, (if_neg hx).trans h.2.1, fun a0 a1 a2 a3 a4 => (if_neg hx).trans (h.2.2 a0 a1 a2 a3 a4)⟩
theorem I5.mk {T : Tab} {d : Fd} {x : Str} {b : Bool} {f : List D → D → D → D → D → R (D × List D)} (hx : x = d.x) (hb : d.fr = b) (h : ∀ c a1 a2 a3 a4, runFd T big d [.own c, .val a1, .val a2, .val a3, .val a4] = (f c a1 a2 a3 a4).bind fun r => .ok (r.1, some r.2)) : I5 (T.add big d) x b f := ⟨if_pos hx, (if_pos hx).trans hb, fun c a1 a2 a3 a4 => (if_pos hx).trans (h c a1 a2 a3 a4)⟩
theorem I5.up {T : Tab} {d : Fd} {x : Str} {b : Bool} {f : List D → D → D → D → D → R (D × List D)} (h : I5 T x b f) (hx : x ≠ d.x) : I5 (T.add big d) x b f := ⟨(if_neg hx).trans h.1, (if_neg hx).trans h.2.1, fun c a1 a2 a3 a4 => (if_neg hx).trans (h.2.2 c a1 a2 a3 a4)⟩
noncomputable def addL (T : Tab) : List Fd → Tab
  | [] => T
  | d :: ds => addL (T.add big d) ds
def nmOk (x : Str) (ds : List Fd) : Bool := ds.all fun d => !decide (x = d.x)
theorem P1.upL {x : Str} {b : Bool} {f : D → R D} : ∀ {ds : List Fd} {T : Tab}, P1 T x b f → nmOk x ds = true → P1 (addL T ds) x b f
  | [], _, h, _ => h
  | d :: ds, T, h, e => by
    have e : (!decide (x = d.x) && nmOk x ds) = true := e
    obtain ⟨e1, e2⟩ := and2 e
    exact P1.upL (ds := ds) (h.up fun z => by rw [decide_eq_true z] at e1; cases e1) e2
theorem I1.upL {x : Str} {b : Bool} {f : List D → R (D × List D)} : ∀ {ds : List Fd} {T : Tab}, I1 T x b f → nmOk x ds = true → I1 (addL T ds) x b f
  | [], _, h, _ => h
  | d :: ds, T, h, e => by
    have e : (!decide (x = d.x) && nmOk x ds) = true := e
    obtain ⟨e1, e2⟩ := and2 e
    exact I1.upL (ds := ds) (h.up fun z => by rw [decide_eq_true z] at e1; cases e1) e2
theorem P2.upL {x : Str} {b : Bool} {f : D → D → R D} : ∀ {ds : List Fd} {T : Tab}, P2 T x b f → nmOk x ds = true → P2 (addL T ds) x b f
  | [], _, h, _ => h
  | d :: ds, T, h, e => by
    have e : (!decide (x = d.x) && nmOk x ds) = true := e
    obtain ⟨e1, e2⟩ := and2 e
    exact P2.upL (ds := ds) (h.up fun z => by rw [decide_eq_true z] at e1; cases e1) e2
theorem I2.upL {x : Str} {b : Bool} {f : List D → D → R (D × List D)} : ∀ {ds : List Fd} {T : Tab}, I2 T x b f → nmOk x ds = true → I2 (addL T ds) x b f
  | [], _, h, _ => h
  | d :: ds, T, h, e => by
    have e : (!decide (x = d.x) && nmOk x ds) = true := e
    obtain ⟨e1, e2⟩ := and2 e
    exact I2.upL (ds := ds) (h.up fun z => by rw [decide_eq_true z] at e1; cases e1) e2
theorem P3.upL {x : Str} {b : Bool} {f : D → D → D → R D} : ∀ {ds : List Fd} {T : Tab}, P3 T x b f → nmOk x ds = true → P3 (addL T ds) x b f
  | [], _, h, _ => h
  | d :: ds, T, h, e => by
    have e : (!decide (x = d.x) && nmOk x ds) = true := e
    obtain ⟨e1, e2⟩ := and2 e
    exact P3.upL (ds := ds) (h.up fun z => by rw [decide_eq_true z] at e1; cases e1) e2
theorem I3.upL {x : Str} {b : Bool} {f : List D → D → D → R (D × List D)} : ∀ {ds : List Fd} {T : Tab}, I3 T x b f → nmOk x ds = true → I3 (addL T ds) x b f
  | [], _, h, _ => h
  | d :: ds, T, h, e => by
    have e : (!decide (x = d.x) && nmOk x ds) = true := e
    obtain ⟨e1, e2⟩ := and2 e
    exact I3.upL (ds := ds) (h.up fun z => by rw [decide_eq_true z] at e1; cases e1) e2
theorem P4.upL {x : Str} {b : Bool} {f : D → D → D → D → R D} : ∀ {ds : List Fd} {T : Tab}, P4 T x b f → nmOk x ds = true → P4 (addL T ds) x b f
  | [], _, h, _ => h
  | d :: ds, T, h, e => by
    have e : (!decide (x = d.x) && nmOk x ds) = true := e
    obtain ⟨e1, e2⟩ := and2 e
    exact P4.upL (ds := ds) (h.up fun z => by rw [decide_eq_true z] at e1; cases e1) e2
theorem I4.upL {x : Str} {b : Bool} {f : List D → D → D → D → R (D × List D)} : ∀ {ds : List Fd} {T : Tab}, I4 T x b f → nmOk x ds = true → I4 (addL T ds) x b f
  | [], _, h, _ => h
  | d :: ds, T, h, e => by
    have e : (!decide (x = d.x) && nmOk x ds) = true := e
    obtain ⟨e1, e2⟩ := and2 e
    exact I4.upL (ds := ds) (h.up fun z => by rw [decide_eq_true z] at e1; cases e1) e2
theorem P5.upL {x : Str} {b : Bool} {f : D → D → D → D → D → R D} : ∀ {ds : List Fd} {T : Tab}, P5 T x b f → nmOk x ds = true → P5 (addL T ds) x b f
  | [], _, h, _ => h
  | d :: ds, T, h, e => by
    have e : (!decide (x = d.x) && nmOk x ds) = true := e
    obtain ⟨e1, e2⟩ := and2 e
    exact P5.upL (ds := ds) (h.up fun z => by rw [decide_eq_true z] at e1; cases e1) e2
theorem I5.upL {x : Str} {b : Bool} {f : List D → D → D → D → D → R (D × List D)} : ∀ {ds : List Fd} {T : Tab}, I5 T x b f → nmOk x ds = true → I5 (addL T ds) x b f
  | [], _, h, _ => h
  | d :: ds, T, h, e => by
    have e : (!decide (x = d.x) && nmOk x ds) = true := e
    obtain ⟨e1, e2⟩ := and2 e
    exact I5.upL (ds := ds) (h.up fun z => by rw [decide_eq_true z] at e1; cases e1) e2
section
variable {T : Tab} {x : Str} {b : Bool} {dl : List D} {as : List AV} {en : En}
def callQ (T : Tab) (f : Str) (as : List AV) (en : En) (r : D × Option (List D)) : R (D × En) := if safeB (T.fresh f) en as r then (putBack as r.2 en).bind fun en2 => .ok (r.1, en2) else .bad
def resK (o : Option (List Slot)) (f : List Slot → R (D × En)) : R (D × En) := match o with
  | some l => f l
  | none => .bad
theorem resK_n (f : List Slot → R (D × En)) : resK none f = .bad := rfl
theorem resK_s (l : List Slot) (f : List Slot → R (D × En)) : resK (some l) f = f l := rfl
theorem y_call (f : Str) : callR T f dl (as, en) = if ioFine as then resK (resolve en as) fun ss => (T.call f (ss ++ dl.map Slot.val)).bind (callQ T f as en) else .bad := by
  show (if ioFine as then (match resolve en as with
      | none => R.bad
      | some ss => (T.call f (ss ++ dl.map Slot.val)).bind _) else .bad) = _
  cases resolve en as <;> rfl
theorem y_callF (f : Str) (hf : ioFine as = true) : callR T f dl (as, en) = resK (resolve en as) fun ss => (T.call f (ss ++ dl.map Slot.val)).bind (callQ T f as en) := by rw [y_call, hf, if_pos rfl]
theorem q_pure (f : Str) (d : D) (h1 : hasB as = false) (h2 : ioOf as = none) : callQ T f as en (d, none) = .ok (d, en) := by
  unfold callQ safeB putBack
  rw [h1, h2]
  rfl
theorem q_io (f : Str) (d : D) (l : List D) {i : Nat} (h1 : hasB as = false) (h2 : ioOf as = some i) : callQ T f as en (d, some l) = .ok (d, en.set i (.own l)) := by
  unfold callQ safeB putBack
  rw [h1, h2]
  rfl
end
end Vm
end
section
set_option Elab.async false
set_option linter.all false
set_option maxRecDepth 100000
namespace Vm
open PySem PySem.Spec L2
section
variable {α β γ : Type}
inductive TryV (α : Type) where
  | v (a : α) | x (c : Str) (l : List D)
def TryV.el (t : TryV α) (f : α → R β) (g : Str → List D → R β) : R β := match t with
  | .v a => f a
  | .x c l => g c l
end
section
variable {T : Tab} {n K : Nat} {io : Option Nat} {fr : Bool} {en : En} {kn kc kb : En → R XO}
end
end Vm
end
section
set_option Elab.async false
set_option linter.all false
set_option maxRecDepth 100000
set_option maxHeartbeats 0
namespace Vm
open PySem PySem.Spec L2
noncomputable section
def f_law_ratio_l1  : Nat → D → D → R (D × D)
  | 0, _, _ => .bad
  | K + 1, w2, w3 =>
    (prim .ne [w3, (.int 0)]).bind fun x1 =>
    iteD x1 (
    (prim .mod [w2, w3]).bind fun x2 =>
    f_law_ratio_l1 K w3 x2) (
    .ok (w2, w3))
def f_law_ratio (a0 : D) (a1 : D) : R D :=
    (prim .abs [a0]).bind fun x1 =>
    (prim .abs [a1]).bind fun x2 =>
    (f_law_ratio_l1 big x1 x2).bind fun r3 =>
    (prim .lt [a1, (.int 0)]).bind fun x4 =>
    iteD x4 (
    (prim .sub [(.int 0), r3.1]).bind fun x5 =>
    (prim .fdiv [a0, x5]).bind fun x6 =>
    (prim .fdiv [a1, x5]).bind fun x7 =>
    .ok (.tup [x6, x7])) (
    (prim .fdiv [a0, r3.1]).bind fun x8 =>
    (prim .fdiv [a1, r3.1]).bind fun x9 =>
    .ok (.tup [x8, x9]))
def f_law_plus (a0 : D) (a1 : D) : R D :=
    (prim .ix [a0, (.int 0)]).bind fun x1 =>
    (prim .ix [a1, (.int 1)]).bind fun x2 =>
    (prim .mul [x1, x2]).bind fun x3 =>
    (prim .ix [a1, (.int 0)]).bind fun x4 =>
    (prim .ix [a0, (.int 1)]).bind fun x5 =>
    (prim .mul [x4, x5]).bind fun x6 =>
    (prim .add [x3, x6]).bind fun x7 =>
    (prim .ix [a0, (.int 1)]).bind fun x8 =>
    (prim .ix [a1, (.int 1)]).bind fun x9 =>
    (prim .mul [x8, x9]).bind fun x10 =>
    (f_law_ratio x7 x10).bind fun r11 =>
    .ok r11
def f_law_product_of (a0 : D) (a1 : D) : R D :=
    (prim .ix [a0, (.int 0)]).bind fun x1 =>
    (prim .ix [a1, (.int 0)]).bind fun x2 =>
    (prim .mul [x1, x2]).bind fun x3 =>
    (prim .ix [a0, (.int 1)]).bind fun x4 =>
    (prim .ix [a1, (.int 1)]).bind fun x5 =>
    (prim .mul [x4, x5]).bind fun x6 =>
    (f_law_ratio x3 x6).bind fun r7 =>
    .ok r7
def f_law_mixed_rows_c1 (v2 : D) : List D → R (List D)
  | [] => .ok []
  | d :: ds =>
    un2 d fun u1 u2 =>
    (R.noex (f_law_product_of v2 u2)).bind fun r3 =>
    (R.noex (f_law_plus u1 r3)).bind fun r4 =>
    (f_law_mixed_rows_c1 v2 ds).bind fun r =>
    .ok (r4 :: r)
def f_law_mixed_rows (a0 : D) (a1 : D) (a2 : D) : R D :=
    (itR .zip [a0, a1]).bind fun ds1 =>
    lcK true ds1 (
    (f_law_mixed_rows_c1 a2 ds1).bind fun r2 =>
    (prim .tuple [(.lst r2)]).bind fun x3 =>
    .ok x3)
def f_law_over (a0 : D) (a1 : D) : R D :=
    (prim .ix [a0, (.int 0)]).bind fun x1 =>
    (prim .ix [a1, (.int 1)]).bind fun x2 =>
    (prim .mul [x1, x2]).bind fun x3 =>
    (prim .ix [a0, (.int 1)]).bind fun x4 =>
    (prim .ix [a1, (.int 0)]).bind fun x5 =>
    (prim .mul [x4, x5]).bind fun x6 =>
    (f_law_ratio x3 x6).bind fun r7 =>
    .ok r7
def f_law_solved_c2 (v5 : D) : List D → R (List D)
  | [] => .ok []
  | d :: ds =>
    (prim .ix [d, v5]).bind fun x1 =>
    (prim .ne [x1, (.tup [(.int 0), (.int 1)])]).bind fun x2 =>
    iteD x2 (
    (f_law_solved_c2 v5 ds).bind fun r =>
    .ok (d :: r)) (
    f_law_solved_c2 v5 ds)
def f_law_solved_c3 (v2 : D) (v5 : D) : List D → R (List D)
  | [] => .ok []
  | d :: ds =>
    (prim .ix [v2, (.int 0)]).bind fun x1 =>
    (prim .ix [x1, v5]).bind fun x2 =>
    (R.noex (f_law_over d x2)).bind fun r3 =>
    (f_law_solved_c3 v2 v5 ds).bind fun r =>
    .ok (r3 :: r)
def f_law_solved_c4 (v3 : D) (v5 : D) : List D → R (List D)
  | [] => .ok []
  | d :: ds =>
    (prim .ix [d, v5]).bind fun x1 =>
    (prim .ix [x1, (.int 0)]).bind fun x2 =>
    (prim .sub [(.int 0), x2]).bind fun x3 =>
    (prim .ix [d, v5]).bind fun x4 =>
    (prim .ix [x4, (.int 1)]).bind fun x5 =>
    (R.noex (f_law_mixed_rows d v3 (.tup [x3, x5]))).bind fun r6 =>
    (f_law_solved_c4 v3 v5 ds).bind fun r =>
    .ok (r6 :: r)
def f_law_solved_c5 (v3 : D) (v5 : D) : List D → R (List D)
  | [] => .ok []
  | d :: ds =>
    (prim .ix [d, v5]).bind fun x1 =>
    (prim .ix [x1, (.int 0)]).bind fun x2 =>
    (prim .sub [(.int 0), x2]).bind fun x3 =>
    (prim .ix [d, v5]).bind fun x4 =>
    (prim .ix [x4, (.int 1)]).bind fun x5 =>
    (R.noex (f_law_mixed_rows d v3 (.tup [x3, x5]))).bind fun r6 =>
    (f_law_solved_c5 v3 v5 ds).bind fun r =>
    .ok (r6 :: r)
def f_law_solved_l1  : List D → D → List D → R (D × List D)
  | [], w1, w7 => .ok (w1, w7)
  | d :: ds, w1, w7 =>
    lcK true w7 (
    (f_law_solved_c2 d w7).bind fun r1 =>
    (prim .ne [(.lst r1), (.lst [])]).bind fun x2 =>
    iteD x2 (
    (prim .ix [(.lst r1), (.int 0)]).bind fun x3 =>
    (itR .seq [x3]).bind fun ds4 =>
    lcK true ds4 (
    (f_law_solved_c3 (.lst r1) d ds4).bind fun r5 =>
    (prim .tuple [(.lst r5)]).bind fun x6 =>
    (prim .ix [(.lst r1), (.int 0)]).bind fun x7 =>
    (remL w7 x7).bind fun l8 =>
    lcK true l8 (
    (f_law_solved_c4 x6 d l8).bind fun r9 =>
    (itR .seq [w1]).bind fun ds10 =>
    lcK true ds10 (
    (f_law_solved_c5 x6 d ds10).bind fun r11 =>
    (prim .add [(.lst r11), (.lst [x6])]).bind fun x12 =>
    f_law_solved_l1 ds x12 r9)))) (
    f_law_solved_l1 ds w1 w7))
def c_negative : List S := [
  .ret (.pr .tup [.pr .neg [.pr .ix [.v 0, .c (.int 0)]], .pr .ix [.v 0, .c (.int 1)]])]
def d_negative : Fd := ⟨"negative", 1, 1, none, false, 40, c_negative, []⟩
def f_negative (a0 : D) : R D :=
    (prim .ix [a0, (.int 0)]).bind fun x1 =>
    (prim .neg [x1]).bind fun x2 =>
    (prim .ix [a0, (.int 1)]).bind fun x3 =>
    .ok (.tup [x2, x3])
def b_common_divisor_1 : List S := [.par [0, 1] [.v 1, .pr .mod [.v 0, .v 1]]]
def c_common_divisor : List S := [
  .whl (.pr .ne [.v 1, .c (.int 0)]) b_common_divisor_1, 
  .ret (.pr .abs [.v 0])]
def d_common_divisor : Fd := ⟨"common_divisor", 2, 2, none, false, 40, c_common_divisor, []⟩
def f_common_divisor_l1  : Nat → D → D → R (D × D)
  | 0, _, _ => .bad
  | K + 1, w0, w1 =>
    (prim .ne [w1, (.int 0)]).bind fun x1 =>
    iteD x1 (
    (prim .mod [w0, w1]).bind fun x2 =>
    f_common_divisor_l1 K w1 x2) (
    .ok (w0, w1))
def f_common_divisor (a0 : D) (a1 : D) : R D :=
    (f_common_divisor_l1 big a0 a1).bind fun r1 =>
    (prim .abs [r1.1]).bind fun x2 =>
    .ok x2
def c_fraction : List S := [
  .ite (.pr .eq [.v 1, .c (.int 0)]) [.stop] [], 
  .asg (.n 2) (.call "common_divisor" [.v 0, .v 1] []), 
  .asg (.n 3) (.ite (.pr .lt [.v 1, .c (.int 0)]) (.pr .neg [.c (.int 1)]) (.c (.int 1))), 
  .ret (.pr .tup [.pr .fdiv [.pr .mul [.v 3, .v 0], .v 2], .pr .fdiv [.pr .mul [.v 3, .v 1], .v 2]])]
def d_fraction : Fd := ⟨"fraction", 2, 4, none, false, 40, c_fraction, [.int 1]⟩
def f_fraction (a0 : D) (a1 : D) : R D :=
    (prim .eq [a1, (.int 0)]).bind fun x1 =>
    iteD x1 (
    .bad) (
    (f_common_divisor a0 a1).bind fun r2 =>
    (prim .lt [a1, (.int 0)]).bind fun x3 =>
    iteD x3 (
    (prim .neg [(.int 1)]).bind fun x4 =>
    (prim .mul [x4, a0]).bind fun x5 =>
    (prim .fdiv [x5, r2]).bind fun x6 =>
    (prim .mul [x4, a1]).bind fun x7 =>
    (prim .fdiv [x7, r2]).bind fun x8 =>
    .ok (.tup [x6, x8])) (
    (prim .mul [(.int 1), a0]).bind fun x9 =>
    (prim .fdiv [x9, r2]).bind fun x10 =>
    (prim .mul [(.int 1), a1]).bind fun x11 =>
    (prim .fdiv [x11, r2]).bind fun x12 =>
    .ok (.tup [x10, x12])))
def c_add : List S := [
  .ret (.call "fraction" [.pr .add [.pr .mul [.pr .ix [.v 0, .c (.int 0)], .pr .ix [.v 1, .c (.int 1)]], .pr .mul [.pr .ix [.v 1, .c (.int 0)], .pr .ix [.v 0, .c (.int 1)]]], .pr .mul [.pr .ix [.v 0, .c (.int 1)], .pr .ix [.v 1, .c (.int 1)]]] [])]
def d_add : Fd := ⟨"add", 2, 2, none, false, 40, c_add, []⟩
def f_add (a0 : D) (a1 : D) : R D :=
    (prim .ix [a0, (.int 0)]).bind fun x1 =>
    (prim .ix [a1, (.int 1)]).bind fun x2 =>
    (prim .mul [x1, x2]).bind fun x3 =>
    (prim .ix [a1, (.int 0)]).bind fun x4 =>
    (prim .ix [a0, (.int 1)]).bind fun x5 =>
    (prim .mul [x4, x5]).bind fun x6 =>
    (prim .add [x3, x6]).bind fun x7 =>
    (prim .ix [a0, (.int 1)]).bind fun x8 =>
    (prim .ix [a1, (.int 1)]).bind fun x9 =>
    (prim .mul [x8, x9]).bind fun x10 =>
    (f_fraction x7 x10).bind fun r11 =>
    .ok r11
def c_multiply : List S := [
  .ret (.call "fraction" [.pr .mul [.pr .ix [.v 0, .c (.int 0)], .pr .ix [.v 1, .c (.int 0)]], .pr .mul [.pr .ix [.v 0, .c (.int 1)], .pr .ix [.v 1, .c (.int 1)]]] [])]
def d_multiply : Fd := ⟨"multiply", 2, 2, none, false, 40, c_multiply, []⟩
def f_multiply (a0 : D) (a1 : D) : R D :=
    (prim .ix [a0, (.int 0)]).bind fun x1 =>
    (prim .ix [a1, (.int 0)]).bind fun x2 =>
    (prim .mul [x1, x2]).bind fun x3 =>
    (prim .ix [a0, (.int 1)]).bind fun x4 =>
    (prim .ix [a1, (.int 1)]).bind fun x5 =>
    (prim .mul [x4, x5]).bind fun x6 =>
    (f_fraction x3 x6).bind fun r7 =>
    .ok r7
def c_subtract : List S := [
  .ret (.call "add" [.v 0, .call "negative" [.v 1] []] [])]
def d_subtract : Fd := ⟨"subtract", 2, 2, none, false, 40, c_subtract, []⟩
def f_subtract (a0 : D) (a1 : D) : R D :=
    (f_negative a1).bind fun r1 =>
    (f_add a0 r1).bind fun r2 =>
    .ok r2
end
end Vm
end
section
set_option Elab.async false
set_option linter.all false
set_option maxRecDepth 100000
set_option maxHeartbeats 0
namespace Vm
open PySem PySem.Spec L2
noncomputable section
end
end Vm
end
section
set_option Elab.async false
set_option linter.all false
set_option maxRecDepth 100000
set_option maxHeartbeats 0
namespace Vm
open PySem PySem.Spec L2
noncomputable section
def c_divide : List S := [
  .ret (.call "fraction" [.pr .mul [.pr .ix [.v 0, .c (.int 0)], .pr .ix [.v 1, .c (.int 1)]], .pr .mul [.pr .ix [.v 0, .c (.int 1)], .pr .ix [.v 1, .c (.int 0)]]] [])]
def d_divide : Fd := ⟨"divide", 2, 2, none, false, 40, c_divide, []⟩
def f_divide (a0 : D) (a1 : D) : R D :=
    (prim .ix [a0, (.int 0)]).bind fun x1 =>
    (prim .ix [a1, (.int 1)]).bind fun x2 =>
    (prim .mul [x1, x2]).bind fun x3 =>
    (prim .ix [a0, (.int 1)]).bind fun x4 =>
    (prim .ix [a1, (.int 0)]).bind fun x5 =>
    (prim .mul [x4, x5]).bind fun x6 =>
    (f_fraction x3 x6).bind fun r7 =>
    .ok r7
end
end Vm
end
section
set_option Elab.async false
set_option linter.all false
set_option maxRecDepth 100000
set_option maxHeartbeats 0
namespace Vm
open PySem PySem.Spec L2
noncomputable section
end
end Vm
end
section
set_option Elab.async false
set_option linter.all false
set_option maxRecDepth 100000
set_option maxHeartbeats 0
namespace Vm
open PySem PySem.Spec L2
noncomputable section
end
end Vm
end
section
set_option Elab.async false
set_option linter.all false
set_option maxRecDepth 100000
set_option maxHeartbeats 0
namespace Vm
open PySem PySem.Spec L2
noncomputable section
end
end Vm
end
section
set_option Elab.async false
set_option linter.all false
set_option maxRecDepth 100000
set_option maxHeartbeats 0
namespace Vm
open PySem PySem.Spec L2
noncomputable section
def b_law_supply_1 : List S := [.setI 3 (.pr .mod [.v 1, .c (.int 18)]) (.pr .add [.pr .ix [.bw 3, .pr .mod [.v 1, .c (.int 18)]], .pr .abs [.v 2]]), .wip [1, 2]]
def c_law_supply : List S := [
  .asgO 3 (.lc (.pr .abs [.v 2]) (.n 2) .seq [.pr .slA [.v 0, .c (.int 18)]] none [2]), 
  .for_ (.t [1, 2]) .enum [.pr .slC [.v 0, .c (.int 18), .c (.int 63)]] b_law_supply_1, 
  .frz 3, 
  .retF (.pr .lst [.v 3, .c (.int 0), .c (.int 0)])]
def d_law_supply : Fd := ⟨"_law_supply", 1, 4, none, true, 40, c_law_supply, []⟩
def f_law_supply_c1  : List D → R (List D)
  | [] => .ok []
  | d :: ds =>
    (prim .abs [d]).bind fun x1 =>
    (f_law_supply_c1 ds).bind fun r =>
    .ok (x1 :: r)
def f_law_supply_l1  : List D → List D → R (List D)
  | [], w3 => .ok w3
  | d :: ds, w3 =>
    un2 d fun u1 u2 =>
    (prim .mod [u1, (.int 18)]).bind fun x3 =>
    (prim .ix [(.lst w3), x3]).bind fun x4 =>
    (prim .abs [u2]).bind fun x5 =>
    (prim .add [x4, x5]).bind fun x6 =>
    (prim .mod [u1, (.int 18)]).bind fun x7 =>
    (setAt w3 x7 x6).bind fun l8 =>
    f_law_supply_l1 ds l8
def f_law_supply (a0 : D) : R D :=
    (prim .slA [a0, (.int 18)]).bind fun x1 =>
    (itR .seq [x1]).bind fun ds2 =>
    lcK true ds2 (
    (f_law_supply_c1 ds2).bind fun r3 =>
    (prim .slC [a0, (.int 18), (.int 63)]).bind fun x4 =>
    (itR .enum [x4]).bind fun ds5 =>
    (f_law_supply_l1 ds5 r3).bind fun r6 =>
    .ok (.lst [(.lst r6), (.int 0), (.int 0)]))
def b_law_blended_1 : List S := [.asg (.n 2) (.pr .mod [.pr .add [.pr .add [.pr .add [.pr .mul [.v 2, .v 2], .pr .mul [.c (.int 4), .v 2]], .pr .mul [.c (.int 131), .v 4]], .v 1], .v 3]), .wip [4]]
def c_law_blended : List S := [
  .asg (.n 3) (.c (.int 1000000000000000009)), 
  .asg (.n 2) (.pr .mod [.pr .add [.pr .add [.pr .mul [.v 0, .c (.int 2862933555777941757)], .pr .mul [.c (.int 3037000493), .v 1]], .c (.int 17)], .v 3]), 
  .for_ (.n 4) .rng1 [.c (.int 4)] b_law_blended_1, 
  .ret (.pr .add [.pr .mul [.v 2, .v 3], .pr .mod [.pr .add [.pr .mul [.v 2, .c (.int 69069)], .v 1], .v 3]])]
def d_law_blended : Fd := ⟨"_law_blended", 2, 5, none, false, 40, c_law_blended, []⟩
def f_law_blended_l1 (v1 : D) (v3 : D) : List D → D → R (D)
  | [], w2 => .ok w2
  | d :: ds, w2 =>
    (prim .mul [w2, w2]).bind fun x1 =>
    (prim .mul [(.int 4), w2]).bind fun x2 =>
    (prim .add [x1, x2]).bind fun x3 =>
    (prim .mul [(.int 131), d]).bind fun x4 =>
    (prim .add [x3, x4]).bind fun x5 =>
    (prim .add [x5, v1]).bind fun x6 =>
    (prim .mod [x6, v3]).bind fun x7 =>
    f_law_blended_l1 v1 v3 ds x7
def f_law_blended (a0 : D) (a1 : D) : R D :=
    (prim .mul [a0, (.int 2862933555777941757)]).bind fun x1 =>
    (prim .mul [(.int 3037000493), a1]).bind fun x2 =>
    (prim .add [x1, x2]).bind fun x3 =>
    (prim .add [x3, (.int 17)]).bind fun x4 =>
    (prim .mod [x4, (.int 1000000000000000009)]).bind fun x5 =>
    (itR .rng1 [(.int 4)]).bind fun ds6 =>
    (f_law_blended_l1 a1 (.int 1000000000000000009) ds6 x5).bind fun r7 =>
    (prim .mul [r7, (.int 1000000000000000009)]).bind fun x8 =>
    (prim .mul [r7, (.int 69069)]).bind fun x9 =>
    (prim .add [x9, a1]).bind fun x10 =>
    (prim .mod [x10, (.int 1000000000000000009)]).bind fun x11 =>
    (prim .add [x8, x11]).bind fun x12 =>
    .ok x12
def c_law_below_2 : List S := [
  .ite (.pr .lt [.pr .ix [.bw 0, .c (.int 2)], .v 1]) [.par [5, 3] [.pr .ix [.bw 0, .c (.int 0)], .pr .ix [.bw 0, .c (.int 1)]], .asg (.n 4) (.ite (.pr .ne [.v 5, .pr .lst []]) (.pr .ix [.v 5, .pr .mod [.v 3, .pr .len [.v 5]]]) (.c (.int 0))), .ite (.or_ (.pr .lt [.v 4, .pr .pow [.c (.int 10), .c (.int 18)]]) (.pr .ge [.v 3, .pr .len [.v 5]])) [.asg (.n 4) (.call "_law_blended" [.pr .add [.pr .mod [.v 4, .pr .pow [.c (.int 10), .c (.int 15)]], .pr .fdiv [.v 3, .pr .add [.pr .len [.v 5], .c (.int 1)]]], .v 3] [])] [], .setI 0 (.c (.int 1)) (.pr .add [.v 3, .c (.int 1)]), .setI 0 (.c (.int 2)) (.v 4)] [], 
  .asg (.n 2) (.pr .mod [.pr .ix [.bw 0, .c (.int 2)], .v 1]), 
  .setI 0 (.c (.int 2)) (.pr .fdiv [.pr .ix [.bw 0, .c (.int 2)], .v 1]), 
  .ret (.v 2)]
def d_law_below_2 : Fd := ⟨"_law_below", 2, 6, some 0, false, 40, c_law_below_2, []⟩
def f_law_below_2 (c : List D) (a1 : D) : R (D × List D) :=
    (prim .ix [(.lst c), (.int 2)]).bind fun x1 =>
    (prim .lt [x1, a1]).bind fun x2 =>
    iteD x2 (
    (prim .ix [(.lst c), (.int 0)]).bind fun x3 =>
    (prim .ix [(.lst c), (.int 1)]).bind fun x4 =>
    (prim .ne [x3, (.lst [])]).bind fun x5 =>
    iteD x5 (
    (prim .len [x3]).bind fun x6 =>
    (prim .mod [x4, x6]).bind fun x7 =>
    (prim .ix [x3, x7]).bind fun x8 =>
    (prim .pow [(.int 10), (.int 18)]).bind fun x9 =>
    (prim .lt [x8, x9]).bind fun x10 =>
    iteD x10 (
    (prim .pow [(.int 10), (.int 15)]).bind fun x11 =>
    (prim .mod [x8, x11]).bind fun x12 =>
    (prim .len [x3]).bind fun x13 =>
    (prim .add [x13, (.int 1)]).bind fun x14 =>
    (prim .fdiv [x4, x14]).bind fun x15 =>
    (prim .add [x12, x15]).bind fun x16 =>
    (f_law_blended x16 x4).bind fun r17 =>
    (prim .add [x4, (.int 1)]).bind fun x18 =>
    (setAt c (.int 1) x18).bind fun l19 =>
    (setAt l19 (.int 2) r17).bind fun l20 =>
    (prim .ix [(.lst l20), (.int 2)]).bind fun x21 =>
    (prim .mod [x21, a1]).bind fun x22 =>
    (prim .ix [(.lst l20), (.int 2)]).bind fun x23 =>
    (prim .fdiv [x23, a1]).bind fun x24 =>
    (setAt l20 (.int 2) x24).bind fun l25 =>
    .ok (x22, l25)) (
    (prim .len [x3]).bind fun x26 =>
    (prim .ge [x4, x26]).bind fun x27 =>
    iteD x27 (
    (prim .pow [(.int 10), (.int 15)]).bind fun x28 =>
    (prim .mod [x8, x28]).bind fun x29 =>
    (prim .len [x3]).bind fun x30 =>
    (prim .add [x30, (.int 1)]).bind fun x31 =>
    (prim .fdiv [x4, x31]).bind fun x32 =>
    (prim .add [x29, x32]).bind fun x33 =>
    (f_law_blended x33 x4).bind fun r34 =>
    (prim .add [x4, (.int 1)]).bind fun x35 =>
    (setAt c (.int 1) x35).bind fun l36 =>
    (setAt l36 (.int 2) r34).bind fun l37 =>
    (prim .ix [(.lst l37), (.int 2)]).bind fun x38 =>
    (prim .mod [x38, a1]).bind fun x39 =>
    (prim .ix [(.lst l37), (.int 2)]).bind fun x40 =>
    (prim .fdiv [x40, a1]).bind fun x41 =>
    (setAt l37 (.int 2) x41).bind fun l42 =>
    .ok (x39, l42)) (
    (prim .add [x4, (.int 1)]).bind fun x43 =>
    (setAt c (.int 1) x43).bind fun l44 =>
    (setAt l44 (.int 2) x8).bind fun l45 =>
    (prim .ix [(.lst l45), (.int 2)]).bind fun x46 =>
    (prim .mod [x46, a1]).bind fun x47 =>
    (prim .ix [(.lst l45), (.int 2)]).bind fun x48 =>
    (prim .fdiv [x48, a1]).bind fun x49 =>
    (setAt l45 (.int 2) x49).bind fun l50 =>
    .ok (x47, l50)))) (
    (prim .pow [(.int 10), (.int 18)]).bind fun x51 =>
    (prim .lt [(.int 0), x51]).bind fun x52 =>
    iteD x52 (
    (prim .pow [(.int 10), (.int 15)]).bind fun x53 =>
    (prim .mod [(.int 0), x53]).bind fun x54 =>
    (prim .len [x3]).bind fun x55 =>
    (prim .add [x55, (.int 1)]).bind fun x56 =>
    (prim .fdiv [x4, x56]).bind fun x57 =>
    (prim .add [x54, x57]).bind fun x58 =>
    (f_law_blended x58 x4).bind fun r59 =>
    (prim .add [x4, (.int 1)]).bind fun x60 =>
    (setAt c (.int 1) x60).bind fun l61 =>
    (setAt l61 (.int 2) r59).bind fun l62 =>
    (prim .ix [(.lst l62), (.int 2)]).bind fun x63 =>
    (prim .mod [x63, a1]).bind fun x64 =>
    (prim .ix [(.lst l62), (.int 2)]).bind fun x65 =>
    (prim .fdiv [x65, a1]).bind fun x66 =>
    (setAt l62 (.int 2) x66).bind fun l67 =>
    .ok (x64, l67)) (
    (prim .len [x3]).bind fun x68 =>
    (prim .ge [x4, x68]).bind fun x69 =>
    iteD x69 (
    (prim .pow [(.int 10), (.int 15)]).bind fun x70 =>
    (prim .mod [(.int 0), x70]).bind fun x71 =>
    (prim .len [x3]).bind fun x72 =>
    (prim .add [x72, (.int 1)]).bind fun x73 =>
    (prim .fdiv [x4, x73]).bind fun x74 =>
    (prim .add [x71, x74]).bind fun x75 =>
    (f_law_blended x75 x4).bind fun r76 =>
    (prim .add [x4, (.int 1)]).bind fun x77 =>
    (setAt c (.int 1) x77).bind fun l78 =>
    (setAt l78 (.int 2) r76).bind fun l79 =>
    (prim .ix [(.lst l79), (.int 2)]).bind fun x80 =>
    (prim .mod [x80, a1]).bind fun x81 =>
    (prim .ix [(.lst l79), (.int 2)]).bind fun x82 =>
    (prim .fdiv [x82, a1]).bind fun x83 =>
    (setAt l79 (.int 2) x83).bind fun l84 =>
    .ok (x81, l84)) (
    (prim .add [x4, (.int 1)]).bind fun x85 =>
    (setAt c (.int 1) x85).bind fun l86 =>
    (setAt l86 (.int 2) (.int 0)).bind fun l87 =>
    (prim .ix [(.lst l87), (.int 2)]).bind fun x88 =>
    (prim .mod [x88, a1]).bind fun x89 =>
    (prim .ix [(.lst l87), (.int 2)]).bind fun x90 =>
    (prim .fdiv [x90, a1]).bind fun x91 =>
    (setAt l87 (.int 2) x91).bind fun l92 =>
    .ok (x89, l92))))) (
    (prim .ix [(.lst c), (.int 2)]).bind fun x93 =>
    (prim .mod [x93, a1]).bind fun x94 =>
    (prim .ix [(.lst c), (.int 2)]).bind fun x95 =>
    (prim .fdiv [x95, a1]).bind fun x96 =>
    (setAt c (.int 2) x96).bind fun l97 =>
    .ok (x94, l97))
def c_law_one_of : List S := [
  .ret (.pr .ix [.v 1, .call "_law_below" [.io 0, .pr .len [.v 1]] []])]
def d_law_one_of : Fd := ⟨"_law_one_of", 2, 2, some 0, false, 40, c_law_one_of, []⟩
def f_law_one_of (c : List D) (a1 : D) : R (D × List D) :=
    (prim .len [a1]).bind fun x1 =>
    (f_law_below_2 c x1).bind fun r2 =>
    (prim .ix [a1, r2.1]).bind fun x3 =>
    .ok (x3, r2.2)
def b_law_lowest_1 : List S := [.par [2, 3] [.v 3, .pr .mod [.v 2, .v 3]]]
def c_law_lowest : List S := [
  .par [2, 3] [.pr .abs [.v 0], .pr .abs [.v 1]], 
  .whl (.pr .ne [.v 3, .c (.int 0)]) b_law_lowest_1, 
  .asg (.n 4) (.ite (.pr .gt [.v 1, .c (.int 0)]) (.c (.int 1)) (.pr .sub [.c (.int 0), .c (.int 1)])), 
  .ret (.pr .tup [.pr .fdiv [.pr .mul [.v 4, .v 0], .v 2], .pr .fdiv [.pr .abs [.v 1], .v 2]])]
def d_law_lowest : Fd := ⟨"_law_lowest", 2, 5, none, false, 40, c_law_lowest, []⟩
def f_law_lowest_l1  : Nat → D → D → R (D × D)
  | 0, _, _ => .bad
  | K + 1, w2, w3 =>
    (prim .ne [w3, (.int 0)]).bind fun x1 =>
    iteD x1 (
    (prim .mod [w2, w3]).bind fun x2 =>
    f_law_lowest_l1 K w3 x2) (
    .ok (w2, w3))
def f_law_lowest (a0 : D) (a1 : D) : R D :=
    (prim .abs [a0]).bind fun x1 =>
    (prim .abs [a1]).bind fun x2 =>
    (f_law_lowest_l1 big x1 x2).bind fun r3 =>
    (prim .gt [a1, (.int 0)]).bind fun x4 =>
    iteD x4 (
    (prim .mul [(.int 1), a0]).bind fun x5 =>
    (prim .fdiv [x5, r3.1]).bind fun x6 =>
    (prim .abs [a1]).bind fun x7 =>
    (prim .fdiv [x7, r3.1]).bind fun x8 =>
    .ok (.tup [x6, x8])) (
    (prim .sub [(.int 0), (.int 1)]).bind fun x9 =>
    (prim .mul [x9, a0]).bind fun x10 =>
    (prim .fdiv [x10, r3.1]).bind fun x11 =>
    (prim .abs [a1]).bind fun x12 =>
    (prim .fdiv [x12, r3.1]).bind fun x13 =>
    .ok (.tup [x11, x13]))
def c_law_fraction : List S := [
  .asg (.n 2) (.pr .add [.pr .sub [.call "_law_below" [.io 0, .pr .sub [.pr .mul [.c (.int 2), .v 1], .c (.int 1)]] [], .v 1], .c (.int 1)]), 
  .ret (.call "_law_lowest" [.v 2, .pr .add [.c (.int 1), .call "_law_below" [.io 0, .call "_law_one_of" [.io 0, .pr .lst [.c (.int 1), .c (.int 1), .c (.int 4), .pr .sub [.v 1, .c (.int 1)]]] []] []]] [])]
def d_law_fraction : Fd := ⟨"_law_fraction", 2, 3, some 0, false, 40, c_law_fraction, []⟩
def f_law_fraction (c : List D) (a1 : D) : R (D × List D) :=
    (prim .mul [(.int 2), a1]).bind fun x1 =>
    (prim .sub [x1, (.int 1)]).bind fun x2 =>
    (f_law_below_2 c x2).bind fun r3 =>
    (prim .sub [r3.1, a1]).bind fun x4 =>
    (prim .add [x4, (.int 1)]).bind fun x5 =>
    (prim .sub [a1, (.int 1)]).bind fun x6 =>
    (f_law_one_of r3.2 (.lst [(.int 1), (.int 1), (.int 4), x6])).bind fun r7 =>
    (f_law_below_2 r7.2 r7.1).bind fun r8 =>
    (prim .add [(.int 1), r8.1]).bind fun x9 =>
    (f_law_lowest x5 x9).bind fun r10 =>
    .ok (r10, r8.2)
end
end Vm
end
section
set_option Elab.async false
set_option linter.all false
set_option maxRecDepth 100000
set_option maxHeartbeats 0
namespace Vm
open PySem PySem.Spec L2
noncomputable section
def c_absolute : List S := [
  .ret (.pr .tup [.pr .abs [.pr .ix [.v 0, .c (.int 0)]], .pr .ix [.v 0, .c (.int 1)]])]
def d_absolute : Fd := ⟨"absolute", 1, 1, none, false, 40, c_absolute, []⟩
def f_absolute (a0 : D) : R D :=
    (prim .ix [a0, (.int 0)]).bind fun x1 =>
    (prim .abs [x1]).bind fun x2 =>
    (prim .ix [a0, (.int 1)]).bind fun x3 =>
    .ok (.tup [x2, x3])
def c_compare : List S := [
  .par [2, 3] [.pr .mul [.pr .ix [.v 0, .c (.int 0)], .pr .ix [.v 1, .c (.int 1)]], .pr .mul [.pr .ix [.v 1, .c (.int 0)], .pr .ix [.v 0, .c (.int 1)]]], 
  .ret (.pr .sub [.pr .int [.pr .gt [.v 2, .v 3]], .pr .int [.pr .lt [.v 2, .v 3]]])]
def d_compare : Fd := ⟨"compare", 2, 4, none, false, 40, c_compare, []⟩
def f_compare (a0 : D) (a1 : D) : R D :=
    (prim .ix [a0, (.int 0)]).bind fun x1 =>
    (prim .ix [a1, (.int 1)]).bind fun x2 =>
    (prim .mul [x1, x2]).bind fun x3 =>
    (prim .ix [a1, (.int 0)]).bind fun x4 =>
    (prim .ix [a0, (.int 1)]).bind fun x5 =>
    (prim .mul [x4, x5]).bind fun x6 =>
    (prim .gt [x3, x6]).bind fun x7 =>
    (prim .int [x7]).bind fun x8 =>
    (prim .lt [x3, x6]).bind fun x9 =>
    (prim .int [x9]).bind fun x10 =>
    (prim .sub [x8, x10]).bind fun x11 =>
    .ok x11
end
end Vm
end
section
set_option Elab.async false
set_option linter.all false
set_option maxRecDepth 100000
set_option maxHeartbeats 0
namespace Vm
open PySem PySem.Spec L2
noncomputable section
def b_total_2_1 : List S := [.asg (.n 1) (.call "add" [.v 1, .v 2] []), .wip [2]]
def c_total_2 : List S := [
  .asg (.n 1) (.g "ZERO"), 
  .for_ (.n 2) .seq [.v 0] b_total_2_1, 
  .ret (.v 1)]
def d_total_2 : Fd := ⟨"total", 1, 3, none, false, 40, c_total_2, []⟩
def f_total_2_l1  : List D → D → R (D)
  | [], w1 => .ok w1
  | d :: ds, w1 =>
    (f_add w1 d).bind fun r1 =>
    f_total_2_l1 ds r1
def f_total_2 (a0 : D) : R D :=
    (itR .seq [a0]).bind fun ds1 =>
    (f_total_2_l1 ds1 (.tup [.int 0, .int 1])).bind fun r2 =>
    .ok r2
def c_law_three_right : List S := [
  .ite (.pr .ne [.call "add" [.call "add" [.v 0, .v 1] [], .v 2] [], .call "add" [.v 0, .call "add" [.v 1, .v 2] []] []]) [.ret (.c (.bl false))] [], 
  .ite (.pr .ne [.call "multiply" [.call "multiply" [.v 0, .v 1] [], .v 2] [], .call "multiply" [.v 0, .call "multiply" [.v 1, .v 2] []] []]) [.ret (.c (.bl false))] [], 
  .ite (.pr .ne [.call "multiply" [.v 0, .call "add" [.v 1, .v 2] []] [], .call "add" [.call "multiply" [.v 0, .v 1] [], .call "multiply" [.v 0, .v 2] []] []]) [.ret (.c (.bl false))] [], 
  .ite (.pr .ne [.call "total" [.pr .lst [.v 0, .v 1, .v 2]] [], .call "add" [.v 0, .call "add" [.v 1, .v 2] []] []]) [.ret (.c (.bl false))] [], 
  .ite (.pr .ne [.call "compare" [.call "add" [.v 0, .v 2] [], .call "add" [.v 1, .v 2] []] [], .call "compare" [.v 0, .v 1] []]) [.ret (.c (.bl false))] [], 
  .ite (.pr .ne [.call "compare" [.call "multiply" [.v 0, .v 2] [], .call "multiply" [.v 1, .v 2] []] [], .pr .mul [.call "compare" [.v 0, .v 1] [], .call "compare" [.v 2, .pr .tup [.c (.int 0), .c (.int 1)]] []]]) [.ret (.c (.bl false))] [], 
  .ret (.or_ (.pr .ne [.call "compare" [.v 0, .v 1] [], .call "compare" [.v 1, .v 2] []]) (.pr .eq [.call "compare" [.v 0, .v 2] [], .call "compare" [.v 0, .v 1] []]))]
def d_law_three_right : Fd := ⟨"_law_three_right", 3, 3, none, false, 40, c_law_three_right, []⟩
def f_law_three_right (a0 : D) (a1 : D) (a2 : D) : R D :=
    (f_add a0 a1).bind fun r1 =>
    (f_add r1 a2).bind fun r2 =>
    (f_add a1 a2).bind fun r3 =>
    (f_add a0 r3).bind fun r4 =>
    (prim .ne [r2, r4]).bind fun x5 =>
    iteD x5 (
    .ok (.bl false)) (
    (f_multiply a0 a1).bind fun r6 =>
    (f_multiply r6 a2).bind fun r7 =>
    (f_multiply a1 a2).bind fun r8 =>
    (f_multiply a0 r8).bind fun r9 =>
    (prim .ne [r7, r9]).bind fun x10 =>
    iteD x10 (
    .ok (.bl false)) (
    (f_add a1 a2).bind fun r11 =>
    (f_multiply a0 r11).bind fun r12 =>
    (f_multiply a0 a1).bind fun r13 =>
    (f_multiply a0 a2).bind fun r14 =>
    (f_add r13 r14).bind fun r15 =>
    (prim .ne [r12, r15]).bind fun x16 =>
    iteD x16 (
    .ok (.bl false)) (
    (f_total_2 (.lst [a0, a1, a2])).bind fun r17 =>
    (f_add a1 a2).bind fun r18 =>
    (f_add a0 r18).bind fun r19 =>
    (prim .ne [r17, r19]).bind fun x20 =>
    iteD x20 (
    .ok (.bl false)) (
    (f_add a0 a2).bind fun r21 =>
    (f_add a1 a2).bind fun r22 =>
    (f_compare r21 r22).bind fun r23 =>
    (f_compare a0 a1).bind fun r24 =>
    (prim .ne [r23, r24]).bind fun x25 =>
    iteD x25 (
    .ok (.bl false)) (
    (f_multiply a0 a2).bind fun r26 =>
    (f_multiply a1 a2).bind fun r27 =>
    (f_compare r26 r27).bind fun r28 =>
    (f_compare a0 a1).bind fun r29 =>
    (f_compare a2 (.tup [(.int 0), (.int 1)])).bind fun r30 =>
    (prim .mul [r29, r30]).bind fun x31 =>
    (prim .ne [r28, x31]).bind fun x32 =>
    iteD x32 (
    .ok (.bl false)) (
    (f_compare a0 a1).bind fun r33 =>
    (f_compare a1 a2).bind fun r34 =>
    (prim .ne [r33, r34]).bind fun x35 =>
    iteD x35 (
    .ok (.bl true)) (
    (f_compare a0 a2).bind fun r36 =>
    (f_compare a0 a1).bind fun r37 =>
    (prim .eq [r36, r37]).bind fun x38 =>
    .ok x38)))))))
def c_format_fraction : List S := [
  .ret (.ite (.pr .eq [.pr .ix [.v 0, .c (.int 1)], .c (.int 1)]) (.pr .stri [.pr .ix [.v 0, .c (.int 0)]]) (.pr .fmt [.pr .ix [.v 0, .c (.int 0)], .c (.str "/"), .pr .ix [.v 0, .c (.int 1)]]))]
def d_format_fraction : Fd := ⟨"format_fraction", 1, 1, none, false, 40, c_format_fraction, []⟩
def f_format_fraction (a0 : D) : R D :=
    (prim .ix [a0, (.int 1)]).bind fun x1 =>
    (prim .eq [x1, (.int 1)]).bind fun x2 =>
    iteD x2 (
    (prim .ix [a0, (.int 0)]).bind fun x3 =>
    (prim .stri [x3]).bind fun x4 =>
    .ok x4) (
    (prim .ix [a0, (.int 0)]).bind fun x5 =>
    (prim .ix [a0, (.int 1)]).bind fun x6 =>
    (prim .fmt [x5, (.str "/"), x6]).bind fun x7 =>
    .ok x7)
def c_parse_integer : List S := [
  .ite (.or_ (.pr .not [.ch .lt .le (.c (.int 0)) (.pr .len [.v 0]) (.g "MAX_DIGITS")]) (.pr .not [.pr .all [.lc (.pr .inn [.v 1, .g "DIGITS"]) (.n 1) .seq [.v 0] none [1]]])) [.stop] [], 
  .ite (.and_ (.pr .gt [.pr .len [.v 0], .c (.int 1)]) (.pr .eq [.pr .ix [.v 0, .c (.int 0)], .c (.str "0")])) [.stop] [], 
  .ret (.pr .int [.v 0])]
def d_parse_integer : Fd := ⟨"parse_integer", 1, 2, none, false, 40, c_parse_integer, []⟩
def f_parse_integer_c1  : List D → R (List D)
  | [] => .ok []
  | d :: ds =>
    (prim .inn [d, (.str "0123456789")]).bind fun x1 =>
    (f_parse_integer_c1 ds).bind fun r =>
    .ok (x1 :: r)
def f_parse_integer (a0 : D) : R D :=
    (prim .len [a0]).bind fun x1 =>
    (prim .lt [(.int 0), x1]).bind fun x2 =>
    iteD x2 (
    (prim .le [x1, (.int 30)]).bind fun x3 =>
    (prim .not [x3]).bind fun x4 =>
    iteD x4 (
    .bad) (
    (itR .seq [a0]).bind fun ds5 =>
    lcK true ds5 (
    (f_parse_integer_c1 ds5).bind fun r6 =>
    (prim .all [(.lst r6)]).bind fun x7 =>
    (prim .not [x7]).bind fun x8 =>
    iteD x8 (
    .bad) (
    (prim .len [a0]).bind fun x9 =>
    (prim .gt [x9, (.int 1)]).bind fun x10 =>
    iteD x10 (
    (prim .ix [a0, (.int 0)]).bind fun x11 =>
    (prim .eq [x11, (.str "0")]).bind fun x12 =>
    iteD x12 (
    .bad) (
    (prim .int [a0]).bind fun x13 =>
    .ok x13)) (
    (prim .int [a0]).bind fun x14 =>
    .ok x14))))) (
    (prim .not [(.bl false)]).bind fun x15 =>
    iteD x15 (
    .bad) (
    (itR .seq [a0]).bind fun ds16 =>
    lcK true ds16 (
    (f_parse_integer_c1 ds16).bind fun r17 =>
    (prim .all [(.lst r17)]).bind fun x18 =>
    (prim .not [x18]).bind fun x19 =>
    iteD x19 (
    .bad) (
    (prim .len [a0]).bind fun x20 =>
    (prim .gt [x20, (.int 1)]).bind fun x21 =>
    iteD x21 (
    (prim .ix [a0, (.int 0)]).bind fun x22 =>
    (prim .eq [x22, (.str "0")]).bind fun x23 =>
    iteD x23 (
    .bad) (
    (prim .int [a0]).bind fun x24 =>
    .ok x24)) (
    (prim .int [a0]).bind fun x25 =>
    .ok x25)))))
def c_is_integer : List S := [
  .ret (.and_ (.pr (.isi .int) [.v 0]) (.pr .not [.pr (.isi .bool) [.v 0]]))]
def d_is_integer : Fd := ⟨"is_integer", 1, 1, none, false, 40, c_is_integer, []⟩
def f_is_integer (a0 : D) : R D :=
    (prim (.isi .int) [a0]).bind fun x1 =>
    iteD x1 (
    (prim (.isi .bool) [a0]).bind fun x2 =>
    (prim .not [x2]).bind fun x3 =>
    .ok x3) (
    .ok (.bl false))
def c_is_fraction : List S := [
  .ite (.or_ (.pr .not [.pr (.isi .tuple) [.v 0]]) (.or_ (.pr .ne [.pr .len [.v 0], .c (.int 2)]) (.pr .not [.pr .all [.lc (.call "is_integer" [.v 1] []) (.n 1) .seq [.v 0] none [1]]]))) [.ret (.c (.bl false))] [], 
  .ret (.and_ (.pr .gt [.pr .ix [.v 0, .c (.int 1)], .c (.int 0)]) (.pr .eq [.call "common_divisor" [.pr .ix [.v 0, .c (.int 0)], .pr .ix [.v 0, .c (.int 1)]] [], .c (.int 1)]))]
def d_is_fraction : Fd := ⟨"is_fraction", 1, 2, none, false, 40, c_is_fraction, []⟩
def f_is_fraction_c1  : List D → R (List D)
  | [] => .ok []
  | d :: ds =>
    (R.noex (f_is_integer d)).bind fun r1 =>
    (f_is_fraction_c1 ds).bind fun r =>
    .ok (r1 :: r)
def f_is_fraction (a0 : D) : R D :=
    (prim (.isi .tuple) [a0]).bind fun x1 =>
    (prim .not [x1]).bind fun x2 =>
    iteD x2 (
    .ok (.bl false)) (
    (prim .len [a0]).bind fun x3 =>
    (prim .ne [x3, (.int 2)]).bind fun x4 =>
    iteD x4 (
    .ok (.bl false)) (
    (itR .seq [a0]).bind fun ds5 =>
    lcK true ds5 (
    (f_is_fraction_c1 ds5).bind fun r6 =>
    (prim .all [(.lst r6)]).bind fun x7 =>
    (prim .not [x7]).bind fun x8 =>
    iteD x8 (
    .ok (.bl false)) (
    (prim .ix [a0, (.int 1)]).bind fun x9 =>
    (prim .gt [x9, (.int 0)]).bind fun x10 =>
    iteD x10 (
    (prim .ix [a0, (.int 0)]).bind fun x11 =>
    (prim .ix [a0, (.int 1)]).bind fun x12 =>
    (f_common_divisor x11 x12).bind fun r13 =>
    (prim .eq [r13, (.int 1)]).bind fun x14 =>
    .ok x14) (
    .ok (.bl false))))))
def c_parse_fraction : List S := [
  .asg (.t [4, 3]) (.ite (.pr .eq [.pr .slA [.v 0, .c (.int 1)], .c (.str "-")]) (.pr .tup [.pr .neg [.c (.int 1)], .pr .slB [.v 0, .c (.int 1)]]) (.pr .tup [.c (.int 1), .v 0])), 
  .asg (.t [6, 5, 1]) (.pr (.part "/") [.v 3]), 
  .asg (.n 2) (.pr .tup [.pr .mul [.v 4, .call "parse_integer" [.v 6] []], .ite (.pr .ne [.v 5, .c (.str "")]) (.call "parse_integer" [.v 1] []) (.c (.int 1))]), 
  .ite (.or_ (.pr .not [.call "is_fraction" [.v 2] []]) (.pr .ne [.call "format_fraction" [.v 2] [], .v 0])) [.stop] [], 
  .ret (.v 2)]
def d_parse_fraction : Fd := ⟨"parse_fraction", 1, 7, none, false, 40, c_parse_fraction, []⟩
def f_parse_fraction (a0 : D) : R D :=
    (prim .slA [a0, (.int 1)]).bind fun x1 =>
    (prim .eq [x1, (.str "-")]).bind fun x2 =>
    iteD x2 (
    (prim .neg [(.int 1)]).bind fun x3 =>
    (prim .slB [a0, (.int 1)]).bind fun x4 =>
    un2 (.tup [x3, x4]) fun u5 u6 =>
    (prim (.part "/") [u6]).bind fun x7 =>
    un3 x7 fun u8 u9 u10 =>
    (f_parse_integer u8).bind fun r11 =>
    (prim .mul [u5, r11]).bind fun x12 =>
    (prim .ne [u9, (.str "")]).bind fun x13 =>
    iteD x13 (
    (f_parse_integer u10).bind fun r14 =>
    (f_is_fraction (.tup [x12, r14])).bind fun r15 =>
    (prim .not [r15]).bind fun x16 =>
    iteD x16 (
    .bad) (
    (f_format_fraction (.tup [x12, r14])).bind fun r17 =>
    (prim .ne [r17, a0]).bind fun x18 =>
    iteD x18 (
    .bad) (
    .ok (.tup [x12, r14])))) (
    (f_is_fraction (.tup [x12, (.int 1)])).bind fun r19 =>
    (prim .not [r19]).bind fun x20 =>
    iteD x20 (
    .bad) (
    (f_format_fraction (.tup [x12, (.int 1)])).bind fun r21 =>
    (prim .ne [r21, a0]).bind fun x22 =>
    iteD x22 (
    .bad) (
    .ok (.tup [x12, (.int 1)]))))) (
    un2 (.tup [(.int 1), a0]) fun u23 u24 =>
    (prim (.part "/") [u24]).bind fun x25 =>
    un3 x25 fun u26 u27 u28 =>
    (f_parse_integer u26).bind fun r29 =>
    (prim .mul [u23, r29]).bind fun x30 =>
    (prim .ne [u27, (.str "")]).bind fun x31 =>
    iteD x31 (
    (f_parse_integer u28).bind fun r32 =>
    (f_is_fraction (.tup [x30, r32])).bind fun r33 =>
    (prim .not [r33]).bind fun x34 =>
    iteD x34 (
    .bad) (
    (f_format_fraction (.tup [x30, r32])).bind fun r35 =>
    (prim .ne [r35, a0]).bind fun x36 =>
    iteD x36 (
    .bad) (
    .ok (.tup [x30, r32])))) (
    (f_is_fraction (.tup [x30, (.int 1)])).bind fun r37 =>
    (prim .not [r37]).bind fun x38 =>
    iteD x38 (
    .bad) (
    (f_format_fraction (.tup [x30, (.int 1)])).bind fun r39 =>
    (prim .ne [r39, a0]).bind fun x40 =>
    iteD x40 (
    .bad) (
    .ok (.tup [x30, (.int 1)])))))
def c_law_two_right : List S := [
  .ite (.or_ (.pr .ne [.call "add" [.v 0, .v 1] [], .call "add" [.v 1, .v 0] []]) (.or_ (.pr .ne [.call "multiply" [.v 0, .v 1] [], .call "multiply" [.v 1, .v 0] []]) (.pr .ne [.call "subtract" [.call "add" [.v 0, .v 1] [], .v 1] [], .v 0]))) [.ret (.c (.bl false))] [], 
  .ite (.or_ (.pr .ne [.call "subtract" [.v 0, .v 1] [], .call "add" [.v 0, .call "negative" [.v 1] []] []]) (.pr .ne [.call "compare" [.v 0, .v 1] [], .pr .sub [.c (.int 0), .call "compare" [.v 1, .v 0] []]])) [.ret (.c (.bl false))] [], 
  .ite (.pr .ne [.v 1, .pr .tup [.c (.int 0), .c (.int 1)]]) [.ite (.or_ (.pr .ne [.call "divide" [.call "multiply" [.v 0, .v 1] [], .v 1] [], .v 0]) (.pr .ne [.call "multiply" [.call "divide" [.v 0, .v 1] [], .v 1] [], .v 0])) [.ret (.c (.bl false))] []] [], 
  .ite (.pr .gt [.call "compare" [.call "absolute" [.call "add" [.v 0, .v 1] []] [], .call "add" [.call "absolute" [.v 0] [], .call "absolute" [.v 1] []] []] [], .c (.int 0)]) [.ret (.c (.bl false))] [], 
  .asg (.n 2) (.pr .lst [.call "add" [.v 0, .v 1] [], .call "subtract" [.v 0, .v 1] [], .call "multiply" [.v 0, .v 1] [], .call "negative" [.v 0] [], .call "absolute" [.v 0] []]), 
  .asg (.n 5) (.lc (.call "format_fraction" [.v 3] []) (.n 3) .seq [.v 2] none [3]), 
  .ite (.pr .ne [.lc (.call "parse_fraction" [.v 4] []) (.n 4) .seq [.v 5] none [4], .v 2]) [.ret (.c (.bl false))] [], 
  .ret (.pr .nin [.c (.bl false), .lc (.call "is_fraction" [.v 3] []) (.n 3) .seq [.v 2] none [3]])]
def d_law_two_right : Fd := ⟨"_law_two_right", 2, 6, none, false, 40, c_law_two_right, []⟩
def f_law_two_right_c1  : List D → R (List D)
  | [] => .ok []
  | d :: ds =>
    (R.noex (f_format_fraction d)).bind fun r1 =>
    (f_law_two_right_c1 ds).bind fun r =>
    .ok (r1 :: r)
def f_law_two_right_c2  : List D → R (List D)
  | [] => .ok []
  | d :: ds =>
    (R.noex (f_parse_fraction d)).bind fun r1 =>
    (f_law_two_right_c2 ds).bind fun r =>
    .ok (r1 :: r)
def f_law_two_right_c3  : List D → R (List D)
  | [] => .ok []
  | d :: ds =>
    (R.noex (f_is_fraction d)).bind fun r1 =>
    (f_law_two_right_c3 ds).bind fun r =>
    .ok (r1 :: r)
def f_law_two_right (a0 : D) (a1 : D) : R D :=
    (f_add a0 a1).bind fun r1 =>
    (f_add a1 a0).bind fun r2 =>
    (prim .ne [r1, r2]).bind fun x3 =>
    iteD x3 (
    .ok (.bl false)) (
    (f_multiply a0 a1).bind fun r4 =>
    (f_multiply a1 a0).bind fun r5 =>
    (prim .ne [r4, r5]).bind fun x6 =>
    iteD x6 (
    .ok (.bl false)) (
    (f_add a0 a1).bind fun r7 =>
    (f_subtract r7 a1).bind fun r8 =>
    (prim .ne [r8, a0]).bind fun x9 =>
    iteD x9 (
    .ok (.bl false)) (
    (f_subtract a0 a1).bind fun r10 =>
    (f_negative a1).bind fun r11 =>
    (f_add a0 r11).bind fun r12 =>
    (prim .ne [r10, r12]).bind fun x13 =>
    iteD x13 (
    .ok (.bl false)) (
    (f_compare a0 a1).bind fun r14 =>
    (f_compare a1 a0).bind fun r15 =>
    (prim .sub [(.int 0), r15]).bind fun x16 =>
    (prim .ne [r14, x16]).bind fun x17 =>
    iteD x17 (
    .ok (.bl false)) (
    (prim .ne [a1, (.tup [(.int 0), (.int 1)])]).bind fun x18 =>
    iteD x18 (
    (f_multiply a0 a1).bind fun r19 =>
    (f_divide r19 a1).bind fun r20 =>
    (prim .ne [r20, a0]).bind fun x21 =>
    iteD x21 (
    .ok (.bl false)) (
    (f_divide a0 a1).bind fun r22 =>
    (f_multiply r22 a1).bind fun r23 =>
    (prim .ne [r23, a0]).bind fun x24 =>
    iteD x24 (
    .ok (.bl false)) (
    (f_add a0 a1).bind fun r25 =>
    (f_absolute r25).bind fun r26 =>
    (f_absolute a0).bind fun r27 =>
    (f_absolute a1).bind fun r28 =>
    (f_add r27 r28).bind fun r29 =>
    (f_compare r26 r29).bind fun r30 =>
    (prim .gt [r30, (.int 0)]).bind fun x31 =>
    iteD x31 (
    .ok (.bl false)) (
    (f_add a0 a1).bind fun r32 =>
    (f_subtract a0 a1).bind fun r33 =>
    (f_multiply a0 a1).bind fun r34 =>
    (f_negative a0).bind fun r35 =>
    (f_absolute a0).bind fun r36 =>
    (itR .seq [(.lst [r32, r33, r34, r35, r36])]).bind fun ds37 =>
    lcK true ds37 (
    (f_law_two_right_c1 ds37).bind fun r38 =>
    (itR .seq [(.lst r38)]).bind fun ds39 =>
    lcK true ds39 (
    (f_law_two_right_c2 ds39).bind fun r40 =>
    (prim .ne [(.lst r40), (.lst [r32, r33, r34, r35, r36])]).bind fun x41 =>
    iteD x41 (
    .ok (.bl false)) (
    (itR .seq [(.lst [r32, r33, r34, r35, r36])]).bind fun ds42 =>
    lcK true ds42 (
    (f_law_two_right_c3 ds42).bind fun r43 =>
    (prim .nin [(.bl false), (.lst r43)]).bind fun x44 =>
    .ok x44)))))))) (
    (f_add a0 a1).bind fun r45 =>
    (f_absolute r45).bind fun r46 =>
    (f_absolute a0).bind fun r47 =>
    (f_absolute a1).bind fun r48 =>
    (f_add r47 r48).bind fun r49 =>
    (f_compare r46 r49).bind fun r50 =>
    (prim .gt [r50, (.int 0)]).bind fun x51 =>
    iteD x51 (
    .ok (.bl false)) (
    (f_add a0 a1).bind fun r52 =>
    (f_subtract a0 a1).bind fun r53 =>
    (f_multiply a0 a1).bind fun r54 =>
    (f_negative a0).bind fun r55 =>
    (f_absolute a0).bind fun r56 =>
    (itR .seq [(.lst [r52, r53, r54, r55, r56])]).bind fun ds57 =>
    lcK true ds57 (
    (f_law_two_right_c1 ds57).bind fun r58 =>
    (itR .seq [(.lst r58)]).bind fun ds59 =>
    lcK true ds59 (
    (f_law_two_right_c2 ds59).bind fun r60 =>
    (prim .ne [(.lst r60), (.lst [r52, r53, r54, r55, r56])]).bind fun x61 =>
    iteD x61 (
    .ok (.bl false)) (
    (itR .seq [(.lst [r52, r53, r54, r55, r56])]).bind fun ds62 =>
    lcK true ds62 (
    (f_law_two_right_c3 ds62).bind fun r63 =>
    (prim .nin [(.bl false), (.lst r63)]).bind fun x64 =>
    .ok x64)))))))))))
def b_law_04_2 : List S := [.ite (.or_ (.pr .not [.call "_law_three_right" [.v 5, .v 6, .v 9] []]) (.pr .not [.call "_law_two_right" [.v 5, .v 6] []])) [.ret (.c (.bl false))] [], .wip [5, 6, 9]]
def b_law_04_1 : List S := [.asg (.n 7) (.call "_law_one_of" [.io 8, .pr .lst [.c (.int 2), .c (.int 4), .c (.int 1000), .pr .pow [.c (.int 10), .c (.int 12)]]] []), .asg (.t [1, 2, 3]) (.lc (.call "_law_fraction" [.io 8, .v 7] []) (.n 4) .rng1 [.c (.int 3)] none [4]), .wip [5, 6, 9], .for_ (.t [5, 6, 9]) .seq [.pr .lst [.pr .tup [.v 1, .v 2, .v 3], .pr .tup [.v 3, .v 1, .v 2], .pr .tup [.v 1, .v 1, .pr .tup [.c (.int 0), .c (.int 1)]], .pr .tup [.v 2, .pr .tup [.c (.int 1), .c (.int 1)], .v 3]]] b_law_04_2, .ite (.or_ (.pr .ne [.call "add" [.v 1, .pr .tup [.c (.int 0), .c (.int 1)]] [], .v 1]) (.or_ (.pr .ne [.call "multiply" [.v 1, .pr .tup [.c (.int 1), .c (.int 1)]] [], .v 1]) (.pr .ne [.call "multiply" [.v 1, .pr .tup [.c (.int 0), .c (.int 1)]] [], .pr .tup [.c (.int 0), .c (.int 1)]]))) [.ret (.c (.bl false))] [], .wip [1, 2, 3, 5, 6, 7, 9, 10]]
def c_law_04 : List S := [
  .asgO 8 (.call "_law_supply" [.v 0] []), 
  .for_ (.n 10) .rng1 [.c (.int 6)] b_law_04_1, 
  .ret (.c (.bl true))]
def d_law_04 : Fd := ⟨"law", 1, 11, none, false, 40, c_law_04, []⟩
def f_law_04_c1 (v7 : D) : List D → List D → R (List D × List D)
  | [], c8 => .ok ([], c8)
  | d :: ds, c8 =>
    (R.noex (f_law_fraction c8 v7)).bind fun r1 =>
    (f_law_04_c1 v7 ds r1.2).bind fun r =>
    .ok (r1.1 :: r.1, r.2)
def f_law_04_l2  : List D → R (Fl (Unit) D)
  | [] => .ok (.nx ())
  | d :: ds =>
    un3 d fun u1 u2 u3 =>
    (f_law_three_right u1 u2 u3).bind fun r4 =>
    (prim .not [r4]).bind fun x5 =>
    iteD x5 (
    .ok (.rt (.bl false))) (
    (f_law_two_right u1 u2).bind fun r6 =>
    (prim .not [r6]).bind fun x7 =>
    iteD x7 (
    .ok (.rt (.bl false))) (
    f_law_04_l2 ds))
def f_law_04_l1  : List D → List D → R (Fl (List D) D)
  | [], w8 => .ok (.nx w8)
  | d :: ds, w8 =>
    (prim .pow [(.int 10), (.int 12)]).bind fun x1 =>
    (f_law_one_of w8 (.lst [(.int 2), (.int 4), (.int 1000), x1])).bind fun r2 =>
    (itR .rng1 [(.int 3)]).bind fun ds3 =>
    lcK true ds3 (
    (f_law_04_c1 r2.1 ds3 r2.2).bind fun r4 =>
    un3 (.lst r4.1) fun u5 u6 u7 =>
    (itR .seq [(.lst [(.tup [u5, u6, u7]), (.tup [u7, u5, u6]), (.tup [u5, u5, (.tup [(.int 0), (.int 1)])]), (.tup [u6, (.tup [(.int 1), (.int 1)]), u7])])]).bind fun ds8 =>
    (f_law_04_l2 ds8).bind fun r9 =>
    r9.el (fun t10 =>
    (f_add u5 (.tup [(.int 0), (.int 1)])).bind fun r12 =>
    (prim .ne [r12, u5]).bind fun x13 =>
    iteD x13 (
    .ok (.rt (.bl false))) (
    (f_multiply u5 (.tup [(.int 1), (.int 1)])).bind fun r14 =>
    (prim .ne [r14, u5]).bind fun x15 =>
    iteD x15 (
    .ok (.rt (.bl false))) (
    (f_multiply u5 (.tup [(.int 0), (.int 1)])).bind fun r16 =>
    (prim .ne [r16, (.tup [(.int 0), (.int 1)])]).bind fun x17 =>
    iteD x17 (
    .ok (.rt (.bl false))) (
    f_law_04_l1 ds r4.2)))) (fun z11 =>
    .ok (.rt z11)))
def f_law_04 (a0 : D) : R D :=
    (f_law_supply a0).bind fun r1 =>
    asL r1 fun l2 =>
    (itR .rng1 [(.int 6)]).bind fun ds3 =>
    (f_law_04_l1 ds3 l2).bind fun r4 =>
    r4.el (fun t5 =>
    .ok (.bl true)) (fun z6 =>
    .ok z6)
end
end Vm
end
section
set_option Elab.async false
set_option linter.all false
set_option maxRecDepth 100000
set_option maxHeartbeats 0
namespace Vm
open PySem PySem.Spec L2
theorem q_negative {T : Tab}   (a0 : D) : runFd T big d_negative [.val a0] = (f_negative a0).bind fun r => .ok (r, none) := by
  show endOf none false (runL (exS T big none false 40) c_negative [.val a0]) = _
  rw [end_obs]
  unfold c_negative f_negative
  simp -implicitDefEqProofs only [obs_nil, obs_cons, obs_nx, obs_rt, obs_bk, obs_ct, obs_bad, obs_o, obs_ite, obs_own, out_none, out_some, stK_n, stK_t1, stK_t2, stK_t3, stK_t4, smK_nil, smK_cons, obs_asg, obs_par, obs_set, obs_app, obs_pop, x_rem, obs_rem, x_expr, y_asgO, obs_asgO, y_frz, y_wip, y_retO, y_retF, obs_retF, x_brk, x_cont, x_pass, x_stop, obs_for, x_asg, x_ret, x_ite, x_par, x_whl, x_setI, setR_eq, x_app, x_for, e_c, e_v, e_g, e_pr, prR, e_and, e_or, e_ite, y_and, y_or, y_ite, e_ch, y_ch, e_lc, y_lc, y_lcb, a_lcb, a_nil, a_c, a_g, a_v, a_pr, a_and, a_or, a_ite, a_ch, a_call, a_lc, cons_ok, a_bw, a_io, v_0, v_s, w_0, w_v, w_n, w_s, rd_nil, rd_d, rd_b, om_some, el_nil, el_cons, elc_ok, b_ok, b_bad, b_assoc, iteD_t, iteD_f, iteD_bind, un1_bind, un2_bind, un3_bind, un4_bind, un1_t, un2_t, un3_t, un4_t, asL_bind, asL_l, ownK_s, el_nx, el_rt, el_bind, lcK_bind, nlG_bind, if_true, if_false, fls_iff, tru_iff, n_isSome, s_isSome, isIo_n, isIo_s, ioIn_n, ioIn_s, List.set_cons_zero, List.set_cons_succ, Bool.false_eq_true, Bool.true_eq_false, dt0, dl0, dt1, dl1, dt2, dl2, dt3, dl3, dt4, dl4, dt5, dl5, dt6, dl6, dt7, dl7, dt8, dl8, dt9, dl9, dt10, dl10, dt11, dl11, dt12, dl12, wi_nil, wi_cons, re_nil, re_cons, no_cons, Nat.reduceBEq, Nat.reduceEqDiff, reduceCtorEq, Bool.and_true, Bool.true_and, Bool.and_self, List.contains_cons, List.contains_nil, Bool.or_false, Bool.false_or, Bool.or_self, Option.getD_some, Option.getD_none, List.getElem?_cons_zero, List.getElem?_cons_succ, nx_ok, nx_bad, nx_bind, nx_nx, nx_iteD, nx_un1, nx_un2, nx_itR, nx_lcK, nx_nlG, nx_prim, no_nil, no_v, no_n, no_s]
theorem cp_negative {T : Tab}   : P1 (T.add big d_negative) "negative" false f_negative := P1.mk rfl rfl fun a0 => q_negative  a0
theorem l_common_divisor_l1 {T : Tab} {kn kc kb : En → R XO}     : ∀ (K : Nat) (w0 : D) (w1 : D), obs none (loopW (evE T 39 (.pr .ne [.v 1, .c (.int 0)])) (runL (exS T big none false 39) b_common_divisor_1) K [.val w0, .val w1]) kn kc kb = (f_common_divisor_l1 K w0 w1).bind fun s => kn [.val s.1, .val s.2]
  | 0, w0, w1 => by simp -implicitDefEqProofs only [obs_w0, f_common_divisor_l1, b_bad]
  | K + 1, w0, w1 => by
    have lrec := l_common_divisor_l1 (T := T) (kn := kn) (kc := kc) (kb := kb)  K
    rw [obs_w1]
    unfold whC
    generalize loopW (evE T 39 (.pr .ne [.v 1, .c (.int 0)])) (runL (exS T big none false 39) b_common_divisor_1) K = loop at lrec ⊢
    unfold b_common_divisor_1
    simp -implicitDefEqProofs only [obs_nil, obs_cons, obs_nx, obs_rt, obs_bk, obs_ct, obs_bad, obs_o, obs_ite, obs_own, out_none, out_some, stK_n, stK_t1, stK_t2, stK_t3, stK_t4, smK_nil, smK_cons, obs_asg, obs_par, obs_set, obs_app, obs_pop, x_rem, obs_rem, x_expr, y_asgO, obs_asgO, y_frz, y_wip, y_retO, y_retF, obs_retF, x_brk, x_cont, x_pass, x_stop, obs_for, x_asg, x_ret, x_ite, x_par, x_whl, x_setI, setR_eq, x_app, x_for, e_c, e_v, e_g, e_pr, prR, e_and, e_or, e_ite, y_and, y_or, y_ite, e_ch, y_ch, e_lc, y_lc, y_lcb, a_lcb, a_nil, a_c, a_g, a_v, a_pr, a_and, a_or, a_ite, a_ch, a_call, a_lc, cons_ok, a_bw, a_io, v_0, v_s, w_0, w_v, w_n, w_s, rd_nil, rd_d, rd_b, om_some, el_nil, el_cons, elc_ok, b_ok, b_bad, b_assoc, iteD_t, iteD_f, iteD_bind, un1_bind, un2_bind, un3_bind, un4_bind, un1_t, un2_t, un3_t, un4_t, asL_bind, asL_l, ownK_s, el_nx, el_rt, el_bind, lcK_bind, nlG_bind, if_true, if_false, fls_iff, tru_iff, n_isSome, s_isSome, isIo_n, isIo_s, ioIn_n, ioIn_s, List.set_cons_zero, List.set_cons_succ, Bool.false_eq_true, Bool.true_eq_false, dt0, dl0, dt1, dl1, dt2, dl2, dt3, dl3, dt4, dl4, dt5, dl5, dt6, dl6, dt7, dl7, dt8, dl8, dt9, dl9, dt10, dl10, dt11, dl11, dt12, dl12, wi_nil, wi_cons, re_nil, re_cons, no_cons, Nat.reduceBEq, Nat.reduceEqDiff, reduceCtorEq, Bool.and_true, Bool.true_and, Bool.and_self, List.contains_cons, List.contains_nil, Bool.or_false, Bool.false_or, Bool.or_self, Option.getD_some, Option.getD_none, List.getElem?_cons_zero, List.getElem?_cons_succ, nx_ok, nx_bad, nx_bind, nx_nx, nx_iteD, nx_un1, nx_un2, nx_itR, nx_lcK, nx_nlG, nx_prim, no_nil, no_v, no_n, no_s, f_common_divisor_l1, lrec]
theorem q_common_divisor {T : Tab}   (a0 : D) (a1 : D) : runFd T big d_common_divisor [.val a0, .val a1] = (f_common_divisor a0 a1).bind fun r => .ok (r, none) := by
  show endOf none false (runL (exS T big none false 40) c_common_divisor [.val a0, .val a1]) = _
  rw [end_obs]
  unfold c_common_divisor f_common_divisor
  simp -implicitDefEqProofs only [obs_nil, obs_cons, obs_nx, obs_rt, obs_bk, obs_ct, obs_bad, obs_o, obs_ite, obs_own, out_none, out_some, stK_n, stK_t1, stK_t2, stK_t3, stK_t4, smK_nil, smK_cons, obs_asg, obs_par, obs_set, obs_app, obs_pop, x_rem, obs_rem, x_expr, y_asgO, obs_asgO, y_frz, y_wip, y_retO, y_retF, obs_retF, x_brk, x_cont, x_pass, x_stop, obs_for, x_asg, x_ret, x_ite, x_par, x_whl, x_setI, setR_eq, x_app, x_for, e_c, e_v, e_g, e_pr, prR, e_and, e_or, e_ite, y_and, y_or, y_ite, e_ch, y_ch, e_lc, y_lc, y_lcb, a_lcb, a_nil, a_c, a_g, a_v, a_pr, a_and, a_or, a_ite, a_ch, a_call, a_lc, cons_ok, a_bw, a_io, v_0, v_s, w_0, w_v, w_n, w_s, rd_nil, rd_d, rd_b, om_some, el_nil, el_cons, elc_ok, b_ok, b_bad, b_assoc, iteD_t, iteD_f, iteD_bind, un1_bind, un2_bind, un3_bind, un4_bind, un1_t, un2_t, un3_t, un4_t, asL_bind, asL_l, ownK_s, el_nx, el_rt, el_bind, lcK_bind, nlG_bind, if_true, if_false, fls_iff, tru_iff, n_isSome, s_isSome, isIo_n, isIo_s, ioIn_n, ioIn_s, List.set_cons_zero, List.set_cons_succ, Bool.false_eq_true, Bool.true_eq_false, dt0, dl0, dt1, dl1, dt2, dl2, dt3, dl3, dt4, dl4, dt5, dl5, dt6, dl6, dt7, dl7, dt8, dl8, dt9, dl9, dt10, dl10, dt11, dl11, dt12, dl12, wi_nil, wi_cons, re_nil, re_cons, no_cons, Nat.reduceBEq, Nat.reduceEqDiff, reduceCtorEq, Bool.and_true, Bool.true_and, Bool.and_self, List.contains_cons, List.contains_nil, Bool.or_false, Bool.false_or, Bool.or_self, Option.getD_some, Option.getD_none, List.getElem?_cons_zero, List.getElem?_cons_succ, nx_ok, nx_bad, nx_bind, nx_nx, nx_iteD, nx_un1, nx_un2, nx_itR, nx_lcK, nx_nlG, nx_prim, no_nil, no_v, no_n, no_s, l_common_divisor_l1 ]
theorem cp_common_divisor {T : Tab}   : P2 (T.add big d_common_divisor) "common_divisor" false f_common_divisor := P2.mk rfl rfl fun a0 a1 => q_common_divisor  a0 a1
theorem k_fraction_1 {T : Tab} (h_common_divisor : P2 T "common_divisor" false f_common_divisor) : ∀ (x0 x1 : D) (en : En), callR T "common_divisor" [] ([.d x0, .d x1], en) = (f_common_divisor x0 x1).bind fun r => .ok (r, en) := by
  intro x0 x1 en
  rw [y_callF (as := [.d x0, .d x1]) _ rfl]
  simp only [r_nil, r_d, r_b, r_o, om_some, resK_s, ownK_s, List.map_cons, List.map_nil, List.cons_append, List.nil_append, h_common_divisor.2.2, b_assoc, b_ok]
  exact congrArg (R.bind _) (funext fun r => q_pure _ _ rfl rfl)
theorem q_fraction {T : Tab} (h_common_divisor : P2 T "common_divisor" false f_common_divisor)  (a0 : D) (a1 : D) : runFd T big d_fraction [.val a0, .val a1] = (f_fraction a0 a1).bind fun r => .ok (r, none) := by
  show endOf none false (runL (exS T big none false 40) c_fraction [.val a0, .val a1, .no, .no]) = _
  rw [end_obs]
  unfold c_fraction f_fraction
  simp -implicitDefEqProofs only [obs_nil, obs_cons, obs_nx, obs_rt, obs_bk, obs_ct, obs_bad, obs_o, obs_ite, obs_own, out_none, out_some, stK_n, stK_t1, stK_t2, stK_t3, stK_t4, smK_nil, smK_cons, obs_asg, obs_par, obs_set, obs_app, obs_pop, x_rem, obs_rem, x_expr, y_asgO, obs_asgO, y_frz, y_wip, y_retO, y_retF, obs_retF, x_brk, x_cont, x_pass, x_stop, obs_for, x_asg, x_ret, x_ite, x_par, x_whl, x_setI, setR_eq, x_app, x_for, e_c, e_v, e_g, e_pr, prR, e_and, e_or, e_ite, y_and, y_or, y_ite, e_ch, y_ch, e_lc, y_lc, y_lcb, a_lcb, a_nil, a_c, a_g, a_v, a_pr, a_and, a_or, a_ite, a_ch, a_call, a_lc, cons_ok, a_bw, a_io, v_0, v_s, w_0, w_v, w_n, w_s, rd_nil, rd_d, rd_b, om_some, el_nil, el_cons, elc_ok, b_ok, b_bad, b_assoc, iteD_t, iteD_f, iteD_bind, un1_bind, un2_bind, un3_bind, un4_bind, un1_t, un2_t, un3_t, un4_t, asL_bind, asL_l, ownK_s, el_nx, el_rt, el_bind, lcK_bind, nlG_bind, if_true, if_false, fls_iff, tru_iff, n_isSome, s_isSome, isIo_n, isIo_s, ioIn_n, ioIn_s, List.set_cons_zero, List.set_cons_succ, Bool.false_eq_true, Bool.true_eq_false, dt0, dl0, dt1, dl1, dt2, dl2, dt3, dl3, dt4, dl4, dt5, dl5, dt6, dl6, dt7, dl7, dt8, dl8, dt9, dl9, dt10, dl10, dt11, dl11, dt12, dl12, wi_nil, wi_cons, re_nil, re_cons, no_cons, Nat.reduceBEq, Nat.reduceEqDiff, reduceCtorEq, Bool.and_true, Bool.true_and, Bool.and_self, List.contains_cons, List.contains_nil, Bool.or_false, Bool.false_or, Bool.or_self, Option.getD_some, Option.getD_none, List.getElem?_cons_zero, List.getElem?_cons_succ, nx_ok, nx_bad, nx_bind, nx_nx, nx_iteD, nx_un1, nx_un2, nx_itR, nx_lcK, nx_nlG, nx_prim, no_nil, no_v, no_n, no_s, e_call _ _ _ h_common_divisor.1, k_fraction_1 h_common_divisor]
theorem cp_fraction {T : Tab} (h_common_divisor : P2 T "common_divisor" false f_common_divisor)  : P2 (T.add big d_fraction) "fraction" false f_fraction := P2.mk rfl rfl fun a0 a1 => q_fraction h_common_divisor a0 a1
theorem k_add_1 {T : Tab} (h_fraction : P2 T "fraction" false f_fraction) : ∀ (x0 x1 : D) (en : En), callR T "fraction" [] ([.d x0, .d x1], en) = (f_fraction x0 x1).bind fun r => .ok (r, en) := by
  intro x0 x1 en
  rw [y_callF (as := [.d x0, .d x1]) _ rfl]
  simp only [r_nil, r_d, r_b, r_o, om_some, resK_s, ownK_s, List.map_cons, List.map_nil, List.cons_append, List.nil_append, h_fraction.2.2, b_assoc, b_ok]
  exact congrArg (R.bind _) (funext fun r => q_pure _ _ rfl rfl)
theorem q_add {T : Tab} (h_fraction : P2 T "fraction" false f_fraction)  (a0 : D) (a1 : D) : runFd T big d_add [.val a0, .val a1] = (f_add a0 a1).bind fun r => .ok (r, none) := by
  show endOf none false (runL (exS T big none false 40) c_add [.val a0, .val a1]) = _
  rw [end_obs]
  unfold c_add f_add
  simp -implicitDefEqProofs only [obs_nil, obs_cons, obs_nx, obs_rt, obs_bk, obs_ct, obs_bad, obs_o, obs_ite, obs_own, out_none, out_some, stK_n, stK_t1, stK_t2, stK_t3, stK_t4, smK_nil, smK_cons, obs_asg, obs_par, obs_set, obs_app, obs_pop, x_rem, obs_rem, x_expr, y_asgO, obs_asgO, y_frz, y_wip, y_retO, y_retF, obs_retF, x_brk, x_cont, x_pass, x_stop, obs_for, x_asg, x_ret, x_ite, x_par, x_whl, x_setI, setR_eq, x_app, x_for, e_c, e_v, e_g, e_pr, prR, e_and, e_or, e_ite, y_and, y_or, y_ite, e_ch, y_ch, e_lc, y_lc, y_lcb, a_lcb, a_nil, a_c, a_g, a_v, a_pr, a_and, a_or, a_ite, a_ch, a_call, a_lc, cons_ok, a_bw, a_io, v_0, v_s, w_0, w_v, w_n, w_s, rd_nil, rd_d, rd_b, om_some, el_nil, el_cons, elc_ok, b_ok, b_bad, b_assoc, iteD_t, iteD_f, iteD_bind, un1_bind, un2_bind, un3_bind, un4_bind, un1_t, un2_t, un3_t, un4_t, asL_bind, asL_l, ownK_s, el_nx, el_rt, el_bind, lcK_bind, nlG_bind, if_true, if_false, fls_iff, tru_iff, n_isSome, s_isSome, isIo_n, isIo_s, ioIn_n, ioIn_s, List.set_cons_zero, List.set_cons_succ, Bool.false_eq_true, Bool.true_eq_false, dt0, dl0, dt1, dl1, dt2, dl2, dt3, dl3, dt4, dl4, dt5, dl5, dt6, dl6, dt7, dl7, dt8, dl8, dt9, dl9, dt10, dl10, dt11, dl11, dt12, dl12, wi_nil, wi_cons, re_nil, re_cons, no_cons, Nat.reduceBEq, Nat.reduceEqDiff, reduceCtorEq, Bool.and_true, Bool.true_and, Bool.and_self, List.contains_cons, List.contains_nil, Bool.or_false, Bool.false_or, Bool.or_self, Option.getD_some, Option.getD_none, List.getElem?_cons_zero, List.getElem?_cons_succ, nx_ok, nx_bad, nx_bind, nx_nx, nx_iteD, nx_un1, nx_un2, nx_itR, nx_lcK, nx_nlG, nx_prim, no_nil, no_v, no_n, no_s, e_call _ _ _ h_fraction.1, k_add_1 h_fraction]
theorem cp_add {T : Tab} (h_fraction : P2 T "fraction" false f_fraction)  : P2 (T.add big d_add) "add" false f_add := P2.mk rfl rfl fun a0 a1 => q_add h_fraction a0 a1
theorem k_multiply_1 {T : Tab} (h_fraction : P2 T "fraction" false f_fraction) : ∀ (x0 x1 : D) (en : En), callR T "fraction" [] ([.d x0, .d x1], en) = (f_fraction x0 x1).bind fun r => .ok (r, en) := by
  intro x0 x1 en
  rw [y_callF (as := [.d x0, .d x1]) _ rfl]
  simp only [r_nil, r_d, r_b, r_o, om_some, resK_s, ownK_s, List.map_cons, List.map_nil, List.cons_append, List.nil_append, h_fraction.2.2, b_assoc, b_ok]
  exact congrArg (R.bind _) (funext fun r => q_pure _ _ rfl rfl)
theorem q_multiply {T : Tab} (h_fraction : P2 T "fraction" false f_fraction)  (a0 : D) (a1 : D) : runFd T big d_multiply [.val a0, .val a1] = (f_multiply a0 a1).bind fun r => .ok (r, none) := by
  show endOf none false (runL (exS T big none false 40) c_multiply [.val a0, .val a1]) = _
  rw [end_obs]
  unfold c_multiply f_multiply
  simp -implicitDefEqProofs only [obs_nil, obs_cons, obs_nx, obs_rt, obs_bk, obs_ct, obs_bad, obs_o, obs_ite, obs_own, out_none, out_some, stK_n, stK_t1, stK_t2, stK_t3, stK_t4, smK_nil, smK_cons, obs_asg, obs_par, obs_set, obs_app, obs_pop, x_rem, obs_rem, x_expr, y_asgO, obs_asgO, y_frz, y_wip, y_retO, y_retF, obs_retF, x_brk, x_cont, x_pass, x_stop, obs_for, x_asg, x_ret, x_ite, x_par, x_whl, x_setI, setR_eq, x_app, x_for, e_c, e_v, e_g, e_pr, prR, e_and, e_or, e_ite, y_and, y_or, y_ite, e_ch, y_ch, e_lc, y_lc, y_lcb, a_lcb, a_nil, a_c, a_g, a_v, a_pr, a_and, a_or, a_ite, a_ch, a_call, a_lc, cons_ok, a_bw, a_io, v_0, v_s, w_0, w_v, w_n, w_s, rd_nil, rd_d, rd_b, om_some, el_nil, el_cons, elc_ok, b_ok, b_bad, b_assoc, iteD_t, iteD_f, iteD_bind, un1_bind, un2_bind, un3_bind, un4_bind, un1_t, un2_t, un3_t, un4_t, asL_bind, asL_l, ownK_s, el_nx, el_rt, el_bind, lcK_bind, nlG_bind, if_true, if_false, fls_iff, tru_iff, n_isSome, s_isSome, isIo_n, isIo_s, ioIn_n, ioIn_s, List.set_cons_zero, List.set_cons_succ, Bool.false_eq_true, Bool.true_eq_false, dt0, dl0, dt1, dl1, dt2, dl2, dt3, dl3, dt4, dl4, dt5, dl5, dt6, dl6, dt7, dl7, dt8, dl8, dt9, dl9, dt10, dl10, dt11, dl11, dt12, dl12, wi_nil, wi_cons, re_nil, re_cons, no_cons, Nat.reduceBEq, Nat.reduceEqDiff, reduceCtorEq, Bool.and_true, Bool.true_and, Bool.and_self, List.contains_cons, List.contains_nil, Bool.or_false, Bool.false_or, Bool.or_self, Option.getD_some, Option.getD_none, List.getElem?_cons_zero, List.getElem?_cons_succ, nx_ok, nx_bad, nx_bind, nx_nx, nx_iteD, nx_un1, nx_un2, nx_itR, nx_lcK, nx_nlG, nx_prim, no_nil, no_v, no_n, no_s, e_call _ _ _ h_fraction.1, k_multiply_1 h_fraction]
theorem cp_multiply {T : Tab} (h_fraction : P2 T "fraction" false f_fraction)  : P2 (T.add big d_multiply) "multiply" false f_multiply := P2.mk rfl rfl fun a0 a1 => q_multiply h_fraction a0 a1
theorem k_subtract_1 {T : Tab} (h_add : P2 T "add" false f_add) : ∀ (x0 x1 : D) (en : En), callR T "add" [] ([.d x0, .d x1], en) = (f_add x0 x1).bind fun r => .ok (r, en) := by
  intro x0 x1 en
  rw [y_callF (as := [.d x0, .d x1]) _ rfl]
  simp only [r_nil, r_d, r_b, r_o, om_some, resK_s, ownK_s, List.map_cons, List.map_nil, List.cons_append, List.nil_append, h_add.2.2, b_assoc, b_ok]
  exact congrArg (R.bind _) (funext fun r => q_pure _ _ rfl rfl)
theorem k_subtract_2 {T : Tab} (h_negative : P1 T "negative" false f_negative) : ∀ (x0 : D) (en : En), callR T "negative" [] ([.d x0], en) = (f_negative x0).bind fun r => .ok (r, en) := by
  intro x0 en
  rw [y_callF (as := [.d x0]) _ rfl]
  simp only [r_nil, r_d, r_b, r_o, om_some, resK_s, ownK_s, List.map_cons, List.map_nil, List.cons_append, List.nil_append, h_negative.2.2, b_assoc, b_ok]
  exact congrArg (R.bind _) (funext fun r => q_pure _ _ rfl rfl)
theorem q_subtract {T : Tab} (h_add : P2 T "add" false f_add) (h_negative : P1 T "negative" false f_negative)  (a0 : D) (a1 : D) : runFd T big d_subtract [.val a0, .val a1] = (f_subtract a0 a1).bind fun r => .ok (r, none) := by
  show endOf none false (runL (exS T big none false 40) c_subtract [.val a0, .val a1]) = _
  rw [end_obs]
  unfold c_subtract f_subtract
  simp -implicitDefEqProofs only [obs_nil, obs_cons, obs_nx, obs_rt, obs_bk, obs_ct, obs_bad, obs_o, obs_ite, obs_own, out_none, out_some, stK_n, stK_t1, stK_t2, stK_t3, stK_t4, smK_nil, smK_cons, obs_asg, obs_par, obs_set, obs_app, obs_pop, x_rem, obs_rem, x_expr, y_asgO, obs_asgO, y_frz, y_wip, y_retO, y_retF, obs_retF, x_brk, x_cont, x_pass, x_stop, obs_for, x_asg, x_ret, x_ite, x_par, x_whl, x_setI, setR_eq, x_app, x_for, e_c, e_v, e_g, e_pr, prR, e_and, e_or, e_ite, y_and, y_or, y_ite, e_ch, y_ch, e_lc, y_lc, y_lcb, a_lcb, a_nil, a_c, a_g, a_v, a_pr, a_and, a_or, a_ite, a_ch, a_call, a_lc, cons_ok, a_bw, a_io, v_0, v_s, w_0, w_v, w_n, w_s, rd_nil, rd_d, rd_b, om_some, el_nil, el_cons, elc_ok, b_ok, b_bad, b_assoc, iteD_t, iteD_f, iteD_bind, un1_bind, un2_bind, un3_bind, un4_bind, un1_t, un2_t, un3_t, un4_t, asL_bind, asL_l, ownK_s, el_nx, el_rt, el_bind, lcK_bind, nlG_bind, if_true, if_false, fls_iff, tru_iff, n_isSome, s_isSome, isIo_n, isIo_s, ioIn_n, ioIn_s, List.set_cons_zero, List.set_cons_succ, Bool.false_eq_true, Bool.true_eq_false, dt0, dl0, dt1, dl1, dt2, dl2, dt3, dl3, dt4, dl4, dt5, dl5, dt6, dl6, dt7, dl7, dt8, dl8, dt9, dl9, dt10, dl10, dt11, dl11, dt12, dl12, wi_nil, wi_cons, re_nil, re_cons, no_cons, Nat.reduceBEq, Nat.reduceEqDiff, reduceCtorEq, Bool.and_true, Bool.true_and, Bool.and_self, List.contains_cons, List.contains_nil, Bool.or_false, Bool.false_or, Bool.or_self, Option.getD_some, Option.getD_none, List.getElem?_cons_zero, List.getElem?_cons_succ, nx_ok, nx_bad, nx_bind, nx_nx, nx_iteD, nx_un1, nx_un2, nx_itR, nx_lcK, nx_nlG, nx_prim, no_nil, no_v, no_n, no_s, e_call _ _ _ h_add.1, e_call _ _ _ h_negative.1, k_subtract_1 h_add, k_subtract_2 h_negative]
theorem cp_subtract {T : Tab} (h_add : P2 T "add" false f_add) (h_negative : P1 T "negative" false f_negative)  : P2 (T.add big d_subtract) "subtract" false f_subtract := P2.mk rfl rfl fun a0 a1 => q_subtract h_add h_negative a0 a1
end Vm
end
section
set_option Elab.async false
set_option linter.all false
set_option maxRecDepth 100000
set_option maxHeartbeats 0
namespace Vm
open PySem PySem.Spec L2
end Vm
end
section
set_option Elab.async false
set_option linter.all false
set_option maxRecDepth 100000
set_option maxHeartbeats 0
namespace Vm
open PySem PySem.Spec L2
theorem k_divide_1 {T : Tab} (h_fraction : P2 T "fraction" false f_fraction) : ∀ (x0 x1 : D) (en : En), callR T "fraction" [] ([.d x0, .d x1], en) = (f_fraction x0 x1).bind fun r => .ok (r, en) := by
  intro x0 x1 en
  rw [y_callF (as := [.d x0, .d x1]) _ rfl]
  simp only [r_nil, r_d, r_b, r_o, om_some, resK_s, ownK_s, List.map_cons, List.map_nil, List.cons_append, List.nil_append, h_fraction.2.2, b_assoc, b_ok]
  exact congrArg (R.bind _) (funext fun r => q_pure _ _ rfl rfl)
theorem q_divide {T : Tab} (h_fraction : P2 T "fraction" false f_fraction)  (a0 : D) (a1 : D) : runFd T big d_divide [.val a0, .val a1] = (f_divide a0 a1).bind fun r => .ok (r, none) := by
  show endOf none false (runL (exS T big none false 40) c_divide [.val a0, .val a1]) = _
  rw [end_obs]
  unfold c_divide f_divide
  simp -implicitDefEqProofs only [obs_nil, obs_cons, obs_nx, obs_rt, obs_bk, obs_ct, obs_bad, obs_o, obs_ite, obs_own, out_none, out_some, stK_n, stK_t1, stK_t2, stK_t3, stK_t4, smK_nil, smK_cons, obs_asg, obs_par, obs_set, obs_app, obs_pop, x_rem, obs_rem, x_expr, y_asgO, obs_asgO, y_frz, y_wip, y_retO, y_retF, obs_retF, x_brk, x_cont, x_pass, x_stop, obs_for, x_asg, x_ret, x_ite, x_par, x_whl, x_setI, setR_eq, x_app, x_for, e_c, e_v, e_g, e_pr, prR, e_and, e_or, e_ite, y_and, y_or, y_ite, e_ch, y_ch, e_lc, y_lc, y_lcb, a_lcb, a_nil, a_c, a_g, a_v, a_pr, a_and, a_or, a_ite, a_ch, a_call, a_lc, cons_ok, a_bw, a_io, v_0, v_s, w_0, w_v, w_n, w_s, rd_nil, rd_d, rd_b, om_some, el_nil, el_cons, elc_ok, b_ok, b_bad, b_assoc, iteD_t, iteD_f, iteD_bind, un1_bind, un2_bind, un3_bind, un4_bind, un1_t, un2_t, un3_t, un4_t, asL_bind, asL_l, ownK_s, el_nx, el_rt, el_bind, lcK_bind, nlG_bind, if_true, if_false, fls_iff, tru_iff, n_isSome, s_isSome, isIo_n, isIo_s, ioIn_n, ioIn_s, List.set_cons_zero, List.set_cons_succ, Bool.false_eq_true, Bool.true_eq_false, dt0, dl0, dt1, dl1, dt2, dl2, dt3, dl3, dt4, dl4, dt5, dl5, dt6, dl6, dt7, dl7, dt8, dl8, dt9, dl9, dt10, dl10, dt11, dl11, dt12, dl12, wi_nil, wi_cons, re_nil, re_cons, no_cons, Nat.reduceBEq, Nat.reduceEqDiff, reduceCtorEq, Bool.and_true, Bool.true_and, Bool.and_self, List.contains_cons, List.contains_nil, Bool.or_false, Bool.false_or, Bool.or_self, Option.getD_some, Option.getD_none, List.getElem?_cons_zero, List.getElem?_cons_succ, nx_ok, nx_bad, nx_bind, nx_nx, nx_iteD, nx_un1, nx_un2, nx_itR, nx_lcK, nx_nlG, nx_prim, no_nil, no_v, no_n, no_s, e_call _ _ _ h_fraction.1, k_divide_1 h_fraction]
theorem cp_divide {T : Tab} (h_fraction : P2 T "fraction" false f_fraction)  : P2 (T.add big d_divide) "divide" false f_divide := P2.mk rfl rfl fun a0 a1 => q_divide h_fraction a0 a1
end Vm
end
section
set_option Elab.async false
set_option linter.all false
set_option maxRecDepth 100000
set_option maxHeartbeats 0
namespace Vm
open PySem PySem.Spec L2
end Vm
end
section
set_option Elab.async false
set_option linter.all false
set_option maxRecDepth 100000
set_option maxHeartbeats 0
namespace Vm
open PySem PySem.Spec L2
end Vm
end
section
set_option Elab.async false
set_option linter.all false
set_option maxRecDepth 100000
set_option maxHeartbeats 0
namespace Vm
open PySem PySem.Spec L2
end Vm
end
section
set_option Elab.async false
set_option linter.all false
set_option maxRecDepth 100000
set_option maxHeartbeats 0
namespace Vm
open PySem PySem.Spec L2
theorem l_law_supply_c1 {T : Tab}     (s0 s1 s3 : Slot) : ∀ (ds : List D) , lcGo (lcC T 38 none) (evE T 38 (.pr .abs [.v 2])) (.n 2) [2] ds [s0, s1, .no, s3] = (f_law_supply_c1 ds).bind fun r => .ok (r, [s0, s1, .no, s3])
  | [] => by simp -implicitDefEqProofs only [lc_0, f_law_supply_c1, b_ok]
  | d :: ds => by
    simp -implicitDefEqProofs only [obs_nil, obs_cons, obs_nx, obs_rt, obs_bk, obs_ct, obs_bad, obs_o, obs_ite, obs_own, out_none, out_some, stK_n, stK_t1, stK_t2, stK_t3, stK_t4, smK_nil, smK_cons, obs_asg, obs_par, obs_set, obs_app, obs_pop, x_rem, obs_rem, x_expr, y_asgO, obs_asgO, y_frz, y_wip, y_retO, y_retF, obs_retF, x_brk, x_cont, x_pass, x_stop, obs_for, x_asg, x_ret, x_ite, x_par, x_whl, x_setI, setR_eq, x_app, x_for, e_c, e_v, e_g, e_pr, prR, e_and, e_or, e_ite, y_and, y_or, y_ite, e_ch, y_ch, e_lc, y_lc, y_lcb, a_lcb, a_nil, a_c, a_g, a_v, a_pr, a_and, a_or, a_ite, a_ch, a_call, a_lc, cons_ok, a_bw, a_io, v_0, v_s, w_0, w_v, w_n, w_s, rd_nil, rd_d, rd_b, om_some, el_nil, el_cons, elc_ok, b_ok, b_bad, b_assoc, iteD_t, iteD_f, iteD_bind, un1_bind, un2_bind, un3_bind, un4_bind, un1_t, un2_t, un3_t, un4_t, asL_bind, asL_l, ownK_s, el_nx, el_rt, el_bind, lcK_bind, nlG_bind, ioG_bind, if_true, if_false, fls_iff, tru_iff, n_isSome, s_isSome, isIo_n, isIo_s, ioIn_n, ioIn_s, List.set_cons_zero, List.set_cons_succ, Bool.false_eq_true, Bool.true_eq_false, dt0, dl0, dt1, dl1, dt2, dl2, dt3, dl3, dt4, dl4, dt5, dl5, dt6, dl6, dt7, dl7, dt8, dl8, dt9, dl9, dt10, dl10, dt11, dl11, dt12, dl12, wi_nil, wi_cons, re_nil, re_cons, no_cons, Nat.reduceBEq, Nat.reduceEqDiff, reduceCtorEq, Bool.and_true, Bool.true_and, Bool.and_self, List.contains_cons, List.contains_nil, Bool.or_false, Bool.false_or, Bool.or_self, Option.getD_some, Option.getD_none, List.getElem?_cons_zero, List.getElem?_cons_succ, nx_ok, nx_bad, nx_bind, nx_nx, nx_iteD, nx_un1, nx_un2, nx_itR, nx_lcK, nx_nlG, nx_ioG, nx_prim, no_nil, no_v, no_n, no_s, lc_1, lcC_n, lcC_s, f_law_supply_c1, l_law_supply_c1  s0 s1 s3 ds]
theorem l_law_supply_l1 {T : Tab} {kn kc kb : En → R XO}     (s0 : Slot) : ∀ (ds : List D) (w3 : List D), obs none (loopF (.t [1, 2]) (runL (exS T big none true 39) b_law_supply_1) ds [s0, .no, .no, .own w3]) kn kc kb = (f_law_supply_l1 ds w3).bind fun s => kn [s0, .no, .no, .own s]
  | [], w3 => by simp -implicitDefEqProofs only [obs_f0, f_law_supply_l1, b_ok, el_nx]
  | d :: ds, w3 => by
    have lrec := l_law_supply_l1 (T := T) (kn := kn) (kc := kc) (kb := kb)  s0 ds
    rw [obs_f1]
    generalize loopF (.t [1, 2]) (runL (exS T big none true 39) b_law_supply_1) ds = loop at lrec ⊢
    unfold b_law_supply_1
    simp -implicitDefEqProofs only [obs_nil, obs_cons, obs_nx, obs_rt, obs_bk, obs_ct, obs_bad, obs_o, obs_ite, obs_own, out_none, out_some, stK_n, stK_t1, stK_t2, stK_t3, stK_t4, smK_nil, smK_cons, obs_asg, obs_par, obs_set, obs_app, obs_pop, x_rem, obs_rem, x_expr, y_asgO, obs_asgO, y_frz, y_wip, y_retO, y_retF, obs_retF, x_brk, x_cont, x_pass, x_stop, obs_for, x_asg, x_ret, x_ite, x_par, x_whl, x_setI, setR_eq, x_app, x_for, e_c, e_v, e_g, e_pr, prR, e_and, e_or, e_ite, y_and, y_or, y_ite, e_ch, y_ch, e_lc, y_lc, y_lcb, a_lcb, a_nil, a_c, a_g, a_v, a_pr, a_and, a_or, a_ite, a_ch, a_call, a_lc, cons_ok, a_bw, a_io, v_0, v_s, w_0, w_v, w_n, w_s, rd_nil, rd_d, rd_b, om_some, el_nil, el_cons, elc_ok, b_ok, b_bad, b_assoc, iteD_t, iteD_f, iteD_bind, un1_bind, un2_bind, un3_bind, un4_bind, un1_t, un2_t, un3_t, un4_t, asL_bind, asL_l, ownK_s, el_nx, el_rt, el_bind, lcK_bind, nlG_bind, ioG_bind, if_true, if_false, fls_iff, tru_iff, n_isSome, s_isSome, isIo_n, isIo_s, ioIn_n, ioIn_s, List.set_cons_zero, List.set_cons_succ, Bool.false_eq_true, Bool.true_eq_false, dt0, dl0, dt1, dl1, dt2, dl2, dt3, dl3, dt4, dl4, dt5, dl5, dt6, dl6, dt7, dl7, dt8, dl8, dt9, dl9, dt10, dl10, dt11, dl11, dt12, dl12, wi_nil, wi_cons, re_nil, re_cons, no_cons, Nat.reduceBEq, Nat.reduceEqDiff, reduceCtorEq, Bool.and_true, Bool.true_and, Bool.and_self, List.contains_cons, List.contains_nil, Bool.or_false, Bool.false_or, Bool.or_self, Option.getD_some, Option.getD_none, List.getElem?_cons_zero, List.getElem?_cons_succ, nx_ok, nx_bad, nx_bind, nx_nx, nx_iteD, nx_un1, nx_un2, nx_itR, nx_lcK, nx_nlG, nx_ioG, nx_prim, no_nil, no_v, no_n, no_s, l_law_supply_c1 , f_law_supply_l1, lrec]
theorem q_law_supply {T : Tab}    (a0 : D) : runFd T big d_law_supply [.val a0] = (f_law_supply a0).bind fun r => .ok (r, none) := by
  show endOf none true (runL (exS T big none true 40) c_law_supply [.val a0, .no, .no, .no]) = _
  rw [end_obs]
  unfold c_law_supply f_law_supply
  simp -implicitDefEqProofs only [obs_nil, obs_cons, obs_nx, obs_rt, obs_bk, obs_ct, obs_bad, obs_o, obs_ite, obs_own, out_none, out_some, stK_n, stK_t1, stK_t2, stK_t3, stK_t4, smK_nil, smK_cons, obs_asg, obs_par, obs_set, obs_app, obs_pop, x_rem, obs_rem, x_expr, y_asgO, obs_asgO, y_frz, y_wip, y_retO, y_retF, obs_retF, x_brk, x_cont, x_pass, x_stop, obs_for, x_asg, x_ret, x_ite, x_par, x_whl, x_setI, setR_eq, x_app, x_for, e_c, e_v, e_g, e_pr, prR, e_and, e_or, e_ite, y_and, y_or, y_ite, e_ch, y_ch, e_lc, y_lc, y_lcb, a_lcb, a_nil, a_c, a_g, a_v, a_pr, a_and, a_or, a_ite, a_ch, a_call, a_lc, cons_ok, a_bw, a_io, v_0, v_s, w_0, w_v, w_n, w_s, rd_nil, rd_d, rd_b, om_some, el_nil, el_cons, elc_ok, b_ok, b_bad, b_assoc, iteD_t, iteD_f, iteD_bind, un1_bind, un2_bind, un3_bind, un4_bind, un1_t, un2_t, un3_t, un4_t, asL_bind, asL_l, ownK_s, el_nx, el_rt, el_bind, lcK_bind, nlG_bind, ioG_bind, if_true, if_false, fls_iff, tru_iff, n_isSome, s_isSome, isIo_n, isIo_s, ioIn_n, ioIn_s, List.set_cons_zero, List.set_cons_succ, Bool.false_eq_true, Bool.true_eq_false, dt0, dl0, dt1, dl1, dt2, dl2, dt3, dl3, dt4, dl4, dt5, dl5, dt6, dl6, dt7, dl7, dt8, dl8, dt9, dl9, dt10, dl10, dt11, dl11, dt12, dl12, wi_nil, wi_cons, re_nil, re_cons, no_cons, Nat.reduceBEq, Nat.reduceEqDiff, reduceCtorEq, Bool.and_true, Bool.true_and, Bool.and_self, List.contains_cons, List.contains_nil, Bool.or_false, Bool.false_or, Bool.or_self, Option.getD_some, Option.getD_none, List.getElem?_cons_zero, List.getElem?_cons_succ, nx_ok, nx_bad, nx_bind, nx_nx, nx_iteD, nx_un1, nx_un2, nx_itR, nx_lcK, nx_nlG, nx_ioG, nx_prim, no_nil, no_v, no_n, no_s, l_law_supply_c1 , l_law_supply_l1 ]
theorem cp_law_supply {T : Tab}    : P1 (T.add big d_law_supply) "_law_supply" true f_law_supply := P1.mk rfl rfl fun a0 => q_law_supply  a0
theorem l_law_blended_l1 {T : Tab} {kn kc kb : En → R XO}    (v1 : D) (v3 : D) (s0 : Slot) : ∀ (ds : List D) (w2 : D), obs none (loopF (.n 4) (runL (exS T big none false 39) b_law_blended_1) ds [s0, .val v1, .val w2, .val v3, .no]) kn kc kb = (f_law_blended_l1 v1 v3 ds w2).bind fun s => kn [s0, .val v1, .val s, .val v3, .no]
  | [], w2 => by simp -implicitDefEqProofs only [obs_f0, f_law_blended_l1, b_ok, el_nx]
  | d :: ds, w2 => by
    have lrec := l_law_blended_l1 (T := T) (kn := kn) (kc := kc) (kb := kb)  v1 v3 s0 ds
    rw [obs_f1]
    generalize loopF (.n 4) (runL (exS T big none false 39) b_law_blended_1) ds = loop at lrec ⊢
    unfold b_law_blended_1
    simp -implicitDefEqProofs only [obs_nil, obs_cons, obs_nx, obs_rt, obs_bk, obs_ct, obs_bad, obs_o, obs_ite, obs_own, out_none, out_some, stK_n, stK_t1, stK_t2, stK_t3, stK_t4, smK_nil, smK_cons, obs_asg, obs_par, obs_set, obs_app, obs_pop, x_rem, obs_rem, x_expr, y_asgO, obs_asgO, y_frz, y_wip, y_retO, y_retF, obs_retF, x_brk, x_cont, x_pass, x_stop, obs_for, x_asg, x_ret, x_ite, x_par, x_whl, x_setI, setR_eq, x_app, x_for, e_c, e_v, e_g, e_pr, prR, e_and, e_or, e_ite, y_and, y_or, y_ite, e_ch, y_ch, e_lc, y_lc, y_lcb, a_lcb, a_nil, a_c, a_g, a_v, a_pr, a_and, a_or, a_ite, a_ch, a_call, a_lc, cons_ok, a_bw, a_io, v_0, v_s, w_0, w_v, w_n, w_s, rd_nil, rd_d, rd_b, om_some, el_nil, el_cons, elc_ok, b_ok, b_bad, b_assoc, iteD_t, iteD_f, iteD_bind, un1_bind, un2_bind, un3_bind, un4_bind, un1_t, un2_t, un3_t, un4_t, asL_bind, asL_l, ownK_s, el_nx, el_rt, el_bind, lcK_bind, nlG_bind, ioG_bind, if_true, if_false, fls_iff, tru_iff, n_isSome, s_isSome, isIo_n, isIo_s, ioIn_n, ioIn_s, List.set_cons_zero, List.set_cons_succ, Bool.false_eq_true, Bool.true_eq_false, dt0, dl0, dt1, dl1, dt2, dl2, dt3, dl3, dt4, dl4, dt5, dl5, dt6, dl6, dt7, dl7, dt8, dl8, dt9, dl9, dt10, dl10, dt11, dl11, dt12, dl12, wi_nil, wi_cons, re_nil, re_cons, no_cons, Nat.reduceBEq, Nat.reduceEqDiff, reduceCtorEq, Bool.and_true, Bool.true_and, Bool.and_self, List.contains_cons, List.contains_nil, Bool.or_false, Bool.false_or, Bool.or_self, Option.getD_some, Option.getD_none, List.getElem?_cons_zero, List.getElem?_cons_succ, nx_ok, nx_bad, nx_bind, nx_nx, nx_iteD, nx_un1, nx_un2, nx_itR, nx_lcK, nx_nlG, nx_ioG, nx_prim, no_nil, no_v, no_n, no_s, f_law_blended_l1, lrec]
theorem q_law_blended {T : Tab}    (a0 : D) (a1 : D) : runFd T big d_law_blended [.val a0, .val a1] = (f_law_blended a0 a1).bind fun r => .ok (r, none) := by
  show endOf none false (runL (exS T big none false 40) c_law_blended [.val a0, .val a1, .no, .no, .no]) = _
  rw [end_obs]
  unfold c_law_blended f_law_blended
  simp -implicitDefEqProofs only [obs_nil, obs_cons, obs_nx, obs_rt, obs_bk, obs_ct, obs_bad, obs_o, obs_ite, obs_own, out_none, out_some, stK_n, stK_t1, stK_t2, stK_t3, stK_t4, smK_nil, smK_cons, obs_asg, obs_par, obs_set, obs_app, obs_pop, x_rem, obs_rem, x_expr, y_asgO, obs_asgO, y_frz, y_wip, y_retO, y_retF, obs_retF, x_brk, x_cont, x_pass, x_stop, obs_for, x_asg, x_ret, x_ite, x_par, x_whl, x_setI, setR_eq, x_app, x_for, e_c, e_v, e_g, e_pr, prR, e_and, e_or, e_ite, y_and, y_or, y_ite, e_ch, y_ch, e_lc, y_lc, y_lcb, a_lcb, a_nil, a_c, a_g, a_v, a_pr, a_and, a_or, a_ite, a_ch, a_call, a_lc, cons_ok, a_bw, a_io, v_0, v_s, w_0, w_v, w_n, w_s, rd_nil, rd_d, rd_b, om_some, el_nil, el_cons, elc_ok, b_ok, b_bad, b_assoc, iteD_t, iteD_f, iteD_bind, un1_bind, un2_bind, un3_bind, un4_bind, un1_t, un2_t, un3_t, un4_t, asL_bind, asL_l, ownK_s, el_nx, el_rt, el_bind, lcK_bind, nlG_bind, ioG_bind, if_true, if_false, fls_iff, tru_iff, n_isSome, s_isSome, isIo_n, isIo_s, ioIn_n, ioIn_s, List.set_cons_zero, List.set_cons_succ, Bool.false_eq_true, Bool.true_eq_false, dt0, dl0, dt1, dl1, dt2, dl2, dt3, dl3, dt4, dl4, dt5, dl5, dt6, dl6, dt7, dl7, dt8, dl8, dt9, dl9, dt10, dl10, dt11, dl11, dt12, dl12, wi_nil, wi_cons, re_nil, re_cons, no_cons, Nat.reduceBEq, Nat.reduceEqDiff, reduceCtorEq, Bool.and_true, Bool.true_and, Bool.and_self, List.contains_cons, List.contains_nil, Bool.or_false, Bool.false_or, Bool.or_self, Option.getD_some, Option.getD_none, List.getElem?_cons_zero, List.getElem?_cons_succ, nx_ok, nx_bad, nx_bind, nx_nx, nx_iteD, nx_un1, nx_un2, nx_itR, nx_lcK, nx_nlG, nx_ioG, nx_prim, no_nil, no_v, no_n, no_s, l_law_blended_l1 ]
theorem cp_law_blended {T : Tab}    : P2 (T.add big d_law_blended) "_law_blended" false f_law_blended := P2.mk rfl rfl fun a0 a1 => q_law_blended  a0 a1
theorem k_law_below_2_1 {T : Tab} (h_law_blended : P2 T "_law_blended" false f_law_blended) : ∀ (x0 x1 : D) (en : En), callR T "_law_blended" [] ([.d x0, .d x1], en) = (f_law_blended x0 x1).bind fun r => .ok (r, en) := by
  intro x0 x1 en
  rw [y_callF (as := [.d x0, .d x1]) _ rfl]
  simp only [r_nil, r_d, r_b, r_o, om_some, resK_s, ownK_s, List.map_cons, List.map_nil, List.cons_append, List.nil_append, h_law_blended.2.2, b_assoc, b_ok]
  exact congrArg (R.bind _) (funext fun r => q_pure _ _ rfl rfl)
theorem q_law_below_2 {T : Tab} (h_law_blended : P2 T "_law_blended" false f_law_blended)   (c : List D) (a1 : D) : runFd T big d_law_below_2 [.own c, .val a1] = (f_law_below_2 c a1).bind fun r => .ok (r.1, some r.2) := by
  show endOf (some 0) false (runL (exS T big (some 0) false 40) c_law_below_2 [.own c, .val a1, .no, .no, .no, .no]) = _
  rw [end_obs]
  unfold c_law_below_2 f_law_below_2
  simp -implicitDefEqProofs only [obs_nil, obs_cons, obs_nx, obs_rt, obs_bk, obs_ct, obs_bad, obs_o, obs_ite, obs_own, out_none, out_some, stK_n, stK_t1, stK_t2, stK_t3, stK_t4, smK_nil, smK_cons, obs_asg, obs_par, obs_set, obs_app, obs_pop, x_rem, obs_rem, x_expr, y_asgO, obs_asgO, y_frz, y_wip, y_retO, y_retF, obs_retF, x_brk, x_cont, x_pass, x_stop, obs_for, x_asg, x_ret, x_ite, x_par, x_whl, x_setI, setR_eq, x_app, x_for, e_c, e_v, e_g, e_pr, prR, e_and, e_or, e_ite, y_and, y_or, y_ite, e_ch, y_ch, e_lc, y_lc, y_lcb, a_lcb, a_nil, a_c, a_g, a_v, a_pr, a_and, a_or, a_ite, a_ch, a_call, a_lc, cons_ok, a_bw, a_io, v_0, v_s, w_0, w_v, w_n, w_s, rd_nil, rd_d, rd_b, om_some, el_nil, el_cons, elc_ok, b_ok, b_bad, b_assoc, iteD_t, iteD_f, iteD_bind, un1_bind, un2_bind, un3_bind, un4_bind, un1_t, un2_t, un3_t, un4_t, asL_bind, asL_l, ownK_s, el_nx, el_rt, el_bind, lcK_bind, nlG_bind, ioG_bind, if_true, if_false, fls_iff, tru_iff, n_isSome, s_isSome, isIo_n, isIo_s, ioIn_n, ioIn_s, List.set_cons_zero, List.set_cons_succ, Bool.false_eq_true, Bool.true_eq_false, dt0, dl0, dt1, dl1, dt2, dl2, dt3, dl3, dt4, dl4, dt5, dl5, dt6, dl6, dt7, dl7, dt8, dl8, dt9, dl9, dt10, dl10, dt11, dl11, dt12, dl12, wi_nil, wi_cons, re_nil, re_cons, no_cons, Nat.reduceBEq, Nat.reduceEqDiff, reduceCtorEq, Bool.and_true, Bool.true_and, Bool.and_self, List.contains_cons, List.contains_nil, Bool.or_false, Bool.false_or, Bool.or_self, Option.getD_some, Option.getD_none, List.getElem?_cons_zero, List.getElem?_cons_succ, nx_ok, nx_bad, nx_bind, nx_nx, nx_iteD, nx_un1, nx_un2, nx_itR, nx_lcK, nx_nlG, nx_ioG, nx_prim, no_nil, no_v, no_n, no_s, e_call _ _ _ h_law_blended.1, k_law_below_2_1 h_law_blended]
theorem cp_law_below_2 {T : Tab} (h_law_blended : P2 T "_law_blended" false f_law_blended)   : I2 (T.add big d_law_below_2) "_law_below" false f_law_below_2 := I2.mk rfl rfl fun c a1 => q_law_below_2 h_law_blended c a1
theorem k_law_one_of_1 {T : Tab} (h_law_below_2 : I2 T "_law_below" false f_law_below_2) : ∀ (x1 : D) (en : En), callR T "_law_below" [] ([.o 0, .d x1], en) = ownK (ownAt en 0) fun l0 => (f_law_below_2 l0 x1).bind fun r => .ok (r.1, en.set 0 (.own r.2)) := by
  intro x1 en
  rw [y_callF (as := [.o 0, .d x1]) _ rfl]
  cases z0 : ownAt en 0 with
  | none => simp only [r_nil, r_d, r_b, r_o, om_some, om_none, resK_n, ownK_n, ownK_s, z0]
  | some l0 =>
    simp only [r_nil, r_d, r_b, r_o, om_some, resK_s, ownK_s, List.map_cons, List.map_nil, List.cons_append, List.nil_append, h_law_below_2.2.2, b_assoc, b_ok, z0]
    exact congrArg (R.bind _) (funext fun r => q_io _ _ _ rfl rfl)
theorem q_law_one_of {T : Tab} (h_law_below_2 : I2 T "_law_below" false f_law_below_2)   (c : List D) (a1 : D) : runFd T big d_law_one_of [.own c, .val a1] = (f_law_one_of c a1).bind fun r => .ok (r.1, some r.2) := by
  show endOf (some 0) false (runL (exS T big (some 0) false 40) c_law_one_of [.own c, .val a1]) = _
  rw [end_obs]
  unfold c_law_one_of f_law_one_of
  simp -implicitDefEqProofs only [obs_nil, obs_cons, obs_nx, obs_rt, obs_bk, obs_ct, obs_bad, obs_o, obs_ite, obs_own, out_none, out_some, stK_n, stK_t1, stK_t2, stK_t3, stK_t4, smK_nil, smK_cons, obs_asg, obs_par, obs_set, obs_app, obs_pop, x_rem, obs_rem, x_expr, y_asgO, obs_asgO, y_frz, y_wip, y_retO, y_retF, obs_retF, x_brk, x_cont, x_pass, x_stop, obs_for, x_asg, x_ret, x_ite, x_par, x_whl, x_setI, setR_eq, x_app, x_for, e_c, e_v, e_g, e_pr, prR, e_and, e_or, e_ite, y_and, y_or, y_ite, e_ch, y_ch, e_lc, y_lc, y_lcb, a_lcb, a_nil, a_c, a_g, a_v, a_pr, a_and, a_or, a_ite, a_ch, a_call, a_lc, cons_ok, a_bw, a_io, v_0, v_s, w_0, w_v, w_n, w_s, rd_nil, rd_d, rd_b, om_some, el_nil, el_cons, elc_ok, b_ok, b_bad, b_assoc, iteD_t, iteD_f, iteD_bind, un1_bind, un2_bind, un3_bind, un4_bind, un1_t, un2_t, un3_t, un4_t, asL_bind, asL_l, ownK_s, el_nx, el_rt, el_bind, lcK_bind, nlG_bind, ioG_bind, if_true, if_false, fls_iff, tru_iff, n_isSome, s_isSome, isIo_n, isIo_s, ioIn_n, ioIn_s, List.set_cons_zero, List.set_cons_succ, Bool.false_eq_true, Bool.true_eq_false, dt0, dl0, dt1, dl1, dt2, dl2, dt3, dl3, dt4, dl4, dt5, dl5, dt6, dl6, dt7, dl7, dt8, dl8, dt9, dl9, dt10, dl10, dt11, dl11, dt12, dl12, wi_nil, wi_cons, re_nil, re_cons, no_cons, Nat.reduceBEq, Nat.reduceEqDiff, reduceCtorEq, Bool.and_true, Bool.true_and, Bool.and_self, List.contains_cons, List.contains_nil, Bool.or_false, Bool.false_or, Bool.or_self, Option.getD_some, Option.getD_none, List.getElem?_cons_zero, List.getElem?_cons_succ, nx_ok, nx_bad, nx_bind, nx_nx, nx_iteD, nx_un1, nx_un2, nx_itR, nx_lcK, nx_nlG, nx_ioG, nx_prim, no_nil, no_v, no_n, no_s, e_call _ _ _ h_law_below_2.1, k_law_one_of_1 h_law_below_2]
theorem cp_law_one_of {T : Tab} (h_law_below_2 : I2 T "_law_below" false f_law_below_2)   : I2 (T.add big d_law_one_of) "_law_one_of" false f_law_one_of := I2.mk rfl rfl fun c a1 => q_law_one_of h_law_below_2 c a1
theorem l_law_lowest_l1 {T : Tab} {kn kc kb : En → R XO}     (s0 s1 s4 : Slot) : ∀ (K : Nat) (w2 : D) (w3 : D), obs none (loopW (evE T 39 (.pr .ne [.v 3, .c (.int 0)])) (runL (exS T big none false 39) b_law_lowest_1) K [s0, s1, .val w2, .val w3, s4]) kn kc kb = (f_law_lowest_l1 K w2 w3).bind fun s => kn [s0, s1, .val s.1, .val s.2, s4]
  | 0, w2, w3 => by simp -implicitDefEqProofs only [obs_w0, f_law_lowest_l1, b_bad]
  | K + 1, w2, w3 => by
    have lrec := l_law_lowest_l1 (T := T) (kn := kn) (kc := kc) (kb := kb)  s0 s1 s4 K
    rw [obs_w1]
    unfold whC
    generalize loopW (evE T 39 (.pr .ne [.v 3, .c (.int 0)])) (runL (exS T big none false 39) b_law_lowest_1) K = loop at lrec ⊢
    unfold b_law_lowest_1
    simp -implicitDefEqProofs only [obs_nil, obs_cons, obs_nx, obs_rt, obs_bk, obs_ct, obs_bad, obs_o, obs_ite, obs_own, out_none, out_some, stK_n, stK_t1, stK_t2, stK_t3, stK_t4, smK_nil, smK_cons, obs_asg, obs_par, obs_set, obs_app, obs_pop, x_rem, obs_rem, x_expr, y_asgO, obs_asgO, y_frz, y_wip, y_retO, y_retF, obs_retF, x_brk, x_cont, x_pass, x_stop, obs_for, x_asg, x_ret, x_ite, x_par, x_whl, x_setI, setR_eq, x_app, x_for, e_c, e_v, e_g, e_pr, prR, e_and, e_or, e_ite, y_and, y_or, y_ite, e_ch, y_ch, e_lc, y_lc, y_lcb, a_lcb, a_nil, a_c, a_g, a_v, a_pr, a_and, a_or, a_ite, a_ch, a_call, a_lc, cons_ok, a_bw, a_io, v_0, v_s, w_0, w_v, w_n, w_s, rd_nil, rd_d, rd_b, om_some, el_nil, el_cons, elc_ok, b_ok, b_bad, b_assoc, iteD_t, iteD_f, iteD_bind, un1_bind, un2_bind, un3_bind, un4_bind, un1_t, un2_t, un3_t, un4_t, asL_bind, asL_l, ownK_s, el_nx, el_rt, el_bind, lcK_bind, nlG_bind, ioG_bind, if_true, if_false, fls_iff, tru_iff, n_isSome, s_isSome, isIo_n, isIo_s, ioIn_n, ioIn_s, List.set_cons_zero, List.set_cons_succ, Bool.false_eq_true, Bool.true_eq_false, dt0, dl0, dt1, dl1, dt2, dl2, dt3, dl3, dt4, dl4, dt5, dl5, dt6, dl6, dt7, dl7, dt8, dl8, dt9, dl9, dt10, dl10, dt11, dl11, dt12, dl12, wi_nil, wi_cons, re_nil, re_cons, no_cons, Nat.reduceBEq, Nat.reduceEqDiff, reduceCtorEq, Bool.and_true, Bool.true_and, Bool.and_self, List.contains_cons, List.contains_nil, Bool.or_false, Bool.false_or, Bool.or_self, Option.getD_some, Option.getD_none, List.getElem?_cons_zero, List.getElem?_cons_succ, nx_ok, nx_bad, nx_bind, nx_nx, nx_iteD, nx_un1, nx_un2, nx_itR, nx_lcK, nx_nlG, nx_ioG, nx_prim, no_nil, no_v, no_n, no_s, f_law_lowest_l1, lrec]
theorem q_law_lowest {T : Tab}    (a0 : D) (a1 : D) : runFd T big d_law_lowest [.val a0, .val a1] = (f_law_lowest a0 a1).bind fun r => .ok (r, none) := by
  show endOf none false (runL (exS T big none false 40) c_law_lowest [.val a0, .val a1, .no, .no, .no]) = _
  rw [end_obs]
  unfold c_law_lowest f_law_lowest
  simp -implicitDefEqProofs only [obs_nil, obs_cons, obs_nx, obs_rt, obs_bk, obs_ct, obs_bad, obs_o, obs_ite, obs_own, out_none, out_some, stK_n, stK_t1, stK_t2, stK_t3, stK_t4, smK_nil, smK_cons, obs_asg, obs_par, obs_set, obs_app, obs_pop, x_rem, obs_rem, x_expr, y_asgO, obs_asgO, y_frz, y_wip, y_retO, y_retF, obs_retF, x_brk, x_cont, x_pass, x_stop, obs_for, x_asg, x_ret, x_ite, x_par, x_whl, x_setI, setR_eq, x_app, x_for, e_c, e_v, e_g, e_pr, prR, e_and, e_or, e_ite, y_and, y_or, y_ite, e_ch, y_ch, e_lc, y_lc, y_lcb, a_lcb, a_nil, a_c, a_g, a_v, a_pr, a_and, a_or, a_ite, a_ch, a_call, a_lc, cons_ok, a_bw, a_io, v_0, v_s, w_0, w_v, w_n, w_s, rd_nil, rd_d, rd_b, om_some, el_nil, el_cons, elc_ok, b_ok, b_bad, b_assoc, iteD_t, iteD_f, iteD_bind, un1_bind, un2_bind, un3_bind, un4_bind, un1_t, un2_t, un3_t, un4_t, asL_bind, asL_l, ownK_s, el_nx, el_rt, el_bind, lcK_bind, nlG_bind, ioG_bind, if_true, if_false, fls_iff, tru_iff, n_isSome, s_isSome, isIo_n, isIo_s, ioIn_n, ioIn_s, List.set_cons_zero, List.set_cons_succ, Bool.false_eq_true, Bool.true_eq_false, dt0, dl0, dt1, dl1, dt2, dl2, dt3, dl3, dt4, dl4, dt5, dl5, dt6, dl6, dt7, dl7, dt8, dl8, dt9, dl9, dt10, dl10, dt11, dl11, dt12, dl12, wi_nil, wi_cons, re_nil, re_cons, no_cons, Nat.reduceBEq, Nat.reduceEqDiff, reduceCtorEq, Bool.and_true, Bool.true_and, Bool.and_self, List.contains_cons, List.contains_nil, Bool.or_false, Bool.false_or, Bool.or_self, Option.getD_some, Option.getD_none, List.getElem?_cons_zero, List.getElem?_cons_succ, nx_ok, nx_bad, nx_bind, nx_nx, nx_iteD, nx_un1, nx_un2, nx_itR, nx_lcK, nx_nlG, nx_ioG, nx_prim, no_nil, no_v, no_n, no_s, l_law_lowest_l1 ]
theorem cp_law_lowest {T : Tab}    : P2 (T.add big d_law_lowest) "_law_lowest" false f_law_lowest := P2.mk rfl rfl fun a0 a1 => q_law_lowest  a0 a1
theorem k_law_fraction_1 {T : Tab} (h_law_below_2 : I2 T "_law_below" false f_law_below_2) : ∀ (x1 : D) (en : En), callR T "_law_below" [] ([.o 0, .d x1], en) = ownK (ownAt en 0) fun l0 => (f_law_below_2 l0 x1).bind fun r => .ok (r.1, en.set 0 (.own r.2)) := by
  intro x1 en
  rw [y_callF (as := [.o 0, .d x1]) _ rfl]
  cases z0 : ownAt en 0 with
  | none => simp only [r_nil, r_d, r_b, r_o, om_some, om_none, resK_n, ownK_n, ownK_s, z0]
  | some l0 =>
    simp only [r_nil, r_d, r_b, r_o, om_some, resK_s, ownK_s, List.map_cons, List.map_nil, List.cons_append, List.nil_append, h_law_below_2.2.2, b_assoc, b_ok, z0]
    exact congrArg (R.bind _) (funext fun r => q_io _ _ _ rfl rfl)
theorem k_law_fraction_2 {T : Tab} (h_law_lowest : P2 T "_law_lowest" false f_law_lowest) : ∀ (x0 x1 : D) (en : En), callR T "_law_lowest" [] ([.d x0, .d x1], en) = (f_law_lowest x0 x1).bind fun r => .ok (r, en) := by
  intro x0 x1 en
  rw [y_callF (as := [.d x0, .d x1]) _ rfl]
  simp only [r_nil, r_d, r_b, r_o, om_some, resK_s, ownK_s, List.map_cons, List.map_nil, List.cons_append, List.nil_append, h_law_lowest.2.2, b_assoc, b_ok]
  exact congrArg (R.bind _) (funext fun r => q_pure _ _ rfl rfl)
theorem k_law_fraction_3 {T : Tab} (h_law_one_of : I2 T "_law_one_of" false f_law_one_of) : ∀ (x1 : D) (en : En), callR T "_law_one_of" [] ([.o 0, .d x1], en) = ownK (ownAt en 0) fun l0 => (f_law_one_of l0 x1).bind fun r => .ok (r.1, en.set 0 (.own r.2)) := by
  intro x1 en
  rw [y_callF (as := [.o 0, .d x1]) _ rfl]
  cases z0 : ownAt en 0 with
  | none => simp only [r_nil, r_d, r_b, r_o, om_some, om_none, resK_n, ownK_n, ownK_s, z0]
  | some l0 =>
    simp only [r_nil, r_d, r_b, r_o, om_some, resK_s, ownK_s, List.map_cons, List.map_nil, List.cons_append, List.nil_append, h_law_one_of.2.2, b_assoc, b_ok, z0]
    exact congrArg (R.bind _) (funext fun r => q_io _ _ _ rfl rfl)
theorem q_law_fraction {T : Tab} (h_law_below_2 : I2 T "_law_below" false f_law_below_2) (h_law_lowest : P2 T "_law_lowest" false f_law_lowest) (h_law_one_of : I2 T "_law_one_of" false f_law_one_of)   (c : List D) (a1 : D) : runFd T big d_law_fraction [.own c, .val a1] = (f_law_fraction c a1).bind fun r => .ok (r.1, some r.2) := by
  show endOf (some 0) false (runL (exS T big (some 0) false 40) c_law_fraction [.own c, .val a1, .no]) = _
  rw [end_obs]
  unfold c_law_fraction f_law_fraction
  simp -implicitDefEqProofs only [obs_nil, obs_cons, obs_nx, obs_rt, obs_bk, obs_ct, obs_bad, obs_o, obs_ite, obs_own, out_none, out_some, stK_n, stK_t1, stK_t2, stK_t3, stK_t4, smK_nil, smK_cons, obs_asg, obs_par, obs_set, obs_app, obs_pop, x_rem, obs_rem, x_expr, y_asgO, obs_asgO, y_frz, y_wip, y_retO, y_retF, obs_retF, x_brk, x_cont, x_pass, x_stop, obs_for, x_asg, x_ret, x_ite, x_par, x_whl, x_setI, setR_eq, x_app, x_for, e_c, e_v, e_g, e_pr, prR, e_and, e_or, e_ite, y_and, y_or, y_ite, e_ch, y_ch, e_lc, y_lc, y_lcb, a_lcb, a_nil, a_c, a_g, a_v, a_pr, a_and, a_or, a_ite, a_ch, a_call, a_lc, cons_ok, a_bw, a_io, v_0, v_s, w_0, w_v, w_n, w_s, rd_nil, rd_d, rd_b, om_some, el_nil, el_cons, elc_ok, b_ok, b_bad, b_assoc, iteD_t, iteD_f, iteD_bind, un1_bind, un2_bind, un3_bind, un4_bind, un1_t, un2_t, un3_t, un4_t, asL_bind, asL_l, ownK_s, el_nx, el_rt, el_bind, lcK_bind, nlG_bind, ioG_bind, if_true, if_false, fls_iff, tru_iff, n_isSome, s_isSome, isIo_n, isIo_s, ioIn_n, ioIn_s, List.set_cons_zero, List.set_cons_succ, Bool.false_eq_true, Bool.true_eq_false, dt0, dl0, dt1, dl1, dt2, dl2, dt3, dl3, dt4, dl4, dt5, dl5, dt6, dl6, dt7, dl7, dt8, dl8, dt9, dl9, dt10, dl10, dt11, dl11, dt12, dl12, wi_nil, wi_cons, re_nil, re_cons, no_cons, Nat.reduceBEq, Nat.reduceEqDiff, reduceCtorEq, Bool.and_true, Bool.true_and, Bool.and_self, List.contains_cons, List.contains_nil, Bool.or_false, Bool.false_or, Bool.or_self, Option.getD_some, Option.getD_none, List.getElem?_cons_zero, List.getElem?_cons_succ, nx_ok, nx_bad, nx_bind, nx_nx, nx_iteD, nx_un1, nx_un2, nx_itR, nx_lcK, nx_nlG, nx_ioG, nx_prim, no_nil, no_v, no_n, no_s, e_call _ _ _ h_law_below_2.1, e_call _ _ _ h_law_lowest.1, e_call _ _ _ h_law_one_of.1, k_law_fraction_1 h_law_below_2, k_law_fraction_2 h_law_lowest, k_law_fraction_3 h_law_one_of]
theorem cp_law_fraction {T : Tab} (h_law_below_2 : I2 T "_law_below" false f_law_below_2) (h_law_lowest : P2 T "_law_lowest" false f_law_lowest) (h_law_one_of : I2 T "_law_one_of" false f_law_one_of)   : I2 (T.add big d_law_fraction) "_law_fraction" false f_law_fraction := I2.mk rfl rfl fun c a1 => q_law_fraction h_law_below_2 h_law_lowest h_law_one_of c a1
end Vm
end
section
set_option Elab.async false
set_option linter.all false
set_option maxRecDepth 100000
set_option maxHeartbeats 0
namespace Vm
open PySem PySem.Spec L2
theorem q_absolute {T : Tab}    (a0 : D) : runFd T big d_absolute [.val a0] = (f_absolute a0).bind fun r => .ok (r, none) := by
  show endOf none false (runL (exS T big none false 40) c_absolute [.val a0]) = _
  rw [end_obs]
  unfold c_absolute f_absolute
  simp -implicitDefEqProofs only [obs_nil, obs_cons, obs_nx, obs_rt, obs_bk, obs_ct, obs_bad, obs_o, obs_ite, obs_own, out_none, out_some, stK_n, stK_t1, stK_t2, stK_t3, stK_t4, smK_nil, smK_cons, obs_asg, obs_par, obs_set, obs_app, obs_pop, x_rem, obs_rem, x_expr, y_asgO, obs_asgO, y_frz, y_wip, y_retO, y_retF, obs_retF, x_brk, x_cont, x_pass, x_stop, obs_for, x_asg, x_ret, x_ite, x_par, x_whl, x_setI, setR_eq, x_app, x_for, e_c, e_v, e_g, e_pr, prR, e_and, e_or, e_ite, y_and, y_or, y_ite, e_ch, y_ch, e_lc, y_lc, y_lcb, a_lcb, a_nil, a_c, a_g, a_v, a_pr, a_and, a_or, a_ite, a_ch, a_call, a_lc, cons_ok, a_bw, a_io, v_0, v_s, w_0, w_v, w_n, w_s, rd_nil, rd_d, rd_b, om_some, el_nil, el_cons, elc_ok, b_ok, b_bad, b_assoc, iteD_t, iteD_f, iteD_bind, un1_bind, un2_bind, un3_bind, un4_bind, un1_t, un2_t, un3_t, un4_t, asL_bind, asL_l, ownK_s, el_nx, el_rt, el_bind, lcK_bind, nlG_bind, ioG_bind, if_true, if_false, fls_iff, tru_iff, n_isSome, s_isSome, isIo_n, isIo_s, ioIn_n, ioIn_s, List.set_cons_zero, List.set_cons_succ, Bool.false_eq_true, Bool.true_eq_false, dt0, dl0, dt1, dl1, dt2, dl2, dt3, dl3, dt4, dl4, dt5, dl5, dt6, dl6, dt7, dl7, dt8, dl8, dt9, dl9, dt10, dl10, dt11, dl11, dt12, dl12, wi_nil, wi_cons, re_nil, re_cons, no_cons, Nat.reduceBEq, Nat.reduceEqDiff, reduceCtorEq, Bool.and_true, Bool.true_and, Bool.and_self, List.contains_cons, List.contains_nil, Bool.or_false, Bool.false_or, Bool.or_self, Option.getD_some, Option.getD_none, List.getElem?_cons_zero, List.getElem?_cons_succ, nx_ok, nx_bad, nx_bind, nx_nx, nx_iteD, nx_un1, nx_un2, nx_itR, nx_lcK, nx_nlG, nx_ioG, nx_prim, no_nil, no_v, no_n, no_s]
theorem cp_absolute {T : Tab}    : P1 (T.add big d_absolute) "absolute" false f_absolute := P1.mk rfl rfl fun a0 => q_absolute  a0
theorem q_compare {T : Tab}    (a0 : D) (a1 : D) : runFd T big d_compare [.val a0, .val a1] = (f_compare a0 a1).bind fun r => .ok (r, none) := by
  show endOf none false (runL (exS T big none false 40) c_compare [.val a0, .val a1, .no, .no]) = _
  rw [end_obs]
  unfold c_compare f_compare
  simp -implicitDefEqProofs only [obs_nil, obs_cons, obs_nx, obs_rt, obs_bk, obs_ct, obs_bad, obs_o, obs_ite, obs_own, out_none, out_some, stK_n, stK_t1, stK_t2, stK_t3, stK_t4, smK_nil, smK_cons, obs_asg, obs_par, obs_set, obs_app, obs_pop, x_rem, obs_rem, x_expr, y_asgO, obs_asgO, y_frz, y_wip, y_retO, y_retF, obs_retF, x_brk, x_cont, x_pass, x_stop, obs_for, x_asg, x_ret, x_ite, x_par, x_whl, x_setI, setR_eq, x_app, x_for, e_c, e_v, e_g, e_pr, prR, e_and, e_or, e_ite, y_and, y_or, y_ite, e_ch, y_ch, e_lc, y_lc, y_lcb, a_lcb, a_nil, a_c, a_g, a_v, a_pr, a_and, a_or, a_ite, a_ch, a_call, a_lc, cons_ok, a_bw, a_io, v_0, v_s, w_0, w_v, w_n, w_s, rd_nil, rd_d, rd_b, om_some, el_nil, el_cons, elc_ok, b_ok, b_bad, b_assoc, iteD_t, iteD_f, iteD_bind, un1_bind, un2_bind, un3_bind, un4_bind, un1_t, un2_t, un3_t, un4_t, asL_bind, asL_l, ownK_s, el_nx, el_rt, el_bind, lcK_bind, nlG_bind, ioG_bind, if_true, if_false, fls_iff, tru_iff, n_isSome, s_isSome, isIo_n, isIo_s, ioIn_n, ioIn_s, List.set_cons_zero, List.set_cons_succ, Bool.false_eq_true, Bool.true_eq_false, dt0, dl0, dt1, dl1, dt2, dl2, dt3, dl3, dt4, dl4, dt5, dl5, dt6, dl6, dt7, dl7, dt8, dl8, dt9, dl9, dt10, dl10, dt11, dl11, dt12, dl12, wi_nil, wi_cons, re_nil, re_cons, no_cons, Nat.reduceBEq, Nat.reduceEqDiff, reduceCtorEq, Bool.and_true, Bool.true_and, Bool.and_self, List.contains_cons, List.contains_nil, Bool.or_false, Bool.false_or, Bool.or_self, Option.getD_some, Option.getD_none, List.getElem?_cons_zero, List.getElem?_cons_succ, nx_ok, nx_bad, nx_bind, nx_nx, nx_iteD, nx_un1, nx_un2, nx_itR, nx_lcK, nx_nlG, nx_ioG, nx_prim, no_nil, no_v, no_n, no_s]
theorem cp_compare {T : Tab}    : P2 (T.add big d_compare) "compare" false f_compare := P2.mk rfl rfl fun a0 a1 => q_compare  a0 a1
end Vm
end
section
set_option Elab.async false
set_option linter.all false
set_option maxRecDepth 100000
set_option maxHeartbeats 0
namespace Vm
open PySem PySem.Spec L2
theorem k_total_2_1 {T : Tab} (h_add : P2 T "add" false f_add) : ∀ (x0 x1 : D) (en : En), callR T "add" [] ([.d x0, .d x1], en) = (f_add x0 x1).bind fun r => .ok (r, en) := by
  intro x0 x1 en
  rw [y_callF (as := [.d x0, .d x1]) _ rfl]
  simp only [r_nil, r_d, r_b, r_o, om_some, resK_s, ownK_s, List.map_cons, List.map_nil, List.cons_append, List.nil_append, h_add.2.2, b_assoc, b_ok]
  exact congrArg (R.bind _) (funext fun r => q_pure _ _ rfl rfl)
theorem l_total_2_l1 {T : Tab} {kn kc kb : En → R XO} (h_add : P2 T "add" false f_add) (g_ZERO : T.glob "ZERO" = some (.tup [.int 0, .int 1]))   (s0 : Slot) : ∀ (ds : List D) (w1 : D), obs none (loopF (.n 2) (runL (exS T big none false 39) b_total_2_1) ds [s0, .val w1, .no]) kn kc kb = (f_total_2_l1 ds w1).bind fun s => kn [s0, .val s, .no]
  | [], w1 => by simp -implicitDefEqProofs only [obs_f0, f_total_2_l1, b_ok, el_nx]
  | d :: ds, w1 => by
    have lrec := l_total_2_l1 (T := T) (kn := kn) (kc := kc) (kb := kb) h_add g_ZERO s0 ds
    rw [obs_f1]
    generalize loopF (.n 2) (runL (exS T big none false 39) b_total_2_1) ds = loop at lrec ⊢
    unfold b_total_2_1
    simp -implicitDefEqProofs only [obs_nil, obs_cons, obs_nx, obs_rt, obs_bk, obs_ct, obs_bad, obs_o, obs_ite, obs_own, out_none, out_some, stK_n, stK_t1, stK_t2, stK_t3, stK_t4, smK_nil, smK_cons, obs_asg, obs_par, obs_set, obs_app, obs_pop, x_rem, obs_rem, x_expr, y_asgO, obs_asgO, y_frz, y_wip, y_retO, y_retF, obs_retF, x_brk, x_cont, x_pass, x_stop, obs_for, x_asg, x_ret, x_ite, x_par, x_whl, x_setI, setR_eq, x_app, x_for, e_c, e_v, e_g, e_pr, prR, e_and, e_or, e_ite, y_and, y_or, y_ite, e_ch, y_ch, e_lc, y_lc, y_lcb, a_lcb, a_nil, a_c, a_g, a_v, a_pr, a_and, a_or, a_ite, a_ch, a_call, a_lc, cons_ok, a_bw, a_io, v_0, v_s, w_0, w_v, w_n, w_s, rd_nil, rd_d, rd_b, om_some, el_nil, el_cons, elc_ok, b_ok, b_bad, b_assoc, iteD_t, iteD_f, iteD_bind, un1_bind, un2_bind, un3_bind, un4_bind, un1_t, un2_t, un3_t, un4_t, asL_bind, asL_l, ownK_s, el_nx, el_rt, el_bind, lcK_bind, nlG_bind, ioG_bind, if_true, if_false, fls_iff, tru_iff, n_isSome, s_isSome, isIo_n, isIo_s, ioIn_n, ioIn_s, List.set_cons_zero, List.set_cons_succ, Bool.false_eq_true, Bool.true_eq_false, dt0, dl0, dt1, dl1, dt2, dl2, dt3, dl3, dt4, dl4, dt5, dl5, dt6, dl6, dt7, dl7, dt8, dl8, dt9, dl9, dt10, dl10, dt11, dl11, dt12, dl12, wi_nil, wi_cons, re_nil, re_cons, no_cons, Nat.reduceBEq, Nat.reduceEqDiff, reduceCtorEq, Bool.and_true, Bool.true_and, Bool.and_self, List.contains_cons, List.contains_nil, Bool.or_false, Bool.false_or, Bool.or_self, Option.getD_some, Option.getD_none, List.getElem?_cons_zero, List.getElem?_cons_succ, nx_ok, nx_bad, nx_bind, nx_nx, nx_iteD, nx_un1, nx_un2, nx_itR, nx_lcK, nx_nlG, nx_ioG, nx_prim, no_nil, no_v, no_n, no_s, e_call _ _ _ h_add.1, k_total_2_1 h_add, g_ZERO, f_total_2_l1, lrec]
theorem q_total_2 {T : Tab} (h_add : P2 T "add" false f_add) (g_ZERO : T.glob "ZERO" = some (.tup [.int 0, .int 1]))  (a0 : D) : runFd T big d_total_2 [.val a0] = (f_total_2 a0).bind fun r => .ok (r, none) := by
  show endOf none false (runL (exS T big none false 40) c_total_2 [.val a0, .no, .no]) = _
  rw [end_obs]
  unfold c_total_2 f_total_2
  simp -implicitDefEqProofs only [obs_nil, obs_cons, obs_nx, obs_rt, obs_bk, obs_ct, obs_bad, obs_o, obs_ite, obs_own, out_none, out_some, stK_n, stK_t1, stK_t2, stK_t3, stK_t4, smK_nil, smK_cons, obs_asg, obs_par, obs_set, obs_app, obs_pop, x_rem, obs_rem, x_expr, y_asgO, obs_asgO, y_frz, y_wip, y_retO, y_retF, obs_retF, x_brk, x_cont, x_pass, x_stop, obs_for, x_asg, x_ret, x_ite, x_par, x_whl, x_setI, setR_eq, x_app, x_for, e_c, e_v, e_g, e_pr, prR, e_and, e_or, e_ite, y_and, y_or, y_ite, e_ch, y_ch, e_lc, y_lc, y_lcb, a_lcb, a_nil, a_c, a_g, a_v, a_pr, a_and, a_or, a_ite, a_ch, a_call, a_lc, cons_ok, a_bw, a_io, v_0, v_s, w_0, w_v, w_n, w_s, rd_nil, rd_d, rd_b, om_some, el_nil, el_cons, elc_ok, b_ok, b_bad, b_assoc, iteD_t, iteD_f, iteD_bind, un1_bind, un2_bind, un3_bind, un4_bind, un1_t, un2_t, un3_t, un4_t, asL_bind, asL_l, ownK_s, el_nx, el_rt, el_bind, lcK_bind, nlG_bind, ioG_bind, if_true, if_false, fls_iff, tru_iff, n_isSome, s_isSome, isIo_n, isIo_s, ioIn_n, ioIn_s, List.set_cons_zero, List.set_cons_succ, Bool.false_eq_true, Bool.true_eq_false, dt0, dl0, dt1, dl1, dt2, dl2, dt3, dl3, dt4, dl4, dt5, dl5, dt6, dl6, dt7, dl7, dt8, dl8, dt9, dl9, dt10, dl10, dt11, dl11, dt12, dl12, wi_nil, wi_cons, re_nil, re_cons, no_cons, Nat.reduceBEq, Nat.reduceEqDiff, reduceCtorEq, Bool.and_true, Bool.true_and, Bool.and_self, List.contains_cons, List.contains_nil, Bool.or_false, Bool.false_or, Bool.or_self, Option.getD_some, Option.getD_none, List.getElem?_cons_zero, List.getElem?_cons_succ, nx_ok, nx_bad, nx_bind, nx_nx, nx_iteD, nx_un1, nx_un2, nx_itR, nx_lcK, nx_nlG, nx_ioG, nx_prim, no_nil, no_v, no_n, no_s, e_call _ _ _ h_add.1, k_total_2_1 h_add, g_ZERO, l_total_2_l1 h_add g_ZERO]
theorem cp_total_2 {T : Tab} (h_add : P2 T "add" false f_add) (g_ZERO : T.glob "ZERO" = some (.tup [.int 0, .int 1]))  : P1 (T.add big d_total_2) "total" false f_total_2 := P1.mk rfl rfl fun a0 => q_total_2 h_add g_ZERO a0
theorem k_law_three_right_1 {T : Tab} (h_add : P2 T "add" false f_add) : ∀ (x0 x1 : D) (en : En), callR T "add" [] ([.d x0, .d x1], en) = (f_add x0 x1).bind fun r => .ok (r, en) := by
  intro x0 x1 en
  rw [y_callF (as := [.d x0, .d x1]) _ rfl]
  simp only [r_nil, r_d, r_b, r_o, om_some, resK_s, ownK_s, List.map_cons, List.map_nil, List.cons_append, List.nil_append, h_add.2.2, b_assoc, b_ok]
  exact congrArg (R.bind _) (funext fun r => q_pure _ _ rfl rfl)
theorem k_law_three_right_2 {T : Tab} (h_multiply : P2 T "multiply" false f_multiply) : ∀ (x0 x1 : D) (en : En), callR T "multiply" [] ([.d x0, .d x1], en) = (f_multiply x0 x1).bind fun r => .ok (r, en) := by
  intro x0 x1 en
  rw [y_callF (as := [.d x0, .d x1]) _ rfl]
  simp only [r_nil, r_d, r_b, r_o, om_some, resK_s, ownK_s, List.map_cons, List.map_nil, List.cons_append, List.nil_append, h_multiply.2.2, b_assoc, b_ok]
  exact congrArg (R.bind _) (funext fun r => q_pure _ _ rfl rfl)
theorem k_law_three_right_3 {T : Tab} (h_total_2 : P1 T "total" false f_total_2) : ∀ (x0 : D) (en : En), callR T "total" [] ([.d x0], en) = (f_total_2 x0).bind fun r => .ok (r, en) := by
  intro x0 en
  rw [y_callF (as := [.d x0]) _ rfl]
  simp only [r_nil, r_d, r_b, r_o, om_some, resK_s, ownK_s, List.map_cons, List.map_nil, List.cons_append, List.nil_append, h_total_2.2.2, b_assoc, b_ok]
  exact congrArg (R.bind _) (funext fun r => q_pure _ _ rfl rfl)
theorem k_law_three_right_4 {T : Tab} (h_compare : P2 T "compare" false f_compare) : ∀ (x0 x1 : D) (en : En), callR T "compare" [] ([.d x0, .d x1], en) = (f_compare x0 x1).bind fun r => .ok (r, en) := by
  intro x0 x1 en
  rw [y_callF (as := [.d x0, .d x1]) _ rfl]
  simp only [r_nil, r_d, r_b, r_o, om_some, resK_s, ownK_s, List.map_cons, List.map_nil, List.cons_append, List.nil_append, h_compare.2.2, b_assoc, b_ok]
  exact congrArg (R.bind _) (funext fun r => q_pure _ _ rfl rfl)
theorem q_law_three_right {T : Tab} (h_add : P2 T "add" false f_add) (h_multiply : P2 T "multiply" false f_multiply) (h_total_2 : P1 T "total" false f_total_2) (h_compare : P2 T "compare" false f_compare)   (a0 : D) (a1 : D) (a2 : D) : runFd T big d_law_three_right [.val a0, .val a1, .val a2] = (f_law_three_right a0 a1 a2).bind fun r => .ok (r, none) := by
  show endOf none false (runL (exS T big none false 40) c_law_three_right [.val a0, .val a1, .val a2]) = _
  rw [end_obs]
  unfold c_law_three_right f_law_three_right
  simp -implicitDefEqProofs only [obs_nil, obs_cons, obs_nx, obs_rt, obs_bk, obs_ct, obs_bad, obs_o, obs_ite, obs_own, out_none, out_some, stK_n, stK_t1, stK_t2, stK_t3, stK_t4, smK_nil, smK_cons, obs_asg, obs_par, obs_set, obs_app, obs_pop, x_rem, obs_rem, x_expr, y_asgO, obs_asgO, y_frz, y_wip, y_retO, y_retF, obs_retF, x_brk, x_cont, x_pass, x_stop, obs_for, x_asg, x_ret, x_ite, x_par, x_whl, x_setI, setR_eq, x_app, x_for, e_c, e_v, e_g, e_pr, prR, e_and, e_or, e_ite, y_and, y_or, y_ite, e_ch, y_ch, e_lc, y_lc, y_lcb, a_lcb, a_nil, a_c, a_g, a_v, a_pr, a_and, a_or, a_ite, a_ch, a_call, a_lc, cons_ok, a_bw, a_io, v_0, v_s, w_0, w_v, w_n, w_s, rd_nil, rd_d, rd_b, om_some, el_nil, el_cons, elc_ok, b_ok, b_bad, b_assoc, iteD_t, iteD_f, iteD_bind, un1_bind, un2_bind, un3_bind, un4_bind, un1_t, un2_t, un3_t, un4_t, asL_bind, asL_l, ownK_s, el_nx, el_rt, el_bind, lcK_bind, nlG_bind, ioG_bind, if_true, if_false, fls_iff, tru_iff, n_isSome, s_isSome, isIo_n, isIo_s, ioIn_n, ioIn_s, List.set_cons_zero, List.set_cons_succ, Bool.false_eq_true, Bool.true_eq_false, dt0, dl0, dt1, dl1, dt2, dl2, dt3, dl3, dt4, dl4, dt5, dl5, dt6, dl6, dt7, dl7, dt8, dl8, dt9, dl9, dt10, dl10, dt11, dl11, dt12, dl12, wi_nil, wi_cons, re_nil, re_cons, no_cons, Nat.reduceBEq, Nat.reduceEqDiff, reduceCtorEq, Bool.and_true, Bool.true_and, Bool.and_self, List.contains_cons, List.contains_nil, Bool.or_false, Bool.false_or, Bool.or_self, Option.getD_some, Option.getD_none, List.getElem?_cons_zero, List.getElem?_cons_succ, nx_ok, nx_bad, nx_bind, nx_nx, nx_iteD, nx_un1, nx_un2, nx_itR, nx_lcK, nx_nlG, nx_ioG, nx_prim, no_nil, no_v, no_n, no_s, e_call _ _ _ h_add.1, e_call _ _ _ h_multiply.1, e_call _ _ _ h_total_2.1, e_call _ _ _ h_compare.1, k_law_three_right_1 h_add, k_law_three_right_2 h_multiply, k_law_three_right_3 h_total_2, k_law_three_right_4 h_compare]
theorem cp_law_three_right {T : Tab} (h_add : P2 T "add" false f_add) (h_multiply : P2 T "multiply" false f_multiply) (h_total_2 : P1 T "total" false f_total_2) (h_compare : P2 T "compare" false f_compare)   : P3 (T.add big d_law_three_right) "_law_three_right" false f_law_three_right := P3.mk rfl rfl fun a0 a1 a2 => q_law_three_right h_add h_multiply h_total_2 h_compare a0 a1 a2
theorem q_format_fraction {T : Tab}    (a0 : D) : runFd T big d_format_fraction [.val a0] = (f_format_fraction a0).bind fun r => .ok (r, none) := by
  show endOf none false (runL (exS T big none false 40) c_format_fraction [.val a0]) = _
  rw [end_obs]
  unfold c_format_fraction f_format_fraction
  simp -implicitDefEqProofs only [obs_nil, obs_cons, obs_nx, obs_rt, obs_bk, obs_ct, obs_bad, obs_o, obs_ite, obs_own, out_none, out_some, stK_n, stK_t1, stK_t2, stK_t3, stK_t4, smK_nil, smK_cons, obs_asg, obs_par, obs_set, obs_app, obs_pop, x_rem, obs_rem, x_expr, y_asgO, obs_asgO, y_frz, y_wip, y_retO, y_retF, obs_retF, x_brk, x_cont, x_pass, x_stop, obs_for, x_asg, x_ret, x_ite, x_par, x_whl, x_setI, setR_eq, x_app, x_for, e_c, e_v, e_g, e_pr, prR, e_and, e_or, e_ite, y_and, y_or, y_ite, e_ch, y_ch, e_lc, y_lc, y_lcb, a_lcb, a_nil, a_c, a_g, a_v, a_pr, a_and, a_or, a_ite, a_ch, a_call, a_lc, cons_ok, a_bw, a_io, v_0, v_s, w_0, w_v, w_n, w_s, rd_nil, rd_d, rd_b, om_some, el_nil, el_cons, elc_ok, b_ok, b_bad, b_assoc, iteD_t, iteD_f, iteD_bind, un1_bind, un2_bind, un3_bind, un4_bind, un1_t, un2_t, un3_t, un4_t, asL_bind, asL_l, ownK_s, el_nx, el_rt, el_bind, lcK_bind, nlG_bind, ioG_bind, if_true, if_false, fls_iff, tru_iff, n_isSome, s_isSome, isIo_n, isIo_s, ioIn_n, ioIn_s, List.set_cons_zero, List.set_cons_succ, Bool.false_eq_true, Bool.true_eq_false, dt0, dl0, dt1, dl1, dt2, dl2, dt3, dl3, dt4, dl4, dt5, dl5, dt6, dl6, dt7, dl7, dt8, dl8, dt9, dl9, dt10, dl10, dt11, dl11, dt12, dl12, wi_nil, wi_cons, re_nil, re_cons, no_cons, Nat.reduceBEq, Nat.reduceEqDiff, reduceCtorEq, Bool.and_true, Bool.true_and, Bool.and_self, List.contains_cons, List.contains_nil, Bool.or_false, Bool.false_or, Bool.or_self, Option.getD_some, Option.getD_none, List.getElem?_cons_zero, List.getElem?_cons_succ, nx_ok, nx_bad, nx_bind, nx_nx, nx_iteD, nx_un1, nx_un2, nx_itR, nx_lcK, nx_nlG, nx_ioG, nx_prim, no_nil, no_v, no_n, no_s]
theorem cp_format_fraction {T : Tab}    : P1 (T.add big d_format_fraction) "format_fraction" false f_format_fraction := P1.mk rfl rfl fun a0 => q_format_fraction  a0
theorem l_parse_integer_c1 {T : Tab}  (g_MAX_DIGITS : T.glob "MAX_DIGITS" = some (.int 30)) (g_DIGITS : T.glob "DIGITS" = some (.str "0123456789"))   (s0 : Slot) : ∀ (ds : List D) , lcGo (lcC T 35 none) (evE T 35 (.pr .inn [.v 1, .g "DIGITS"])) (.n 1) [1] ds [s0, .no] = (f_parse_integer_c1 ds).bind fun r => .ok (r, [s0, .no])
  | [] => by simp -implicitDefEqProofs only [lc_0, f_parse_integer_c1, b_ok]
  | d :: ds => by
    simp -implicitDefEqProofs only [obs_nil, obs_cons, obs_nx, obs_rt, obs_bk, obs_ct, obs_bad, obs_o, obs_ite, obs_own, out_none, out_some, stK_n, stK_t1, stK_t2, stK_t3, stK_t4, smK_nil, smK_cons, obs_asg, obs_par, obs_set, obs_app, obs_pop, x_rem, obs_rem, x_expr, y_asgO, obs_asgO, y_frz, y_wip, y_retO, y_retF, obs_retF, x_brk, x_cont, x_pass, x_stop, obs_for, x_asg, x_ret, x_ite, x_par, x_whl, x_setI, setR_eq, x_app, x_for, e_c, e_v, e_g, e_pr, prR, e_and, e_or, e_ite, y_and, y_or, y_ite, e_ch, y_ch, e_lc, y_lc, y_lcb, a_lcb, a_nil, a_c, a_g, a_v, a_pr, a_and, a_or, a_ite, a_ch, a_call, a_lc, cons_ok, a_bw, a_io, v_0, v_s, w_0, w_v, w_n, w_s, rd_nil, rd_d, rd_b, om_some, el_nil, el_cons, elc_ok, b_ok, b_bad, b_assoc, iteD_t, iteD_f, iteD_bind, un1_bind, un2_bind, un3_bind, un4_bind, un1_t, un2_t, un3_t, un4_t, asL_bind, asL_l, ownK_s, el_nx, el_rt, el_bind, lcK_bind, nlG_bind, ioG_bind, if_true, if_false, fls_iff, tru_iff, n_isSome, s_isSome, isIo_n, isIo_s, ioIn_n, ioIn_s, List.set_cons_zero, List.set_cons_succ, Bool.false_eq_true, Bool.true_eq_false, dt0, dl0, dt1, dl1, dt2, dl2, dt3, dl3, dt4, dl4, dt5, dl5, dt6, dl6, dt7, dl7, dt8, dl8, dt9, dl9, dt10, dl10, dt11, dl11, dt12, dl12, wi_nil, wi_cons, re_nil, re_cons, no_cons, Nat.reduceBEq, Nat.reduceEqDiff, reduceCtorEq, Bool.and_true, Bool.true_and, Bool.and_self, List.contains_cons, List.contains_nil, Bool.or_false, Bool.false_or, Bool.or_self, Option.getD_some, Option.getD_none, List.getElem?_cons_zero, List.getElem?_cons_succ, nx_ok, nx_bad, nx_bind, nx_nx, nx_iteD, nx_un1, nx_un2, nx_itR, nx_lcK, nx_nlG, nx_ioG, nx_prim, no_nil, no_v, no_n, no_s, g_MAX_DIGITS, g_DIGITS, lc_1, lcC_n, lcC_s, f_parse_integer_c1, l_parse_integer_c1 g_MAX_DIGITS g_DIGITS s0 ds]
theorem q_parse_integer {T : Tab}  (g_MAX_DIGITS : T.glob "MAX_DIGITS" = some (.int 30)) (g_DIGITS : T.glob "DIGITS" = some (.str "0123456789"))  (a0 : D) : runFd T big d_parse_integer [.val a0] = (f_parse_integer a0).bind fun r => .ok (r, none) := by
  show endOf none false (runL (exS T big none false 40) c_parse_integer [.val a0, .no]) = _
  rw [end_obs]
  unfold c_parse_integer f_parse_integer
  simp -implicitDefEqProofs only [obs_nil, obs_cons, obs_nx, obs_rt, obs_bk, obs_ct, obs_bad, obs_o, obs_ite, obs_own, out_none, out_some, stK_n, stK_t1, stK_t2, stK_t3, stK_t4, smK_nil, smK_cons, obs_asg, obs_par, obs_set, obs_app, obs_pop, x_rem, obs_rem, x_expr, y_asgO, obs_asgO, y_frz, y_wip, y_retO, y_retF, obs_retF, x_brk, x_cont, x_pass, x_stop, obs_for, x_asg, x_ret, x_ite, x_par, x_whl, x_setI, setR_eq, x_app, x_for, e_c, e_v, e_g, e_pr, prR, e_and, e_or, e_ite, y_and, y_or, y_ite, e_ch, y_ch, e_lc, y_lc, y_lcb, a_lcb, a_nil, a_c, a_g, a_v, a_pr, a_and, a_or, a_ite, a_ch, a_call, a_lc, cons_ok, a_bw, a_io, v_0, v_s, w_0, w_v, w_n, w_s, rd_nil, rd_d, rd_b, om_some, el_nil, el_cons, elc_ok, b_ok, b_bad, b_assoc, iteD_t, iteD_f, iteD_bind, un1_bind, un2_bind, un3_bind, un4_bind, un1_t, un2_t, un3_t, un4_t, asL_bind, asL_l, ownK_s, el_nx, el_rt, el_bind, lcK_bind, nlG_bind, ioG_bind, if_true, if_false, fls_iff, tru_iff, n_isSome, s_isSome, isIo_n, isIo_s, ioIn_n, ioIn_s, List.set_cons_zero, List.set_cons_succ, Bool.false_eq_true, Bool.true_eq_false, dt0, dl0, dt1, dl1, dt2, dl2, dt3, dl3, dt4, dl4, dt5, dl5, dt6, dl6, dt7, dl7, dt8, dl8, dt9, dl9, dt10, dl10, dt11, dl11, dt12, dl12, wi_nil, wi_cons, re_nil, re_cons, no_cons, Nat.reduceBEq, Nat.reduceEqDiff, reduceCtorEq, Bool.and_true, Bool.true_and, Bool.and_self, List.contains_cons, List.contains_nil, Bool.or_false, Bool.false_or, Bool.or_self, Option.getD_some, Option.getD_none, List.getElem?_cons_zero, List.getElem?_cons_succ, nx_ok, nx_bad, nx_bind, nx_nx, nx_iteD, nx_un1, nx_un2, nx_itR, nx_lcK, nx_nlG, nx_ioG, nx_prim, no_nil, no_v, no_n, no_s, g_MAX_DIGITS, g_DIGITS, l_parse_integer_c1 g_MAX_DIGITS g_DIGITS]
theorem cp_parse_integer {T : Tab}  (g_MAX_DIGITS : T.glob "MAX_DIGITS" = some (.int 30)) (g_DIGITS : T.glob "DIGITS" = some (.str "0123456789"))  : P1 (T.add big d_parse_integer) "parse_integer" false f_parse_integer := P1.mk rfl rfl fun a0 => q_parse_integer g_MAX_DIGITS g_DIGITS a0
theorem q_is_integer {T : Tab}    (a0 : D) : runFd T big d_is_integer [.val a0] = (f_is_integer a0).bind fun r => .ok (r, none) := by
  show endOf none false (runL (exS T big none false 40) c_is_integer [.val a0]) = _
  rw [end_obs]
  unfold c_is_integer f_is_integer
  simp -implicitDefEqProofs only [obs_nil, obs_cons, obs_nx, obs_rt, obs_bk, obs_ct, obs_bad, obs_o, obs_ite, obs_own, out_none, out_some, stK_n, stK_t1, stK_t2, stK_t3, stK_t4, smK_nil, smK_cons, obs_asg, obs_par, obs_set, obs_app, obs_pop, x_rem, obs_rem, x_expr, y_asgO, obs_asgO, y_frz, y_wip, y_retO, y_retF, obs_retF, x_brk, x_cont, x_pass, x_stop, obs_for, x_asg, x_ret, x_ite, x_par, x_whl, x_setI, setR_eq, x_app, x_for, e_c, e_v, e_g, e_pr, prR, e_and, e_or, e_ite, y_and, y_or, y_ite, e_ch, y_ch, e_lc, y_lc, y_lcb, a_lcb, a_nil, a_c, a_g, a_v, a_pr, a_and, a_or, a_ite, a_ch, a_call, a_lc, cons_ok, a_bw, a_io, v_0, v_s, w_0, w_v, w_n, w_s, rd_nil, rd_d, rd_b, om_some, el_nil, el_cons, elc_ok, b_ok, b_bad, b_assoc, iteD_t, iteD_f, iteD_bind, un1_bind, un2_bind, un3_bind, un4_bind, un1_t, un2_t, un3_t, un4_t, asL_bind, asL_l, ownK_s, el_nx, el_rt, el_bind, lcK_bind, nlG_bind, ioG_bind, if_true, if_false, fls_iff, tru_iff, n_isSome, s_isSome, isIo_n, isIo_s, ioIn_n, ioIn_s, List.set_cons_zero, List.set_cons_succ, Bool.false_eq_true, Bool.true_eq_false, dt0, dl0, dt1, dl1, dt2, dl2, dt3, dl3, dt4, dl4, dt5, dl5, dt6, dl6, dt7, dl7, dt8, dl8, dt9, dl9, dt10, dl10, dt11, dl11, dt12, dl12, wi_nil, wi_cons, re_nil, re_cons, no_cons, Nat.reduceBEq, Nat.reduceEqDiff, reduceCtorEq, Bool.and_true, Bool.true_and, Bool.and_self, List.contains_cons, List.contains_nil, Bool.or_false, Bool.false_or, Bool.or_self, Option.getD_some, Option.getD_none, List.getElem?_cons_zero, List.getElem?_cons_succ, nx_ok, nx_bad, nx_bind, nx_nx, nx_iteD, nx_un1, nx_un2, nx_itR, nx_lcK, nx_nlG, nx_ioG, nx_prim, no_nil, no_v, no_n, no_s]
theorem cp_is_integer {T : Tab}    : P1 (T.add big d_is_integer) "is_integer" false f_is_integer := P1.mk rfl rfl fun a0 => q_is_integer  a0
theorem k_is_fraction_1 {T : Tab} (h_is_integer : P1 T "is_integer" false f_is_integer) : ∀ (x0 : D) (en : En), callR T "is_integer" [] ([.d x0], en) = (f_is_integer x0).bind fun r => .ok (r, en) := by
  intro x0 en
  rw [y_callF (as := [.d x0]) _ rfl]
  simp only [r_nil, r_d, r_b, r_o, om_some, resK_s, ownK_s, List.map_cons, List.map_nil, List.cons_append, List.nil_append, h_is_integer.2.2, b_assoc, b_ok]
  exact congrArg (R.bind _) (funext fun r => q_pure _ _ rfl rfl)
theorem k_is_fraction_2 {T : Tab} (h_common_divisor : P2 T "common_divisor" false f_common_divisor) : ∀ (x0 x1 : D) (en : En), callR T "common_divisor" [] ([.d x0, .d x1], en) = (f_common_divisor x0 x1).bind fun r => .ok (r, en) := by
  intro x0 x1 en
  rw [y_callF (as := [.d x0, .d x1]) _ rfl]
  simp only [r_nil, r_d, r_b, r_o, om_some, resK_s, ownK_s, List.map_cons, List.map_nil, List.cons_append, List.nil_append, h_common_divisor.2.2, b_assoc, b_ok]
  exact congrArg (R.bind _) (funext fun r => q_pure _ _ rfl rfl)
theorem l_is_fraction_c1 {T : Tab} (h_is_integer : P1 T "is_integer" false f_is_integer) (h_common_divisor : P2 T "common_divisor" false f_common_divisor)    (s0 : Slot) : ∀ (ds : List D) , lcGo (lcC T 34 none) (evE T 34 (.call "is_integer" [.v 1] [])) (.n 1) [1] ds [s0, .no] = (f_is_fraction_c1 ds).bind fun r => .ok (r, [s0, .no])
  | [] => by simp -implicitDefEqProofs only [lc_0, f_is_fraction_c1, b_ok]
  | d :: ds => by
    simp -implicitDefEqProofs only [obs_nil, obs_cons, obs_nx, obs_rt, obs_bk, obs_ct, obs_bad, obs_o, obs_ite, obs_own, out_none, out_some, stK_n, stK_t1, stK_t2, stK_t3, stK_t4, smK_nil, smK_cons, obs_asg, obs_par, obs_set, obs_app, obs_pop, x_rem, obs_rem, x_expr, y_asgO, obs_asgO, y_frz, y_wip, y_retO, y_retF, obs_retF, x_brk, x_cont, x_pass, x_stop, obs_for, x_asg, x_ret, x_ite, x_par, x_whl, x_setI, setR_eq, x_app, x_for, e_c, e_v, e_g, e_pr, prR, e_and, e_or, e_ite, y_and, y_or, y_ite, e_ch, y_ch, e_lc, y_lc, y_lcb, a_lcb, a_nil, a_c, a_g, a_v, a_pr, a_and, a_or, a_ite, a_ch, a_call, a_lc, cons_ok, a_bw, a_io, v_0, v_s, w_0, w_v, w_n, w_s, rd_nil, rd_d, rd_b, om_some, el_nil, el_cons, elc_ok, b_ok, b_bad, b_assoc, iteD_t, iteD_f, iteD_bind, un1_bind, un2_bind, un3_bind, un4_bind, un1_t, un2_t, un3_t, un4_t, asL_bind, asL_l, ownK_s, el_nx, el_rt, el_bind, lcK_bind, nlG_bind, ioG_bind, if_true, if_false, fls_iff, tru_iff, n_isSome, s_isSome, isIo_n, isIo_s, ioIn_n, ioIn_s, List.set_cons_zero, List.set_cons_succ, Bool.false_eq_true, Bool.true_eq_false, dt0, dl0, dt1, dl1, dt2, dl2, dt3, dl3, dt4, dl4, dt5, dl5, dt6, dl6, dt7, dl7, dt8, dl8, dt9, dl9, dt10, dl10, dt11, dl11, dt12, dl12, wi_nil, wi_cons, re_nil, re_cons, no_cons, Nat.reduceBEq, Nat.reduceEqDiff, reduceCtorEq, Bool.and_true, Bool.true_and, Bool.and_self, List.contains_cons, List.contains_nil, Bool.or_false, Bool.false_or, Bool.or_self, Option.getD_some, Option.getD_none, List.getElem?_cons_zero, List.getElem?_cons_succ, nx_ok, nx_bad, nx_bind, nx_nx, nx_iteD, nx_un1, nx_un2, nx_itR, nx_lcK, nx_nlG, nx_ioG, nx_prim, no_nil, no_v, no_n, no_s, e_call _ _ _ h_is_integer.1, e_call _ _ _ h_common_divisor.1, k_is_fraction_1 h_is_integer, k_is_fraction_2 h_common_divisor, lc_1, lcC_n, lcC_s, f_is_fraction_c1, l_is_fraction_c1 h_is_integer h_common_divisor s0 ds]
theorem q_is_fraction {T : Tab} (h_is_integer : P1 T "is_integer" false f_is_integer) (h_common_divisor : P2 T "common_divisor" false f_common_divisor)   (a0 : D) : runFd T big d_is_fraction [.val a0] = (f_is_fraction a0).bind fun r => .ok (r, none) := by
  show endOf none false (runL (exS T big none false 40) c_is_fraction [.val a0, .no]) = _
  rw [end_obs]
  unfold c_is_fraction f_is_fraction
  simp -implicitDefEqProofs only [obs_nil, obs_cons, obs_nx, obs_rt, obs_bk, obs_ct, obs_bad, obs_o, obs_ite, obs_own, out_none, out_some, stK_n, stK_t1, stK_t2, stK_t3, stK_t4, smK_nil, smK_cons, obs_asg, obs_par, obs_set, obs_app, obs_pop, x_rem, obs_rem, x_expr, y_asgO, obs_asgO, y_frz, y_wip, y_retO, y_retF, obs_retF, x_brk, x_cont, x_pass, x_stop, obs_for, x_asg, x_ret, x_ite, x_par, x_whl, x_setI, setR_eq, x_app, x_for, e_c, e_v, e_g, e_pr, prR, e_and, e_or, e_ite, y_and, y_or, y_ite, e_ch, y_ch, e_lc, y_lc, y_lcb, a_lcb, a_nil, a_c, a_g, a_v, a_pr, a_and, a_or, a_ite, a_ch, a_call, a_lc, cons_ok, a_bw, a_io, v_0, v_s, w_0, w_v, w_n, w_s, rd_nil, rd_d, rd_b, om_some, el_nil, el_cons, elc_ok, b_ok, b_bad, b_assoc, iteD_t, iteD_f, iteD_bind, un1_bind, un2_bind, un3_bind, un4_bind, un1_t, un2_t, un3_t, un4_t, asL_bind, asL_l, ownK_s, el_nx, el_rt, el_bind, lcK_bind, nlG_bind, ioG_bind, if_true, if_false, fls_iff, tru_iff, n_isSome, s_isSome, isIo_n, isIo_s, ioIn_n, ioIn_s, List.set_cons_zero, List.set_cons_succ, Bool.false_eq_true, Bool.true_eq_false, dt0, dl0, dt1, dl1, dt2, dl2, dt3, dl3, dt4, dl4, dt5, dl5, dt6, dl6, dt7, dl7, dt8, dl8, dt9, dl9, dt10, dl10, dt11, dl11, dt12, dl12, wi_nil, wi_cons, re_nil, re_cons, no_cons, Nat.reduceBEq, Nat.reduceEqDiff, reduceCtorEq, Bool.and_true, Bool.true_and, Bool.and_self, List.contains_cons, List.contains_nil, Bool.or_false, Bool.false_or, Bool.or_self, Option.getD_some, Option.getD_none, List.getElem?_cons_zero, List.getElem?_cons_succ, nx_ok, nx_bad, nx_bind, nx_nx, nx_iteD, nx_un1, nx_un2, nx_itR, nx_lcK, nx_nlG, nx_ioG, nx_prim, no_nil, no_v, no_n, no_s, e_call _ _ _ h_is_integer.1, e_call _ _ _ h_common_divisor.1, k_is_fraction_1 h_is_integer, k_is_fraction_2 h_common_divisor, l_is_fraction_c1 h_is_integer h_common_divisor]
theorem cp_is_fraction {T : Tab} (h_is_integer : P1 T "is_integer" false f_is_integer) (h_common_divisor : P2 T "common_divisor" false f_common_divisor)   : P1 (T.add big d_is_fraction) "is_fraction" false f_is_fraction := P1.mk rfl rfl fun a0 => q_is_fraction h_is_integer h_common_divisor a0
theorem k_parse_fraction_1 {T : Tab} (h_parse_integer : P1 T "parse_integer" false f_parse_integer) : ∀ (x0 : D) (en : En), callR T "parse_integer" [] ([.d x0], en) = (f_parse_integer x0).bind fun r => .ok (r, en) := by
  intro x0 en
  rw [y_callF (as := [.d x0]) _ rfl]
  simp only [r_nil, r_d, r_b, r_o, om_some, resK_s, ownK_s, List.map_cons, List.map_nil, List.cons_append, List.nil_append, h_parse_integer.2.2, b_assoc, b_ok]
  exact congrArg (R.bind _) (funext fun r => q_pure _ _ rfl rfl)
theorem k_parse_fraction_2 {T : Tab} (h_is_fraction : P1 T "is_fraction" false f_is_fraction) : ∀ (x0 : D) (en : En), callR T "is_fraction" [] ([.d x0], en) = (f_is_fraction x0).bind fun r => .ok (r, en) := by
  intro x0 en
  rw [y_callF (as := [.d x0]) _ rfl]
  simp only [r_nil, r_d, r_b, r_o, om_some, resK_s, ownK_s, List.map_cons, List.map_nil, List.cons_append, List.nil_append, h_is_fraction.2.2, b_assoc, b_ok]
  exact congrArg (R.bind _) (funext fun r => q_pure _ _ rfl rfl)
theorem k_parse_fraction_3 {T : Tab} (h_format_fraction : P1 T "format_fraction" false f_format_fraction) : ∀ (x0 : D) (en : En), callR T "format_fraction" [] ([.d x0], en) = (f_format_fraction x0).bind fun r => .ok (r, en) := by
  intro x0 en
  rw [y_callF (as := [.d x0]) _ rfl]
  simp only [r_nil, r_d, r_b, r_o, om_some, resK_s, ownK_s, List.map_cons, List.map_nil, List.cons_append, List.nil_append, h_format_fraction.2.2, b_assoc, b_ok]
  exact congrArg (R.bind _) (funext fun r => q_pure _ _ rfl rfl)
theorem q_parse_fraction {T : Tab} (h_parse_integer : P1 T "parse_integer" false f_parse_integer) (h_is_fraction : P1 T "is_fraction" false f_is_fraction) (h_format_fraction : P1 T "format_fraction" false f_format_fraction)   (a0 : D) : runFd T big d_parse_fraction [.val a0] = (f_parse_fraction a0).bind fun r => .ok (r, none) := by
  show endOf none false (runL (exS T big none false 40) c_parse_fraction [.val a0, .no, .no, .no, .no, .no, .no]) = _
  rw [end_obs]
  unfold c_parse_fraction f_parse_fraction
  simp -implicitDefEqProofs only [obs_nil, obs_cons, obs_nx, obs_rt, obs_bk, obs_ct, obs_bad, obs_o, obs_ite, obs_own, out_none, out_some, stK_n, stK_t1, stK_t2, stK_t3, stK_t4, smK_nil, smK_cons, obs_asg, obs_par, obs_set, obs_app, obs_pop, x_rem, obs_rem, x_expr, y_asgO, obs_asgO, y_frz, y_wip, y_retO, y_retF, obs_retF, x_brk, x_cont, x_pass, x_stop, obs_for, x_asg, x_ret, x_ite, x_par, x_whl, x_setI, setR_eq, x_app, x_for, e_c, e_v, e_g, e_pr, prR, e_and, e_or, e_ite, y_and, y_or, y_ite, e_ch, y_ch, e_lc, y_lc, y_lcb, a_lcb, a_nil, a_c, a_g, a_v, a_pr, a_and, a_or, a_ite, a_ch, a_call, a_lc, cons_ok, a_bw, a_io, v_0, v_s, w_0, w_v, w_n, w_s, rd_nil, rd_d, rd_b, om_some, el_nil, el_cons, elc_ok, b_ok, b_bad, b_assoc, iteD_t, iteD_f, iteD_bind, un1_bind, un2_bind, un3_bind, un4_bind, un1_t, un2_t, un3_t, un4_t, asL_bind, asL_l, ownK_s, el_nx, el_rt, el_bind, lcK_bind, nlG_bind, ioG_bind, if_true, if_false, fls_iff, tru_iff, n_isSome, s_isSome, isIo_n, isIo_s, ioIn_n, ioIn_s, List.set_cons_zero, List.set_cons_succ, Bool.false_eq_true, Bool.true_eq_false, dt0, dl0, dt1, dl1, dt2, dl2, dt3, dl3, dt4, dl4, dt5, dl5, dt6, dl6, dt7, dl7, dt8, dl8, dt9, dl9, dt10, dl10, dt11, dl11, dt12, dl12, wi_nil, wi_cons, re_nil, re_cons, no_cons, Nat.reduceBEq, Nat.reduceEqDiff, reduceCtorEq, Bool.and_true, Bool.true_and, Bool.and_self, List.contains_cons, List.contains_nil, Bool.or_false, Bool.false_or, Bool.or_self, Option.getD_some, Option.getD_none, List.getElem?_cons_zero, List.getElem?_cons_succ, nx_ok, nx_bad, nx_bind, nx_nx, nx_iteD, nx_un1, nx_un2, nx_itR, nx_lcK, nx_nlG, nx_ioG, nx_prim, no_nil, no_v, no_n, no_s, e_call _ _ _ h_parse_integer.1, e_call _ _ _ h_is_fraction.1, e_call _ _ _ h_format_fraction.1, k_parse_fraction_1 h_parse_integer, k_parse_fraction_2 h_is_fraction, k_parse_fraction_3 h_format_fraction]
theorem cp_parse_fraction {T : Tab} (h_parse_integer : P1 T "parse_integer" false f_parse_integer) (h_is_fraction : P1 T "is_fraction" false f_is_fraction) (h_format_fraction : P1 T "format_fraction" false f_format_fraction)   : P1 (T.add big d_parse_fraction) "parse_fraction" false f_parse_fraction := P1.mk rfl rfl fun a0 => q_parse_fraction h_parse_integer h_is_fraction h_format_fraction a0
theorem k_law_two_right_1 {T : Tab} (h_add : P2 T "add" false f_add) : ∀ (x0 x1 : D) (en : En), callR T "add" [] ([.d x0, .d x1], en) = (f_add x0 x1).bind fun r => .ok (r, en) := by
  intro x0 x1 en
  rw [y_callF (as := [.d x0, .d x1]) _ rfl]
  simp only [r_nil, r_d, r_b, r_o, om_some, resK_s, ownK_s, List.map_cons, List.map_nil, List.cons_append, List.nil_append, h_add.2.2, b_assoc, b_ok]
  exact congrArg (R.bind _) (funext fun r => q_pure _ _ rfl rfl)
theorem k_law_two_right_2 {T : Tab} (h_multiply : P2 T "multiply" false f_multiply) : ∀ (x0 x1 : D) (en : En), callR T "multiply" [] ([.d x0, .d x1], en) = (f_multiply x0 x1).bind fun r => .ok (r, en) := by
  intro x0 x1 en
  rw [y_callF (as := [.d x0, .d x1]) _ rfl]
  simp only [r_nil, r_d, r_b, r_o, om_some, resK_s, ownK_s, List.map_cons, List.map_nil, List.cons_append, List.nil_append, h_multiply.2.2, b_assoc, b_ok]
  exact congrArg (R.bind _) (funext fun r => q_pure _ _ rfl rfl)
theorem k_law_two_right_3 {T : Tab} (h_subtract : P2 T "subtract" false f_subtract) : ∀ (x0 x1 : D) (en : En), callR T "subtract" [] ([.d x0, .d x1], en) = (f_subtract x0 x1).bind fun r => .ok (r, en) := by
  intro x0 x1 en
  rw [y_callF (as := [.d x0, .d x1]) _ rfl]
  simp only [r_nil, r_d, r_b, r_o, om_some, resK_s, ownK_s, List.map_cons, List.map_nil, List.cons_append, List.nil_append, h_subtract.2.2, b_assoc, b_ok]
  exact congrArg (R.bind _) (funext fun r => q_pure _ _ rfl rfl)
theorem k_law_two_right_4 {T : Tab} (h_negative : P1 T "negative" false f_negative) : ∀ (x0 : D) (en : En), callR T "negative" [] ([.d x0], en) = (f_negative x0).bind fun r => .ok (r, en) := by
  intro x0 en
  rw [y_callF (as := [.d x0]) _ rfl]
  simp only [r_nil, r_d, r_b, r_o, om_some, resK_s, ownK_s, List.map_cons, List.map_nil, List.cons_append, List.nil_append, h_negative.2.2, b_assoc, b_ok]
  exact congrArg (R.bind _) (funext fun r => q_pure _ _ rfl rfl)
theorem k_law_two_right_5 {T : Tab} (h_compare : P2 T "compare" false f_compare) : ∀ (x0 x1 : D) (en : En), callR T "compare" [] ([.d x0, .d x1], en) = (f_compare x0 x1).bind fun r => .ok (r, en) := by
  intro x0 x1 en
  rw [y_callF (as := [.d x0, .d x1]) _ rfl]
  simp only [r_nil, r_d, r_b, r_o, om_some, resK_s, ownK_s, List.map_cons, List.map_nil, List.cons_append, List.nil_append, h_compare.2.2, b_assoc, b_ok]
  exact congrArg (R.bind _) (funext fun r => q_pure _ _ rfl rfl)
theorem k_law_two_right_6 {T : Tab} (h_divide : P2 T "divide" false f_divide) : ∀ (x0 x1 : D) (en : En), callR T "divide" [] ([.d x0, .d x1], en) = (f_divide x0 x1).bind fun r => .ok (r, en) := by
  intro x0 x1 en
  rw [y_callF (as := [.d x0, .d x1]) _ rfl]
  simp only [r_nil, r_d, r_b, r_o, om_some, resK_s, ownK_s, List.map_cons, List.map_nil, List.cons_append, List.nil_append, h_divide.2.2, b_assoc, b_ok]
  exact congrArg (R.bind _) (funext fun r => q_pure _ _ rfl rfl)
theorem k_law_two_right_7 {T : Tab} (h_absolute : P1 T "absolute" false f_absolute) : ∀ (x0 : D) (en : En), callR T "absolute" [] ([.d x0], en) = (f_absolute x0).bind fun r => .ok (r, en) := by
  intro x0 en
  rw [y_callF (as := [.d x0]) _ rfl]
  simp only [r_nil, r_d, r_b, r_o, om_some, resK_s, ownK_s, List.map_cons, List.map_nil, List.cons_append, List.nil_append, h_absolute.2.2, b_assoc, b_ok]
  exact congrArg (R.bind _) (funext fun r => q_pure _ _ rfl rfl)
theorem k_law_two_right_8 {T : Tab} (h_format_fraction : P1 T "format_fraction" false f_format_fraction) : ∀ (x0 : D) (en : En), callR T "format_fraction" [] ([.d x0], en) = (f_format_fraction x0).bind fun r => .ok (r, en) := by
  intro x0 en
  rw [y_callF (as := [.d x0]) _ rfl]
  simp only [r_nil, r_d, r_b, r_o, om_some, resK_s, ownK_s, List.map_cons, List.map_nil, List.cons_append, List.nil_append, h_format_fraction.2.2, b_assoc, b_ok]
  exact congrArg (R.bind _) (funext fun r => q_pure _ _ rfl rfl)
theorem k_law_two_right_9 {T : Tab} (h_parse_fraction : P1 T "parse_fraction" false f_parse_fraction) : ∀ (x0 : D) (en : En), callR T "parse_fraction" [] ([.d x0], en) = (f_parse_fraction x0).bind fun r => .ok (r, en) := by
  intro x0 en
  rw [y_callF (as := [.d x0]) _ rfl]
  simp only [r_nil, r_d, r_b, r_o, om_some, resK_s, ownK_s, List.map_cons, List.map_nil, List.cons_append, List.nil_append, h_parse_fraction.2.2, b_assoc, b_ok]
  exact congrArg (R.bind _) (funext fun r => q_pure _ _ rfl rfl)
theorem k_law_two_right_10 {T : Tab} (h_is_fraction : P1 T "is_fraction" false f_is_fraction) : ∀ (x0 : D) (en : En), callR T "is_fraction" [] ([.d x0], en) = (f_is_fraction x0).bind fun r => .ok (r, en) := by
  intro x0 en
  rw [y_callF (as := [.d x0]) _ rfl]
  simp only [r_nil, r_d, r_b, r_o, om_some, resK_s, ownK_s, List.map_cons, List.map_nil, List.cons_append, List.nil_append, h_is_fraction.2.2, b_assoc, b_ok]
  exact congrArg (R.bind _) (funext fun r => q_pure _ _ rfl rfl)
theorem l_law_two_right_c1 {T : Tab} (h_add : P2 T "add" false f_add) (h_multiply : P2 T "multiply" false f_multiply) (h_subtract : P2 T "subtract" false f_subtract) (h_negative : P1 T "negative" false f_negative) (h_compare : P2 T "compare" false f_compare) (h_divide : P2 T "divide" false f_divide) (h_absolute : P1 T "absolute" false f_absolute) (h_format_fraction : P1 T "format_fraction" false f_format_fraction) (h_parse_fraction : P1 T "parse_fraction" false f_parse_fraction) (h_is_fraction : P1 T "is_fraction" false f_is_fraction)    (s0 s1 s2 s4 s5 : Slot) : ∀ (ds : List D) , lcGo (lcC T 38 none) (evE T 38 (.call "format_fraction" [.v 3] [])) (.n 3) [3] ds [s0, s1, s2, .no, s4, s5] = (f_law_two_right_c1 ds).bind fun r => .ok (r, [s0, s1, s2, .no, s4, s5])
  | [] => by simp -implicitDefEqProofs only [lc_0, f_law_two_right_c1, b_ok]
  | d :: ds => by
    simp -implicitDefEqProofs only [obs_nil, obs_cons, obs_nx, obs_rt, obs_bk, obs_ct, obs_bad, obs_o, obs_ite, obs_own, out_none, out_some, stK_n, stK_t1, stK_t2, stK_t3, stK_t4, smK_nil, smK_cons, obs_asg, obs_par, obs_set, obs_app, obs_pop, x_rem, obs_rem, x_expr, y_asgO, obs_asgO, y_frz, y_wip, y_retO, y_retF, obs_retF, x_brk, x_cont, x_pass, x_stop, obs_for, x_asg, x_ret, x_ite, x_par, x_whl, x_setI, setR_eq, x_app, x_for, e_c, e_v, e_g, e_pr, prR, e_and, e_or, e_ite, y_and, y_or, y_ite, e_ch, y_ch, e_lc, y_lc, y_lcb, a_lcb, a_nil, a_c, a_g, a_v, a_pr, a_and, a_or, a_ite, a_ch, a_call, a_lc, cons_ok, a_bw, a_io, v_0, v_s, w_0, w_v, w_n, w_s, rd_nil, rd_d, rd_b, om_some, el_nil, el_cons, elc_ok, b_ok, b_bad, b_assoc, iteD_t, iteD_f, iteD_bind, un1_bind, un2_bind, un3_bind, un4_bind, un1_t, un2_t, un3_t, un4_t, asL_bind, asL_l, ownK_s, el_nx, el_rt, el_bind, lcK_bind, nlG_bind, ioG_bind, if_true, if_false, fls_iff, tru_iff, n_isSome, s_isSome, isIo_n, isIo_s, ioIn_n, ioIn_s, List.set_cons_zero, List.set_cons_succ, Bool.false_eq_true, Bool.true_eq_false, dt0, dl0, dt1, dl1, dt2, dl2, dt3, dl3, dt4, dl4, dt5, dl5, dt6, dl6, dt7, dl7, dt8, dl8, dt9, dl9, dt10, dl10, dt11, dl11, dt12, dl12, wi_nil, wi_cons, re_nil, re_cons, no_cons, Nat.reduceBEq, Nat.reduceEqDiff, reduceCtorEq, Bool.and_true, Bool.true_and, Bool.and_self, List.contains_cons, List.contains_nil, Bool.or_false, Bool.false_or, Bool.or_self, Option.getD_some, Option.getD_none, List.getElem?_cons_zero, List.getElem?_cons_succ, nx_ok, nx_bad, nx_bind, nx_nx, nx_iteD, nx_un1, nx_un2, nx_itR, nx_lcK, nx_nlG, nx_ioG, nx_prim, no_nil, no_v, no_n, no_s, e_call _ _ _ h_add.1, e_call _ _ _ h_multiply.1, e_call _ _ _ h_subtract.1, e_call _ _ _ h_negative.1, e_call _ _ _ h_compare.1, e_call _ _ _ h_divide.1, e_call _ _ _ h_absolute.1, e_call _ _ _ h_format_fraction.1, e_call _ _ _ h_parse_fraction.1, e_call _ _ _ h_is_fraction.1, k_law_two_right_1 h_add, k_law_two_right_2 h_multiply, k_law_two_right_3 h_subtract, k_law_two_right_4 h_negative, k_law_two_right_5 h_compare, k_law_two_right_6 h_divide, k_law_two_right_7 h_absolute, k_law_two_right_8 h_format_fraction, k_law_two_right_9 h_parse_fraction, k_law_two_right_10 h_is_fraction, lc_1, lcC_n, lcC_s, f_law_two_right_c1, l_law_two_right_c1 h_add h_multiply h_subtract h_negative h_compare h_divide h_absolute h_format_fraction h_parse_fraction h_is_fraction s0 s1 s2 s4 s5 ds]
theorem l_law_two_right_c2 {T : Tab} (h_add : P2 T "add" false f_add) (h_multiply : P2 T "multiply" false f_multiply) (h_subtract : P2 T "subtract" false f_subtract) (h_negative : P1 T "negative" false f_negative) (h_compare : P2 T "compare" false f_compare) (h_divide : P2 T "divide" false f_divide) (h_absolute : P1 T "absolute" false f_absolute) (h_format_fraction : P1 T "format_fraction" false f_format_fraction) (h_parse_fraction : P1 T "parse_fraction" false f_parse_fraction) (h_is_fraction : P1 T "is_fraction" false f_is_fraction)    (s0 s1 s2 s3 s5 : Slot) : ∀ (ds : List D) , lcGo (lcC T 37 none) (evE T 37 (.call "parse_fraction" [.v 4] [])) (.n 4) [4] ds [s0, s1, s2, s3, .no, s5] = (f_law_two_right_c2 ds).bind fun r => .ok (r, [s0, s1, s2, s3, .no, s5])
  | [] => by simp -implicitDefEqProofs only [lc_0, f_law_two_right_c2, b_ok]
  | d :: ds => by
    simp -implicitDefEqProofs only [obs_nil, obs_cons, obs_nx, obs_rt, obs_bk, obs_ct, obs_bad, obs_o, obs_ite, obs_own, out_none, out_some, stK_n, stK_t1, stK_t2, stK_t3, stK_t4, smK_nil, smK_cons, obs_asg, obs_par, obs_set, obs_app, obs_pop, x_rem, obs_rem, x_expr, y_asgO, obs_asgO, y_frz, y_wip, y_retO, y_retF, obs_retF, x_brk, x_cont, x_pass, x_stop, obs_for, x_asg, x_ret, x_ite, x_par, x_whl, x_setI, setR_eq, x_app, x_for, e_c, e_v, e_g, e_pr, prR, e_and, e_or, e_ite, y_and, y_or, y_ite, e_ch, y_ch, e_lc, y_lc, y_lcb, a_lcb, a_nil, a_c, a_g, a_v, a_pr, a_and, a_or, a_ite, a_ch, a_call, a_lc, cons_ok, a_bw, a_io, v_0, v_s, w_0, w_v, w_n, w_s, rd_nil, rd_d, rd_b, om_some, el_nil, el_cons, elc_ok, b_ok, b_bad, b_assoc, iteD_t, iteD_f, iteD_bind, un1_bind, un2_bind, un3_bind, un4_bind, un1_t, un2_t, un3_t, un4_t, asL_bind, asL_l, ownK_s, el_nx, el_rt, el_bind, lcK_bind, nlG_bind, ioG_bind, if_true, if_false, fls_iff, tru_iff, n_isSome, s_isSome, isIo_n, isIo_s, ioIn_n, ioIn_s, List.set_cons_zero, List.set_cons_succ, Bool.false_eq_true, Bool.true_eq_false, dt0, dl0, dt1, dl1, dt2, dl2, dt3, dl3, dt4, dl4, dt5, dl5, dt6, dl6, dt7, dl7, dt8, dl8, dt9, dl9, dt10, dl10, dt11, dl11, dt12, dl12, wi_nil, wi_cons, re_nil, re_cons, no_cons, Nat.reduceBEq, Nat.reduceEqDiff, reduceCtorEq, Bool.and_true, Bool.true_and, Bool.and_self, List.contains_cons, List.contains_nil, Bool.or_false, Bool.false_or, Bool.or_self, Option.getD_some, Option.getD_none, List.getElem?_cons_zero, List.getElem?_cons_succ, nx_ok, nx_bad, nx_bind, nx_nx, nx_iteD, nx_un1, nx_un2, nx_itR, nx_lcK, nx_nlG, nx_ioG, nx_prim, no_nil, no_v, no_n, no_s, e_call _ _ _ h_add.1, e_call _ _ _ h_multiply.1, e_call _ _ _ h_subtract.1, e_call _ _ _ h_negative.1, e_call _ _ _ h_compare.1, e_call _ _ _ h_divide.1, e_call _ _ _ h_absolute.1, e_call _ _ _ h_format_fraction.1, e_call _ _ _ h_parse_fraction.1, e_call _ _ _ h_is_fraction.1, k_law_two_right_1 h_add, k_law_two_right_2 h_multiply, k_law_two_right_3 h_subtract, k_law_two_right_4 h_negative, k_law_two_right_5 h_compare, k_law_two_right_6 h_divide, k_law_two_right_7 h_absolute, k_law_two_right_8 h_format_fraction, k_law_two_right_9 h_parse_fraction, k_law_two_right_10 h_is_fraction, l_law_two_right_c1 h_add h_multiply h_subtract h_negative h_compare h_divide h_absolute h_format_fraction h_parse_fraction h_is_fraction, lc_1, lcC_n, lcC_s, f_law_two_right_c2, l_law_two_right_c2 h_add h_multiply h_subtract h_negative h_compare h_divide h_absolute h_format_fraction h_parse_fraction h_is_fraction s0 s1 s2 s3 s5 ds]
theorem l_law_two_right_c3 {T : Tab} (h_add : P2 T "add" false f_add) (h_multiply : P2 T "multiply" false f_multiply) (h_subtract : P2 T "subtract" false f_subtract) (h_negative : P1 T "negative" false f_negative) (h_compare : P2 T "compare" false f_compare) (h_divide : P2 T "divide" false f_divide) (h_absolute : P1 T "absolute" false f_absolute) (h_format_fraction : P1 T "format_fraction" false f_format_fraction) (h_parse_fraction : P1 T "parse_fraction" false f_parse_fraction) (h_is_fraction : P1 T "is_fraction" false f_is_fraction)    (s0 s1 s2 s4 s5 : Slot) : ∀ (ds : List D) , lcGo (lcC T 37 none) (evE T 37 (.call "is_fraction" [.v 3] [])) (.n 3) [3] ds [s0, s1, s2, .no, s4, s5] = (f_law_two_right_c3 ds).bind fun r => .ok (r, [s0, s1, s2, .no, s4, s5])
  | [] => by simp -implicitDefEqProofs only [lc_0, f_law_two_right_c3, b_ok]
  | d :: ds => by
    simp -implicitDefEqProofs only [obs_nil, obs_cons, obs_nx, obs_rt, obs_bk, obs_ct, obs_bad, obs_o, obs_ite, obs_own, out_none, out_some, stK_n, stK_t1, stK_t2, stK_t3, stK_t4, smK_nil, smK_cons, obs_asg, obs_par, obs_set, obs_app, obs_pop, x_rem, obs_rem, x_expr, y_asgO, obs_asgO, y_frz, y_wip, y_retO, y_retF, obs_retF, x_brk, x_cont, x_pass, x_stop, obs_for, x_asg, x_ret, x_ite, x_par, x_whl, x_setI, setR_eq, x_app, x_for, e_c, e_v, e_g, e_pr, prR, e_and, e_or, e_ite, y_and, y_or, y_ite, e_ch, y_ch, e_lc, y_lc, y_lcb, a_lcb, a_nil, a_c, a_g, a_v, a_pr, a_and, a_or, a_ite, a_ch, a_call, a_lc, cons_ok, a_bw, a_io, v_0, v_s, w_0, w_v, w_n, w_s, rd_nil, rd_d, rd_b, om_some, el_nil, el_cons, elc_ok, b_ok, b_bad, b_assoc, iteD_t, iteD_f, iteD_bind, un1_bind, un2_bind, un3_bind, un4_bind, un1_t, un2_t, un3_t, un4_t, asL_bind, asL_l, ownK_s, el_nx, el_rt, el_bind, lcK_bind, nlG_bind, ioG_bind, if_true, if_false, fls_iff, tru_iff, n_isSome, s_isSome, isIo_n, isIo_s, ioIn_n, ioIn_s, List.set_cons_zero, List.set_cons_succ, Bool.false_eq_true, Bool.true_eq_false, dt0, dl0, dt1, dl1, dt2, dl2, dt3, dl3, dt4, dl4, dt5, dl5, dt6, dl6, dt7, dl7, dt8, dl8, dt9, dl9, dt10, dl10, dt11, dl11, dt12, dl12, wi_nil, wi_cons, re_nil, re_cons, no_cons, Nat.reduceBEq, Nat.reduceEqDiff, reduceCtorEq, Bool.and_true, Bool.true_and, Bool.and_self, List.contains_cons, List.contains_nil, Bool.or_false, Bool.false_or, Bool.or_self, Option.getD_some, Option.getD_none, List.getElem?_cons_zero, List.getElem?_cons_succ, nx_ok, nx_bad, nx_bind, nx_nx, nx_iteD, nx_un1, nx_un2, nx_itR, nx_lcK, nx_nlG, nx_ioG, nx_prim, no_nil, no_v, no_n, no_s, e_call _ _ _ h_add.1, e_call _ _ _ h_multiply.1, e_call _ _ _ h_subtract.1, e_call _ _ _ h_negative.1, e_call _ _ _ h_compare.1, e_call _ _ _ h_divide.1, e_call _ _ _ h_absolute.1, e_call _ _ _ h_format_fraction.1, e_call _ _ _ h_parse_fraction.1, e_call _ _ _ h_is_fraction.1, k_law_two_right_1 h_add, k_law_two_right_2 h_multiply, k_law_two_right_3 h_subtract, k_law_two_right_4 h_negative, k_law_two_right_5 h_compare, k_law_two_right_6 h_divide, k_law_two_right_7 h_absolute, k_law_two_right_8 h_format_fraction, k_law_two_right_9 h_parse_fraction, k_law_two_right_10 h_is_fraction, l_law_two_right_c1 h_add h_multiply h_subtract h_negative h_compare h_divide h_absolute h_format_fraction h_parse_fraction h_is_fraction, l_law_two_right_c2 h_add h_multiply h_subtract h_negative h_compare h_divide h_absolute h_format_fraction h_parse_fraction h_is_fraction, lc_1, lcC_n, lcC_s, f_law_two_right_c3, l_law_two_right_c3 h_add h_multiply h_subtract h_negative h_compare h_divide h_absolute h_format_fraction h_parse_fraction h_is_fraction s0 s1 s2 s4 s5 ds]
theorem q_law_two_right {T : Tab} (h_add : P2 T "add" false f_add) (h_multiply : P2 T "multiply" false f_multiply) (h_subtract : P2 T "subtract" false f_subtract) (h_negative : P1 T "negative" false f_negative) (h_compare : P2 T "compare" false f_compare) (h_divide : P2 T "divide" false f_divide) (h_absolute : P1 T "absolute" false f_absolute) (h_format_fraction : P1 T "format_fraction" false f_format_fraction) (h_parse_fraction : P1 T "parse_fraction" false f_parse_fraction) (h_is_fraction : P1 T "is_fraction" false f_is_fraction)   (a0 : D) (a1 : D) : runFd T big d_law_two_right [.val a0, .val a1] = (f_law_two_right a0 a1).bind fun r => .ok (r, none) := by
  show endOf none false (runL (exS T big none false 40) c_law_two_right [.val a0, .val a1, .no, .no, .no, .no]) = _
  rw [end_obs]
  unfold c_law_two_right f_law_two_right
  simp -implicitDefEqProofs only [obs_nil, obs_cons, obs_nx, obs_rt, obs_bk, obs_ct, obs_bad, obs_o, obs_ite, obs_own, out_none, out_some, stK_n, stK_t1, stK_t2, stK_t3, stK_t4, smK_nil, smK_cons, obs_asg, obs_par, obs_set, obs_app, obs_pop, x_rem, obs_rem, x_expr, y_asgO, obs_asgO, y_frz, y_wip, y_retO, y_retF, obs_retF, x_brk, x_cont, x_pass, x_stop, obs_for, x_asg, x_ret, x_ite, x_par, x_whl, x_setI, setR_eq, x_app, x_for, e_c, e_v, e_g, e_pr, prR, e_and, e_or, e_ite, y_and, y_or, y_ite, e_ch, y_ch, e_lc, y_lc, y_lcb, a_lcb, a_nil, a_c, a_g, a_v, a_pr, a_and, a_or, a_ite, a_ch, a_call, a_lc, cons_ok, a_bw, a_io, v_0, v_s, w_0, w_v, w_n, w_s, rd_nil, rd_d, rd_b, om_some, el_nil, el_cons, elc_ok, b_ok, b_bad, b_assoc, iteD_t, iteD_f, iteD_bind, un1_bind, un2_bind, un3_bind, un4_bind, un1_t, un2_t, un3_t, un4_t, asL_bind, asL_l, ownK_s, el_nx, el_rt, el_bind, lcK_bind, nlG_bind, ioG_bind, if_true, if_false, fls_iff, tru_iff, n_isSome, s_isSome, isIo_n, isIo_s, ioIn_n, ioIn_s, List.set_cons_zero, List.set_cons_succ, Bool.false_eq_true, Bool.true_eq_false, dt0, dl0, dt1, dl1, dt2, dl2, dt3, dl3, dt4, dl4, dt5, dl5, dt6, dl6, dt7, dl7, dt8, dl8, dt9, dl9, dt10, dl10, dt11, dl11, dt12, dl12, wi_nil, wi_cons, re_nil, re_cons, no_cons, Nat.reduceBEq, Nat.reduceEqDiff, reduceCtorEq, Bool.and_true, Bool.true_and, Bool.and_self, List.contains_cons, List.contains_nil, Bool.or_false, Bool.false_or, Bool.or_self, Option.getD_some, Option.getD_none, List.getElem?_cons_zero, List.getElem?_cons_succ, nx_ok, nx_bad, nx_bind, nx_nx, nx_iteD, nx_un1, nx_un2, nx_itR, nx_lcK, nx_nlG, nx_ioG, nx_prim, no_nil, no_v, no_n, no_s, e_call _ _ _ h_add.1, e_call _ _ _ h_multiply.1, e_call _ _ _ h_subtract.1, e_call _ _ _ h_negative.1, e_call _ _ _ h_compare.1, e_call _ _ _ h_divide.1, e_call _ _ _ h_absolute.1, e_call _ _ _ h_format_fraction.1, e_call _ _ _ h_parse_fraction.1, e_call _ _ _ h_is_fraction.1, k_law_two_right_1 h_add, k_law_two_right_2 h_multiply, k_law_two_right_3 h_subtract, k_law_two_right_4 h_negative, k_law_two_right_5 h_compare, k_law_two_right_6 h_divide, k_law_two_right_7 h_absolute, k_law_two_right_8 h_format_fraction, k_law_two_right_9 h_parse_fraction, k_law_two_right_10 h_is_fraction, l_law_two_right_c1 h_add h_multiply h_subtract h_negative h_compare h_divide h_absolute h_format_fraction h_parse_fraction h_is_fraction, l_law_two_right_c2 h_add h_multiply h_subtract h_negative h_compare h_divide h_absolute h_format_fraction h_parse_fraction h_is_fraction, l_law_two_right_c3 h_add h_multiply h_subtract h_negative h_compare h_divide h_absolute h_format_fraction h_parse_fraction h_is_fraction]
theorem cp_law_two_right {T : Tab} (h_add : P2 T "add" false f_add) (h_multiply : P2 T "multiply" false f_multiply) (h_subtract : P2 T "subtract" false f_subtract) (h_negative : P1 T "negative" false f_negative) (h_compare : P2 T "compare" false f_compare) (h_divide : P2 T "divide" false f_divide) (h_absolute : P1 T "absolute" false f_absolute) (h_format_fraction : P1 T "format_fraction" false f_format_fraction) (h_parse_fraction : P1 T "parse_fraction" false f_parse_fraction) (h_is_fraction : P1 T "is_fraction" false f_is_fraction)   : P2 (T.add big d_law_two_right) "_law_two_right" false f_law_two_right := P2.mk rfl rfl fun a0 a1 => q_law_two_right h_add h_multiply h_subtract h_negative h_compare h_divide h_absolute h_format_fraction h_parse_fraction h_is_fraction a0 a1
theorem k_law_04_1 {T : Tab} (h_law_supply : P1 T "_law_supply" true f_law_supply) : ∀ (x0 : D) (en : En), callR T "_law_supply" [] ([.d x0], en) = (f_law_supply x0).bind fun r => .ok (r, en) := by
  intro x0 en
  rw [y_callF (as := [.d x0]) _ rfl]
  simp only [r_nil, r_d, r_b, r_o, om_some, resK_s, ownK_s, List.map_cons, List.map_nil, List.cons_append, List.nil_append, h_law_supply.2.2, b_assoc, b_ok]
  exact congrArg (R.bind _) (funext fun r => q_pure _ _ rfl rfl)
theorem k_law_04_2 {T : Tab} (h_law_one_of : I2 T "_law_one_of" false f_law_one_of) : ∀ (x1 : D) (en : En), callR T "_law_one_of" [] ([.o 8, .d x1], en) = ownK (ownAt en 8) fun l0 => (f_law_one_of l0 x1).bind fun r => .ok (r.1, en.set 8 (.own r.2)) := by
  intro x1 en
  rw [y_callF (as := [.o 8, .d x1]) _ rfl]
  cases z0 : ownAt en 8 with
  | none => simp only [r_nil, r_d, r_b, r_o, om_some, om_none, resK_n, ownK_n, ownK_s, z0]
  | some l0 =>
    simp only [r_nil, r_d, r_b, r_o, om_some, resK_s, ownK_s, List.map_cons, List.map_nil, List.cons_append, List.nil_append, h_law_one_of.2.2, b_assoc, b_ok, z0]
    exact congrArg (R.bind _) (funext fun r => q_io _ _ _ rfl rfl)
theorem k_law_04_3 {T : Tab} (h_law_fraction : I2 T "_law_fraction" false f_law_fraction) : ∀ (x1 : D) (en : En), callR T "_law_fraction" [] ([.o 8, .d x1], en) = ownK (ownAt en 8) fun l0 => (f_law_fraction l0 x1).bind fun r => .ok (r.1, en.set 8 (.own r.2)) := by
  intro x1 en
  rw [y_callF (as := [.o 8, .d x1]) _ rfl]
  cases z0 : ownAt en 8 with
  | none => simp only [r_nil, r_d, r_b, r_o, om_some, om_none, resK_n, ownK_n, ownK_s, z0]
  | some l0 =>
    simp only [r_nil, r_d, r_b, r_o, om_some, resK_s, ownK_s, List.map_cons, List.map_nil, List.cons_append, List.nil_append, h_law_fraction.2.2, b_assoc, b_ok, z0]
    exact congrArg (R.bind _) (funext fun r => q_io _ _ _ rfl rfl)
theorem k_law_04_4 {T : Tab} (h_law_three_right : P3 T "_law_three_right" false f_law_three_right) : ∀ (x0 x1 x2 : D) (en : En), callR T "_law_three_right" [] ([.d x0, .d x1, .d x2], en) = (f_law_three_right x0 x1 x2).bind fun r => .ok (r, en) := by
  intro x0 x1 x2 en
  rw [y_callF (as := [.d x0, .d x1, .d x2]) _ rfl]
  simp only [r_nil, r_d, r_b, r_o, om_some, resK_s, ownK_s, List.map_cons, List.map_nil, List.cons_append, List.nil_append, h_law_three_right.2.2, b_assoc, b_ok]
  exact congrArg (R.bind _) (funext fun r => q_pure _ _ rfl rfl)
theorem k_law_04_5 {T : Tab} (h_law_two_right : P2 T "_law_two_right" false f_law_two_right) : ∀ (x0 x1 : D) (en : En), callR T "_law_two_right" [] ([.d x0, .d x1], en) = (f_law_two_right x0 x1).bind fun r => .ok (r, en) := by
  intro x0 x1 en
  rw [y_callF (as := [.d x0, .d x1]) _ rfl]
  simp only [r_nil, r_d, r_b, r_o, om_some, resK_s, ownK_s, List.map_cons, List.map_nil, List.cons_append, List.nil_append, h_law_two_right.2.2, b_assoc, b_ok]
  exact congrArg (R.bind _) (funext fun r => q_pure _ _ rfl rfl)
theorem k_law_04_6 {T : Tab} (h_add : P2 T "add" false f_add) : ∀ (x0 x1 : D) (en : En), callR T "add" [] ([.d x0, .d x1], en) = (f_add x0 x1).bind fun r => .ok (r, en) := by
  intro x0 x1 en
  rw [y_callF (as := [.d x0, .d x1]) _ rfl]
  simp only [r_nil, r_d, r_b, r_o, om_some, resK_s, ownK_s, List.map_cons, List.map_nil, List.cons_append, List.nil_append, h_add.2.2, b_assoc, b_ok]
  exact congrArg (R.bind _) (funext fun r => q_pure _ _ rfl rfl)
theorem k_law_04_7 {T : Tab} (h_multiply : P2 T "multiply" false f_multiply) : ∀ (x0 x1 : D) (en : En), callR T "multiply" [] ([.d x0, .d x1], en) = (f_multiply x0 x1).bind fun r => .ok (r, en) := by
  intro x0 x1 en
  rw [y_callF (as := [.d x0, .d x1]) _ rfl]
  simp only [r_nil, r_d, r_b, r_o, om_some, resK_s, ownK_s, List.map_cons, List.map_nil, List.cons_append, List.nil_append, h_multiply.2.2, b_assoc, b_ok]
  exact congrArg (R.bind _) (funext fun r => q_pure _ _ rfl rfl)
theorem l_law_04_c1 {T : Tab} (h_law_supply : P1 T "_law_supply" true f_law_supply) (h_law_one_of : I2 T "_law_one_of" false f_law_one_of) (h_law_fraction : I2 T "_law_fraction" false f_law_fraction) (h_law_three_right : P3 T "_law_three_right" false f_law_three_right) (h_law_two_right : P2 T "_law_two_right" false f_law_two_right) (h_add : P2 T "add" false f_add) (h_multiply : P2 T "multiply" false f_multiply)   (v7 : D) (s0 s1 s2 s3 s5 s6 s9 s10 : Slot) : ∀ (ds : List D) (c8 : List D), lcGo (lcC T 37 none) (evE T 37 (.call "_law_fraction" [.io 8, .v 7] [])) (.n 4) [4] ds [s0, s1, s2, s3, .no, s5, s6, .val v7, .own c8, s9, s10] = (f_law_04_c1 v7 ds c8).bind fun r => .ok (r.1, [s0, s1, s2, s3, .no, s5, s6, .val v7, .own r.2, s9, s10])
  | [], c8 => by simp -implicitDefEqProofs only [lc_0, f_law_04_c1, b_ok]
  | d :: ds, c8 => by
    simp -implicitDefEqProofs only [obs_nil, obs_cons, obs_nx, obs_rt, obs_bk, obs_ct, obs_bad, obs_o, obs_ite, obs_own, out_none, out_some, stK_n, stK_t1, stK_t2, stK_t3, stK_t4, smK_nil, smK_cons, obs_asg, obs_par, obs_set, obs_app, obs_pop, x_rem, obs_rem, x_expr, y_asgO, obs_asgO, y_frz, y_wip, y_retO, y_retF, obs_retF, x_brk, x_cont, x_pass, x_stop, obs_for, x_asg, x_ret, x_ite, x_par, x_whl, x_setI, setR_eq, x_app, x_for, e_c, e_v, e_g, e_pr, prR, e_and, e_or, e_ite, y_and, y_or, y_ite, e_ch, y_ch, e_lc, y_lc, y_lcb, a_lcb, a_nil, a_c, a_g, a_v, a_pr, a_and, a_or, a_ite, a_ch, a_call, a_lc, cons_ok, a_bw, a_io, v_0, v_s, w_0, w_v, w_n, w_s, rd_nil, rd_d, rd_b, om_some, el_nil, el_cons, elc_ok, b_ok, b_bad, b_assoc, iteD_t, iteD_f, iteD_bind, un1_bind, un2_bind, un3_bind, un4_bind, un1_t, un2_t, un3_t, un4_t, asL_bind, asL_l, ownK_s, el_nx, el_rt, el_bind, lcK_bind, nlG_bind, ioG_bind, if_true, if_false, fls_iff, tru_iff, n_isSome, s_isSome, isIo_n, isIo_s, ioIn_n, ioIn_s, List.set_cons_zero, List.set_cons_succ, Bool.false_eq_true, Bool.true_eq_false, dt0, dl0, dt1, dl1, dt2, dl2, dt3, dl3, dt4, dl4, dt5, dl5, dt6, dl6, dt7, dl7, dt8, dl8, dt9, dl9, dt10, dl10, dt11, dl11, dt12, dl12, wi_nil, wi_cons, re_nil, re_cons, no_cons, Nat.reduceBEq, Nat.reduceEqDiff, reduceCtorEq, Bool.and_true, Bool.true_and, Bool.and_self, List.contains_cons, List.contains_nil, Bool.or_false, Bool.false_or, Bool.or_self, Option.getD_some, Option.getD_none, List.getElem?_cons_zero, List.getElem?_cons_succ, nx_ok, nx_bad, nx_bind, nx_nx, nx_iteD, nx_un1, nx_un2, nx_itR, nx_lcK, nx_nlG, nx_ioG, nx_prim, no_nil, no_v, no_n, no_s, e_call _ _ _ h_law_supply.1, e_call _ _ _ h_law_one_of.1, e_call _ _ _ h_law_fraction.1, e_call _ _ _ h_law_three_right.1, e_call _ _ _ h_law_two_right.1, e_call _ _ _ h_add.1, e_call _ _ _ h_multiply.1, k_law_04_1 h_law_supply, k_law_04_2 h_law_one_of, k_law_04_3 h_law_fraction, k_law_04_4 h_law_three_right, k_law_04_5 h_law_two_right, k_law_04_6 h_add, k_law_04_7 h_multiply, lc_1, lcC_n, lcC_s, f_law_04_c1, l_law_04_c1 h_law_supply h_law_one_of h_law_fraction h_law_three_right h_law_two_right h_add h_multiply v7 s0 s1 s2 s3 s5 s6 s9 s10 ds]
theorem l_law_04_l2 {T : Tab} {kn kc kb : En → R XO} (h_law_supply : P1 T "_law_supply" true f_law_supply) (h_law_one_of : I2 T "_law_one_of" false f_law_one_of) (h_law_fraction : I2 T "_law_fraction" false f_law_fraction) (h_law_three_right : P3 T "_law_three_right" false f_law_three_right) (h_law_two_right : P2 T "_law_two_right" false f_law_two_right) (h_add : P2 T "add" false f_add) (h_multiply : P2 T "multiply" false f_multiply)    (s0 s1 s2 s3 s4 s7 s8 s10 : Slot) : ∀ (ds : List D) , obs none (loopF (.t [5, 6, 9]) (runL (exS T big none false 38) b_law_04_2) ds [s0, s1, s2, s3, s4, .no, .no, s7, s8, .no, s10]) kn kc kb = (f_law_04_l2 ds).bind fun r => r.el (fun s => kn [s0, s1, s2, s3, s4, .no, .no, s7, s8, .no, s10]) (fun v => .ok (v, none))
  | [] => by simp -implicitDefEqProofs only [obs_f0, f_law_04_l2, b_ok, el_nx]
  | d :: ds => by
    have lrec := l_law_04_l2 (T := T) (kn := kn) (kc := kc) (kb := kb) h_law_supply h_law_one_of h_law_fraction h_law_three_right h_law_two_right h_add h_multiply s0 s1 s2 s3 s4 s7 s8 s10 ds
    rw [obs_f1]
    generalize loopF (.t [5, 6, 9]) (runL (exS T big none false 38) b_law_04_2) ds = loop at lrec ⊢
    unfold b_law_04_2
    simp -implicitDefEqProofs only [obs_nil, obs_cons, obs_nx, obs_rt, obs_bk, obs_ct, obs_bad, obs_o, obs_ite, obs_own, out_none, out_some, stK_n, stK_t1, stK_t2, stK_t3, stK_t4, smK_nil, smK_cons, obs_asg, obs_par, obs_set, obs_app, obs_pop, x_rem, obs_rem, x_expr, y_asgO, obs_asgO, y_frz, y_wip, y_retO, y_retF, obs_retF, x_brk, x_cont, x_pass, x_stop, obs_for, x_asg, x_ret, x_ite, x_par, x_whl, x_setI, setR_eq, x_app, x_for, e_c, e_v, e_g, e_pr, prR, e_and, e_or, e_ite, y_and, y_or, y_ite, e_ch, y_ch, e_lc, y_lc, y_lcb, a_lcb, a_nil, a_c, a_g, a_v, a_pr, a_and, a_or, a_ite, a_ch, a_call, a_lc, cons_ok, a_bw, a_io, v_0, v_s, w_0, w_v, w_n, w_s, rd_nil, rd_d, rd_b, om_some, el_nil, el_cons, elc_ok, b_ok, b_bad, b_assoc, iteD_t, iteD_f, iteD_bind, un1_bind, un2_bind, un3_bind, un4_bind, un1_t, un2_t, un3_t, un4_t, asL_bind, asL_l, ownK_s, el_nx, el_rt, el_bind, lcK_bind, nlG_bind, ioG_bind, if_true, if_false, fls_iff, tru_iff, n_isSome, s_isSome, isIo_n, isIo_s, ioIn_n, ioIn_s, List.set_cons_zero, List.set_cons_succ, Bool.false_eq_true, Bool.true_eq_false, dt0, dl0, dt1, dl1, dt2, dl2, dt3, dl3, dt4, dl4, dt5, dl5, dt6, dl6, dt7, dl7, dt8, dl8, dt9, dl9, dt10, dl10, dt11, dl11, dt12, dl12, wi_nil, wi_cons, re_nil, re_cons, no_cons, Nat.reduceBEq, Nat.reduceEqDiff, reduceCtorEq, Bool.and_true, Bool.true_and, Bool.and_self, List.contains_cons, List.contains_nil, Bool.or_false, Bool.false_or, Bool.or_self, Option.getD_some, Option.getD_none, List.getElem?_cons_zero, List.getElem?_cons_succ, nx_ok, nx_bad, nx_bind, nx_nx, nx_iteD, nx_un1, nx_un2, nx_itR, nx_lcK, nx_nlG, nx_ioG, nx_prim, no_nil, no_v, no_n, no_s, e_call _ _ _ h_law_supply.1, e_call _ _ _ h_law_one_of.1, e_call _ _ _ h_law_fraction.1, e_call _ _ _ h_law_three_right.1, e_call _ _ _ h_law_two_right.1, e_call _ _ _ h_add.1, e_call _ _ _ h_multiply.1, k_law_04_1 h_law_supply, k_law_04_2 h_law_one_of, k_law_04_3 h_law_fraction, k_law_04_4 h_law_three_right, k_law_04_5 h_law_two_right, k_law_04_6 h_add, k_law_04_7 h_multiply, l_law_04_c1 h_law_supply h_law_one_of h_law_fraction h_law_three_right h_law_two_right h_add h_multiply, f_law_04_l2, lrec]
theorem l_law_04_l1 {T : Tab} {kn kc kb : En → R XO} (h_law_supply : P1 T "_law_supply" true f_law_supply) (h_law_one_of : I2 T "_law_one_of" false f_law_one_of) (h_law_fraction : I2 T "_law_fraction" false f_law_fraction) (h_law_three_right : P3 T "_law_three_right" false f_law_three_right) (h_law_two_right : P2 T "_law_two_right" false f_law_two_right) (h_add : P2 T "add" false f_add) (h_multiply : P2 T "multiply" false f_multiply)    (s0 : Slot) : ∀ (ds : List D) (w8 : List D), obs none (loopF (.n 10) (runL (exS T big none false 39) b_law_04_1) ds [s0, .no, .no, .no, .no, .no, .no, .no, .own w8, .no, .no]) kn kc kb = (f_law_04_l1 ds w8).bind fun r => r.el (fun s => kn [s0, .no, .no, .no, .no, .no, .no, .no, .own s, .no, .no]) (fun v => .ok (v, none))
  | [], w8 => by simp -implicitDefEqProofs only [obs_f0, f_law_04_l1, b_ok, el_nx]
  | d :: ds, w8 => by
    have lrec := l_law_04_l1 (T := T) (kn := kn) (kc := kc) (kb := kb) h_law_supply h_law_one_of h_law_fraction h_law_three_right h_law_two_right h_add h_multiply s0 ds
    rw [obs_f1]
    generalize loopF (.n 10) (runL (exS T big none false 39) b_law_04_1) ds = loop at lrec ⊢
    unfold b_law_04_1
    simp -implicitDefEqProofs only [obs_nil, obs_cons, obs_nx, obs_rt, obs_bk, obs_ct, obs_bad, obs_o, obs_ite, obs_own, out_none, out_some, stK_n, stK_t1, stK_t2, stK_t3, stK_t4, smK_nil, smK_cons, obs_asg, obs_par, obs_set, obs_app, obs_pop, x_rem, obs_rem, x_expr, y_asgO, obs_asgO, y_frz, y_wip, y_retO, y_retF, obs_retF, x_brk, x_cont, x_pass, x_stop, obs_for, x_asg, x_ret, x_ite, x_par, x_whl, x_setI, setR_eq, x_app, x_for, e_c, e_v, e_g, e_pr, prR, e_and, e_or, e_ite, y_and, y_or, y_ite, e_ch, y_ch, e_lc, y_lc, y_lcb, a_lcb, a_nil, a_c, a_g, a_v, a_pr, a_and, a_or, a_ite, a_ch, a_call, a_lc, cons_ok, a_bw, a_io, v_0, v_s, w_0, w_v, w_n, w_s, rd_nil, rd_d, rd_b, om_some, el_nil, el_cons, elc_ok, b_ok, b_bad, b_assoc, iteD_t, iteD_f, iteD_bind, un1_bind, un2_bind, un3_bind, un4_bind, un1_t, un2_t, un3_t, un4_t, asL_bind, asL_l, ownK_s, el_nx, el_rt, el_bind, lcK_bind, nlG_bind, ioG_bind, if_true, if_false, fls_iff, tru_iff, n_isSome, s_isSome, isIo_n, isIo_s, ioIn_n, ioIn_s, List.set_cons_zero, List.set_cons_succ, Bool.false_eq_true, Bool.true_eq_false, dt0, dl0, dt1, dl1, dt2, dl2, dt3, dl3, dt4, dl4, dt5, dl5, dt6, dl6, dt7, dl7, dt8, dl8, dt9, dl9, dt10, dl10, dt11, dl11, dt12, dl12, wi_nil, wi_cons, re_nil, re_cons, no_cons, Nat.reduceBEq, Nat.reduceEqDiff, reduceCtorEq, Bool.and_true, Bool.true_and, Bool.and_self, List.contains_cons, List.contains_nil, Bool.or_false, Bool.false_or, Bool.or_self, Option.getD_some, Option.getD_none, List.getElem?_cons_zero, List.getElem?_cons_succ, nx_ok, nx_bad, nx_bind, nx_nx, nx_iteD, nx_un1, nx_un2, nx_itR, nx_lcK, nx_nlG, nx_ioG, nx_prim, no_nil, no_v, no_n, no_s, e_call _ _ _ h_law_supply.1, e_call _ _ _ h_law_one_of.1, e_call _ _ _ h_law_fraction.1, e_call _ _ _ h_law_three_right.1, e_call _ _ _ h_law_two_right.1, e_call _ _ _ h_add.1, e_call _ _ _ h_multiply.1, k_law_04_1 h_law_supply, k_law_04_2 h_law_one_of, k_law_04_3 h_law_fraction, k_law_04_4 h_law_three_right, k_law_04_5 h_law_two_right, k_law_04_6 h_add, k_law_04_7 h_multiply, l_law_04_c1 h_law_supply h_law_one_of h_law_fraction h_law_three_right h_law_two_right h_add h_multiply, l_law_04_l2 h_law_supply h_law_one_of h_law_fraction h_law_three_right h_law_two_right h_add h_multiply, f_law_04_l1, lrec]
theorem q_law_04 {T : Tab} (h_law_supply : P1 T "_law_supply" true f_law_supply) (h_law_one_of : I2 T "_law_one_of" false f_law_one_of) (h_law_fraction : I2 T "_law_fraction" false f_law_fraction) (h_law_three_right : P3 T "_law_three_right" false f_law_three_right) (h_law_two_right : P2 T "_law_two_right" false f_law_two_right) (h_add : P2 T "add" false f_add) (h_multiply : P2 T "multiply" false f_multiply)   (a0 : D) : runFd T big d_law_04 [.val a0] = (f_law_04 a0).bind fun r => .ok (r, none) := by
  show endOf none false (runL (exS T big none false 40) c_law_04 [.val a0, .no, .no, .no, .no, .no, .no, .no, .no, .no, .no]) = _
  rw [end_obs]
  unfold c_law_04 f_law_04
  simp -implicitDefEqProofs only [obs_nil, obs_cons, obs_nx, obs_rt, obs_bk, obs_ct, obs_bad, obs_o, obs_ite, obs_own, out_none, out_some, stK_n, stK_t1, stK_t2, stK_t3, stK_t4, smK_nil, smK_cons, obs_asg, obs_par, obs_set, obs_app, obs_pop, x_rem, obs_rem, x_expr, y_asgO, obs_asgO, y_frz, y_wip, y_retO, y_retF, obs_retF, x_brk, x_cont, x_pass, x_stop, obs_for, x_asg, x_ret, x_ite, x_par, x_whl, x_setI, setR_eq, x_app, x_for, e_c, e_v, e_g, e_pr, prR, e_and, e_or, e_ite, y_and, y_or, y_ite, e_ch, y_ch, e_lc, y_lc, y_lcb, a_lcb, a_nil, a_c, a_g, a_v, a_pr, a_and, a_or, a_ite, a_ch, a_call, a_lc, cons_ok, a_bw, a_io, v_0, v_s, w_0, w_v, w_n, w_s, rd_nil, rd_d, rd_b, om_some, el_nil, el_cons, elc_ok, b_ok, b_bad, b_assoc, iteD_t, iteD_f, iteD_bind, un1_bind, un2_bind, un3_bind, un4_bind, un1_t, un2_t, un3_t, un4_t, asL_bind, asL_l, ownK_s, el_nx, el_rt, el_bind, lcK_bind, nlG_bind, ioG_bind, if_true, if_false, fls_iff, tru_iff, n_isSome, s_isSome, isIo_n, isIo_s, ioIn_n, ioIn_s, List.set_cons_zero, List.set_cons_succ, Bool.false_eq_true, Bool.true_eq_false, dt0, dl0, dt1, dl1, dt2, dl2, dt3, dl3, dt4, dl4, dt5, dl5, dt6, dl6, dt7, dl7, dt8, dl8, dt9, dl9, dt10, dl10, dt11, dl11, dt12, dl12, wi_nil, wi_cons, re_nil, re_cons, no_cons, Nat.reduceBEq, Nat.reduceEqDiff, reduceCtorEq, Bool.and_true, Bool.true_and, Bool.and_self, List.contains_cons, List.contains_nil, Bool.or_false, Bool.false_or, Bool.or_self, Option.getD_some, Option.getD_none, List.getElem?_cons_zero, List.getElem?_cons_succ, nx_ok, nx_bad, nx_bind, nx_nx, nx_iteD, nx_un1, nx_un2, nx_itR, nx_lcK, nx_nlG, nx_ioG, nx_prim, no_nil, no_v, no_n, no_s, e_call _ _ _ h_law_supply.1, e_call _ _ _ h_law_one_of.1, e_call _ _ _ h_law_fraction.1, e_call _ _ _ h_law_three_right.1, e_call _ _ _ h_law_two_right.1, e_call _ _ _ h_add.1, e_call _ _ _ h_multiply.1, k_law_04_1 h_law_supply, k_law_04_2 h_law_one_of, k_law_04_3 h_law_fraction, k_law_04_4 h_law_three_right, k_law_04_5 h_law_two_right, k_law_04_6 h_add, k_law_04_7 h_multiply, l_law_04_c1 h_law_supply h_law_one_of h_law_fraction h_law_three_right h_law_two_right h_add h_multiply, l_law_04_l2 h_law_supply h_law_one_of h_law_fraction h_law_three_right h_law_two_right h_add h_multiply, l_law_04_l1 h_law_supply h_law_one_of h_law_fraction h_law_three_right h_law_two_right h_add h_multiply]
end Vm
end
section
set_option Elab.async false
set_option linter.all false
set_option maxRecDepth 100000
set_option maxHeartbeats 0
namespace K04
open PySem PySem.Spec L2 PyProof.Rows Vm
abbrev R : PySem.W.OpenRow := PySem.W.OpenLaw.row PySem.Challenge.rw_tolimit_k04_whole_field_of_fractions
def top (i : Nat) : Stmt := PySem.Challenge.pw_tolimit_k04_whole_field_of_fractions.main.body.getD i (.Pass ⟨0, 0, 0, 0⟩)
def gs : List (Str × D) := [("DIGITS", .str "0123456789"), ("InvalidNumber", .cls "InvalidNumber"), ("MAX_DIGITS", .int 30), ("ZERO", .tup [.int 0, .int 1]), ("ZeroDivisor", .cls "ZeroDivisor")]
def names0 : List Str := ["_law_supply", "_law_blended", "_law_below", "_law_one_of", "_law_lowest", "_law_fraction", "common_divisor", "fraction", "add", "multiply", "total", "compare", "_law_three_right", "negative", "subtract", "absolute", "format_fraction", "parse_integer", "is_integer", "is_fraction", "parse_fraction", "divide", "_law_two_right", "law"]
def names : List Str := names0
def T0 : Tab := Tab.nil (gOf gs) (xOf gs)
noncomputable def T1 : Tab := T0.add big d_law_supply
noncomputable def T2 : Tab := T1.add big d_law_blended
noncomputable def T3 : Tab := T2.add big d_law_below_2
noncomputable def T4 : Tab := T3.add big d_law_one_of
noncomputable def T5 : Tab := T4.add big d_law_lowest
noncomputable def T6 : Tab := T5.add big d_law_fraction
noncomputable def T7 : Tab := T6.add big d_common_divisor
noncomputable def T8 : Tab := T7.add big d_fraction
noncomputable def T9 : Tab := T8.add big d_add
noncomputable def T10 : Tab := T9.add big d_multiply
noncomputable def T11 : Tab := T10.add big d_total_2
noncomputable def T12 : Tab := T11.add big d_compare
noncomputable def T13 : Tab := T12.add big d_law_three_right
noncomputable def T14 : Tab := T13.add big d_negative
noncomputable def T15 : Tab := T14.add big d_subtract
noncomputable def T16 : Tab := T15.add big d_absolute
noncomputable def T17 : Tab := T16.add big d_format_fraction
noncomputable def T18 : Tab := T17.add big d_parse_integer
noncomputable def T19 : Tab := T18.add big d_is_integer
noncomputable def T20 : Tab := T19.add big d_is_fraction
noncomputable def T21 : Tab := T20.add big d_parse_fraction
noncomputable def T22 : Tab := T21.add big d_divide
noncomputable def T23 : Tab := T22.add big d_law_two_right
def fn0 : List He.DefD := [⟨("_law_supply", none), "_law_supply", "_law_supply", C8.fnArgs (top 25), C8.fnBody (top 25), C8.fnScope (top 25), [], []⟩, ⟨("_law_blended", none), "_law_blended", "_law_blended", C8.fnArgs (top 24), C8.fnBody (top 24), C8.fnScope (top 24), [], []⟩, ⟨("_law_below", none), "_law_below", "_law_below", C8.fnArgs (top 26), C8.fnBody (top 26), C8.fnScope (top 26), [], []⟩, ⟨("_law_one_of", none), "_law_one_of", "_law_one_of", C8.fnArgs (top 27), C8.fnBody (top 27), C8.fnScope (top 27), [], []⟩, ⟨("_law_lowest", none), "_law_lowest", "_law_lowest", C8.fnArgs (top 28), C8.fnBody (top 28), C8.fnScope (top 28), [], []⟩, ⟨("_law_fraction", none), "_law_fraction", "_law_fraction", C8.fnArgs (top 29), C8.fnBody (top 29), C8.fnScope (top 29), [], []⟩, ⟨("common_divisor", none), "common_divisor", "common_divisor", C8.fnArgs (top 9), C8.fnBody (top 9), C8.fnScope (top 9), [], []⟩, ⟨("fraction", none), "fraction", "fraction", C8.fnArgs (top 10), C8.fnBody (top 10), C8.fnScope (top 10), [.int 1], []⟩, ⟨("add", none), "add", "add", C8.fnArgs (top 12), C8.fnBody (top 12), C8.fnScope (top 12), [], []⟩, ⟨("multiply", none), "multiply", "multiply", C8.fnArgs (top 15), C8.fnBody (top 15), C8.fnScope (top 15), [], []⟩, ⟨("total", none), "total", "total", C8.fnArgs (top 19), C8.fnBody (top 19), C8.fnScope (top 19), [], []⟩, ⟨("compare", none), "compare", "compare", C8.fnArgs (top 17), C8.fnBody (top 17), C8.fnScope (top 17), [], []⟩, ⟨("_law_three_right", none), "_law_three_right", "_law_three_right", C8.fnArgs (top 30), C8.fnBody (top 30), C8.fnScope (top 30), [], []⟩, ⟨("negative", none), "negative", "negative", C8.fnArgs (top 13), C8.fnBody (top 13), C8.fnScope (top 13), [], []⟩, ⟨("subtract", none), "subtract", "subtract", C8.fnArgs (top 14), C8.fnBody (top 14), C8.fnScope (top 14), [], []⟩, ⟨("absolute", none), "absolute", "absolute", C8.fnArgs (top 18), C8.fnBody (top 18), C8.fnScope (top 18), [], []⟩, ⟨("format_fraction", none), "format_fraction", "format_fraction", C8.fnArgs (top 20), C8.fnBody (top 20), C8.fnScope (top 20), [], []⟩, ⟨("parse_integer", none), "parse_integer", "parse_integer", C8.fnArgs (top 21), C8.fnBody (top 21), C8.fnScope (top 21), [], []⟩, ⟨("is_integer", none), "is_integer", "is_integer", C8.fnArgs (top 8), C8.fnBody (top 8), C8.fnScope (top 8), [], []⟩, ⟨("is_fraction", none), "is_fraction", "is_fraction", C8.fnArgs (top 11), C8.fnBody (top 11), C8.fnScope (top 11), [], []⟩, ⟨("parse_fraction", none), "parse_fraction", "parse_fraction", C8.fnArgs (top 22), C8.fnBody (top 22), C8.fnScope (top 22), [], []⟩, ⟨("divide", none), "divide", "divide", C8.fnArgs (top 16), C8.fnBody (top 16), C8.fnScope (top 16), [], []⟩, ⟨("_law_two_right", none), "_law_two_right", "_law_two_right", C8.fnArgs (top 31), C8.fnBody (top 31), C8.fnScope (top 31), [], []⟩, ⟨("law", none), "law", "law", C8.fnArgs (top 32), C8.fnBody (top 32), C8.fnScope (top 32), [], []⟩]
def fn : List He.DefD := fn0
section
variable {P : Program} {w : World} {K : PySem.W.Frag} {mg : Str → Option Value} {base : Heap}
theorem s_law_supply : C8.scC ["_law_script", "_law_index", "_law_number", "_law_numbers"] ["_law_script"] (C8.fnScope (top 25)) = true := by decide +kernel
theorem m_law_supply : matSL (matS T0.fresh T0.dflt ["_law_script", "_law_index", "_law_number", "_law_numbers"] (C8.fnScope (top 25)) 40) c_law_supply (C8.fnBody (top 25)) = true := by decide +kernel
theorem k_law_supply (h : TabOk P w K mg base (xi1 K) 1 T0) (c : SaysV (facts names) fn gs K) (tp : Top K mg names (gOf gs) (xOf gs)) : TabOk P w K mg base (xi1 K) 2 T1 :=
  h.step (d := d_law_supply) (ps := ["_law_script"]) (N := ["_law_script", "_law_index", "_law_number", "_law_numbers"]) tp (by decide) (fun_of c.d 0 rfl) (by decide +kernel) s_law_supply rfl rfl (by decide) m_law_supply (binds_none rfl fun _ _ _ _ _ _ us hl => match us, hl with | [_], _ => rfl)
theorem s_law_blended : C8.scC ["_law_number", "_law_index", "_law_found", "_law_modulus", "_law_turn"] ["_law_number", "_law_index"] (C8.fnScope (top 24)) = true := by decide +kernel
theorem m_law_blended : matSL (matS T1.fresh T1.dflt ["_law_number", "_law_index", "_law_found", "_law_modulus", "_law_turn"] (C8.fnScope (top 24)) 40) c_law_blended (C8.fnBody (top 24)) = true := by decide +kernel
theorem k_law_blended (h : TabOk P w K mg base (xi1 K) 2 T1) (c : SaysV (facts names) fn gs K) (tp : Top K mg names (gOf gs) (xOf gs)) : TabOk P w K mg base (xi1 K) 3 T2 :=
  h.step (d := d_law_blended) (ps := ["_law_number", "_law_index"]) (N := ["_law_number", "_law_index", "_law_found", "_law_modulus", "_law_turn"]) tp (by decide) (fun_of c.d 1 rfl) (by decide +kernel) s_law_blended rfl rfl (by decide) m_law_blended (binds_none rfl fun _ _ _ _ _ _ us hl => match us, hl with | [_, _], _ => rfl)
theorem s_law_below_2 : C8.scC ["_law_supply_here", "_law_size", "_law_found", "_law_index", "_law_number", "_law_numbers"] ["_law_supply_here", "_law_size"] (C8.fnScope (top 26)) = true := by decide +kernel
theorem m_law_below_2 : matSL (matS T2.fresh T2.dflt ["_law_supply_here", "_law_size", "_law_found", "_law_index", "_law_number", "_law_numbers"] (C8.fnScope (top 26)) 40) c_law_below_2 (C8.fnBody (top 26)) = true := by decide +kernel
theorem k_law_below_2 (h : TabOk P w K mg base (xi1 K) 3 T2) (c : SaysV (facts names) fn gs K) (tp : Top K mg names (gOf gs) (xOf gs)) : TabOk P w K mg base (xi1 K) 4 T3 :=
  h.step (d := d_law_below_2) (ps := ["_law_supply_here", "_law_size"]) (N := ["_law_supply_here", "_law_size", "_law_found", "_law_index", "_law_number", "_law_numbers"]) tp (by decide) (fun_of c.d 2 rfl) (by decide +kernel) s_law_below_2 rfl rfl (by decide) m_law_below_2 (binds_none rfl fun _ _ _ _ _ _ us hl => match us, hl with | [_, _], _ => rfl)
theorem s_law_one_of : C8.scC ["_law_supply_here", "_law_options"] ["_law_supply_here", "_law_options"] (C8.fnScope (top 27)) = true := by decide +kernel
theorem m_law_one_of : matSL (matS T3.fresh T3.dflt ["_law_supply_here", "_law_options"] (C8.fnScope (top 27)) 40) c_law_one_of (C8.fnBody (top 27)) = true := by decide +kernel
theorem k_law_one_of (h : TabOk P w K mg base (xi1 K) 4 T3) (c : SaysV (facts names) fn gs K) (tp : Top K mg names (gOf gs) (xOf gs)) : TabOk P w K mg base (xi1 K) 5 T4 :=
  h.step (d := d_law_one_of) (ps := ["_law_supply_here", "_law_options"]) (N := ["_law_supply_here", "_law_options"]) tp (by decide) (fun_of c.d 3 rfl) (by decide +kernel) s_law_one_of rfl rfl (by decide) m_law_one_of (binds_none rfl fun _ _ _ _ _ _ us hl => match us, hl with | [_, _], _ => rfl)
theorem s_law_lowest : C8.scC ["_law_top", "_law_bottom", "_law_one", "_law_other", "_law_sign"] ["_law_top", "_law_bottom"] (C8.fnScope (top 28)) = true := by decide +kernel
theorem m_law_lowest : matSL (matS T4.fresh T4.dflt ["_law_top", "_law_bottom", "_law_one", "_law_other", "_law_sign"] (C8.fnScope (top 28)) 40) c_law_lowest (C8.fnBody (top 28)) = true := by decide +kernel
theorem k_law_lowest (h : TabOk P w K mg base (xi1 K) 5 T4) (c : SaysV (facts names) fn gs K) (tp : Top K mg names (gOf gs) (xOf gs)) : TabOk P w K mg base (xi1 K) 6 T5 :=
  h.step (d := d_law_lowest) (ps := ["_law_top", "_law_bottom"]) (N := ["_law_top", "_law_bottom", "_law_one", "_law_other", "_law_sign"]) tp (by decide) (fun_of c.d 4 rfl) (by decide +kernel) s_law_lowest rfl rfl (by decide) m_law_lowest (binds_none rfl fun _ _ _ _ _ _ us hl => match us, hl with | [_, _], _ => rfl)
theorem s_law_fraction : C8.scC ["_law_supply_here", "_law_size", "_law_top"] ["_law_supply_here", "_law_size"] (C8.fnScope (top 29)) = true := by decide +kernel
theorem m_law_fraction : matSL (matS T5.fresh T5.dflt ["_law_supply_here", "_law_size", "_law_top"] (C8.fnScope (top 29)) 40) c_law_fraction (C8.fnBody (top 29)) = true := by decide +kernel
theorem k_law_fraction (h : TabOk P w K mg base (xi1 K) 6 T5) (c : SaysV (facts names) fn gs K) (tp : Top K mg names (gOf gs) (xOf gs)) : TabOk P w K mg base (xi1 K) 7 T6 :=
  h.step (d := d_law_fraction) (ps := ["_law_supply_here", "_law_size"]) (N := ["_law_supply_here", "_law_size", "_law_top"]) tp (by decide) (fun_of c.d 5 rfl) (by decide +kernel) s_law_fraction rfl rfl (by decide) m_law_fraction (binds_none rfl fun _ _ _ _ _ _ us hl => match us, hl with | [_, _], _ => rfl)
theorem s_common_divisor : C8.scC ["first", "second"] ["first", "second"] (C8.fnScope (top 9)) = true := by decide +kernel
theorem m_common_divisor : matSL (matS T6.fresh T6.dflt ["first", "second"] (C8.fnScope (top 9)) 40) c_common_divisor (C8.fnBody (top 9)) = true := by decide +kernel
theorem k_common_divisor (h : TabOk P w K mg base (xi1 K) 7 T6) (c : SaysV (facts names) fn gs K) (tp : Top K mg names (gOf gs) (xOf gs)) : TabOk P w K mg base (xi1 K) 8 T7 :=
  h.step (d := d_common_divisor) (ps := ["first", "second"]) (N := ["first", "second"]) tp (by decide) (fun_of c.d 6 rfl) (by decide +kernel) s_common_divisor rfl rfl (by decide) m_common_divisor (binds_none rfl fun _ _ _ _ _ _ us hl => match us, hl with | [_, _], _ => rfl)
theorem s_fraction : C8.scC ["numerator", "denominator", "divisor", "sign"] ["numerator", "denominator"] (C8.fnScope (top 10)) = true := by decide +kernel
theorem m_fraction : matSL (matS T7.fresh T7.dflt ["numerator", "denominator", "divisor", "sign"] (C8.fnScope (top 10)) 40) c_fraction (C8.fnBody (top 10)) = true := by decide +kernel
theorem k_fraction (h : TabOk P w K mg base (xi1 K) 8 T7) (c : SaysV (facts names) fn gs K) (tp : Top K mg names (gOf gs) (xOf gs)) : TabOk P w K mg base (xi1 K) 9 T8 :=
  h.step (d := d_fraction) (ps := ["numerator", "denominator"]) (N := ["numerator", "denominator", "divisor", "sign"]) tp (by decide) (fun_of c.d 7 rfl) (by decide +kernel) s_fraction rfl rfl (by decide) m_fraction (binds_one (m := 1) rfl rfl (fun _ _ _ _ _ _ _ us its hl h1 => match us, hl, its, h1 with | [_], _, [_], _ => ⟨_, rfl, rfl⟩) (fun _ _ _ _ _ _ _ us its hl h1 => match us, hl, its, h1 with | [_, _], _, [_], _ => ⟨_, rfl, rfl⟩))
theorem s_add : C8.scC ["first", "second"] ["first", "second"] (C8.fnScope (top 12)) = true := by decide +kernel
theorem m_add : matSL (matS T8.fresh T8.dflt ["first", "second"] (C8.fnScope (top 12)) 40) c_add (C8.fnBody (top 12)) = true := by decide +kernel
theorem k_add (h : TabOk P w K mg base (xi1 K) 9 T8) (c : SaysV (facts names) fn gs K) (tp : Top K mg names (gOf gs) (xOf gs)) : TabOk P w K mg base (xi1 K) 10 T9 :=
  h.step (d := d_add) (ps := ["first", "second"]) (N := ["first", "second"]) tp (by decide) (fun_of c.d 8 rfl) (by decide +kernel) s_add rfl rfl (by decide) m_add (binds_none rfl fun _ _ _ _ _ _ us hl => match us, hl with | [_, _], _ => rfl)
theorem s_multiply : C8.scC ["first", "second"] ["first", "second"] (C8.fnScope (top 15)) = true := by decide +kernel
theorem m_multiply : matSL (matS T9.fresh T9.dflt ["first", "second"] (C8.fnScope (top 15)) 40) c_multiply (C8.fnBody (top 15)) = true := by decide +kernel
theorem k_multiply (h : TabOk P w K mg base (xi1 K) 10 T9) (c : SaysV (facts names) fn gs K) (tp : Top K mg names (gOf gs) (xOf gs)) : TabOk P w K mg base (xi1 K) 11 T10 :=
  h.step (d := d_multiply) (ps := ["first", "second"]) (N := ["first", "second"]) tp (by decide) (fun_of c.d 9 rfl) (by decide +kernel) s_multiply rfl rfl (by decide) m_multiply (binds_none rfl fun _ _ _ _ _ _ us hl => match us, hl with | [_, _], _ => rfl)
theorem s_total_2 : C8.scC ["numbers", "found", "number"] ["numbers"] (C8.fnScope (top 19)) = true := by decide +kernel
theorem m_total_2 : matSL (matS T10.fresh T10.dflt ["numbers", "found", "number"] (C8.fnScope (top 19)) 40) c_total_2 (C8.fnBody (top 19)) = true := by decide +kernel
theorem k_total_2 (h : TabOk P w K mg base (xi1 K) 11 T10) (c : SaysV (facts names) fn gs K) (tp : Top K mg names (gOf gs) (xOf gs)) : TabOk P w K mg base (xi1 K) 12 T11 :=
  h.step (d := d_total_2) (ps := ["numbers"]) (N := ["numbers", "found", "number"]) tp (by decide) (fun_of c.d 10 rfl) (by decide +kernel) s_total_2 rfl rfl (by decide) m_total_2 (binds_none rfl fun _ _ _ _ _ _ us hl => match us, hl with | [_], _ => rfl)
theorem s_compare : C8.scC ["first", "second", "left", "right"] ["first", "second"] (C8.fnScope (top 17)) = true := by decide +kernel
theorem m_compare : matSL (matS T11.fresh T11.dflt ["first", "second", "left", "right"] (C8.fnScope (top 17)) 40) c_compare (C8.fnBody (top 17)) = true := by decide +kernel
theorem k_compare (h : TabOk P w K mg base (xi1 K) 12 T11) (c : SaysV (facts names) fn gs K) (tp : Top K mg names (gOf gs) (xOf gs)) : TabOk P w K mg base (xi1 K) 13 T12 :=
  h.step (d := d_compare) (ps := ["first", "second"]) (N := ["first", "second", "left", "right"]) tp (by decide) (fun_of c.d 11 rfl) (by decide +kernel) s_compare rfl rfl (by decide) m_compare (binds_none rfl fun _ _ _ _ _ _ us hl => match us, hl with | [_, _], _ => rfl)
theorem s_law_three_right : C8.scC ["_law_a", "_law_b", "_law_c"] ["_law_a", "_law_b", "_law_c"] (C8.fnScope (top 30)) = true := by decide +kernel
theorem m_law_three_right : matSL (matS T12.fresh T12.dflt ["_law_a", "_law_b", "_law_c"] (C8.fnScope (top 30)) 40) c_law_three_right (C8.fnBody (top 30)) = true := by decide +kernel
theorem k_law_three_right (h : TabOk P w K mg base (xi1 K) 13 T12) (c : SaysV (facts names) fn gs K) (tp : Top K mg names (gOf gs) (xOf gs)) : TabOk P w K mg base (xi1 K) 14 T13 :=
  h.step (d := d_law_three_right) (ps := ["_law_a", "_law_b", "_law_c"]) (N := ["_law_a", "_law_b", "_law_c"]) tp (by decide) (fun_of c.d 12 rfl) (by decide +kernel) s_law_three_right rfl rfl (by decide) m_law_three_right (binds_none rfl fun _ _ _ _ _ _ us hl => match us, hl with | [_, _, _], _ => rfl)
theorem s_negative : C8.scC ["number"] ["number"] (C8.fnScope (top 13)) = true := by decide +kernel
theorem m_negative : matSL (matS T13.fresh T13.dflt ["number"] (C8.fnScope (top 13)) 40) c_negative (C8.fnBody (top 13)) = true := by decide +kernel
theorem k_negative (h : TabOk P w K mg base (xi1 K) 14 T13) (c : SaysV (facts names) fn gs K) (tp : Top K mg names (gOf gs) (xOf gs)) : TabOk P w K mg base (xi1 K) 15 T14 :=
  h.step (d := d_negative) (ps := ["number"]) (N := ["number"]) tp (by decide) (fun_of c.d 13 rfl) (by decide +kernel) s_negative rfl rfl (by decide) m_negative (binds_none rfl fun _ _ _ _ _ _ us hl => match us, hl with | [_], _ => rfl)
theorem s_subtract : C8.scC ["first", "second"] ["first", "second"] (C8.fnScope (top 14)) = true := by decide +kernel
theorem m_subtract : matSL (matS T14.fresh T14.dflt ["first", "second"] (C8.fnScope (top 14)) 40) c_subtract (C8.fnBody (top 14)) = true := by decide +kernel
theorem k_subtract (h : TabOk P w K mg base (xi1 K) 15 T14) (c : SaysV (facts names) fn gs K) (tp : Top K mg names (gOf gs) (xOf gs)) : TabOk P w K mg base (xi1 K) 16 T15 :=
  h.step (d := d_subtract) (ps := ["first", "second"]) (N := ["first", "second"]) tp (by decide) (fun_of c.d 14 rfl) (by decide +kernel) s_subtract rfl rfl (by decide) m_subtract (binds_none rfl fun _ _ _ _ _ _ us hl => match us, hl with | [_, _], _ => rfl)
theorem s_absolute : C8.scC ["number"] ["number"] (C8.fnScope (top 18)) = true := by decide +kernel
theorem m_absolute : matSL (matS T15.fresh T15.dflt ["number"] (C8.fnScope (top 18)) 40) c_absolute (C8.fnBody (top 18)) = true := by decide +kernel
theorem k_absolute (h : TabOk P w K mg base (xi1 K) 16 T15) (c : SaysV (facts names) fn gs K) (tp : Top K mg names (gOf gs) (xOf gs)) : TabOk P w K mg base (xi1 K) 17 T16 :=
  h.step (d := d_absolute) (ps := ["number"]) (N := ["number"]) tp (by decide) (fun_of c.d 15 rfl) (by decide +kernel) s_absolute rfl rfl (by decide) m_absolute (binds_none rfl fun _ _ _ _ _ _ us hl => match us, hl with | [_], _ => rfl)
theorem s_format_fraction : C8.scC ["number"] ["number"] (C8.fnScope (top 20)) = true := by decide +kernel
theorem m_format_fraction : matSL (matS T16.fresh T16.dflt ["number"] (C8.fnScope (top 20)) 40) c_format_fraction (C8.fnBody (top 20)) = true := by decide +kernel
theorem k_format_fraction (h : TabOk P w K mg base (xi1 K) 17 T16) (c : SaysV (facts names) fn gs K) (tp : Top K mg names (gOf gs) (xOf gs)) : TabOk P w K mg base (xi1 K) 18 T17 :=
  h.step (d := d_format_fraction) (ps := ["number"]) (N := ["number"]) tp (by decide) (fun_of c.d 16 rfl) (by decide +kernel) s_format_fraction rfl rfl (by decide) m_format_fraction (binds_none rfl fun _ _ _ _ _ _ us hl => match us, hl with | [_], _ => rfl)
theorem s_parse_integer : C8.scC ["text", "sign"] ["text"] (C8.fnScope (top 21)) = true := by decide +kernel
theorem m_parse_integer : matSL (matS T17.fresh T17.dflt ["text", "sign"] (C8.fnScope (top 21)) 40) c_parse_integer (C8.fnBody (top 21)) = true := by decide +kernel
theorem k_parse_integer (h : TabOk P w K mg base (xi1 K) 18 T17) (c : SaysV (facts names) fn gs K) (tp : Top K mg names (gOf gs) (xOf gs)) : TabOk P w K mg base (xi1 K) 19 T18 :=
  h.step (d := d_parse_integer) (ps := ["text"]) (N := ["text", "sign"]) tp (by decide) (fun_of c.d 17 rfl) (by decide +kernel) s_parse_integer rfl rfl (by decide) m_parse_integer (binds_none rfl fun _ _ _ _ _ _ us hl => match us, hl with | [_], _ => rfl)
theorem s_is_integer : C8.scC ["thing"] ["thing"] (C8.fnScope (top 8)) = true := by decide +kernel
theorem m_is_integer : matSL (matS T18.fresh T18.dflt ["thing"] (C8.fnScope (top 8)) 40) c_is_integer (C8.fnBody (top 8)) = true := by decide +kernel
theorem k_is_integer (h : TabOk P w K mg base (xi1 K) 19 T18) (c : SaysV (facts names) fn gs K) (tp : Top K mg names (gOf gs) (xOf gs)) : TabOk P w K mg base (xi1 K) 20 T19 :=
  h.step (d := d_is_integer) (ps := ["thing"]) (N := ["thing"]) tp (by decide) (fun_of c.d 18 rfl) (by decide +kernel) s_is_integer rfl rfl (by decide) m_is_integer (binds_none rfl fun _ _ _ _ _ _ us hl => match us, hl with | [_], _ => rfl)
theorem s_is_fraction : C8.scC ["thing", "part"] ["thing"] (C8.fnScope (top 11)) = true := by decide +kernel
theorem m_is_fraction : matSL (matS T19.fresh T19.dflt ["thing", "part"] (C8.fnScope (top 11)) 40) c_is_fraction (C8.fnBody (top 11)) = true := by decide +kernel
theorem k_is_fraction (h : TabOk P w K mg base (xi1 K) 20 T19) (c : SaysV (facts names) fn gs K) (tp : Top K mg names (gOf gs) (xOf gs)) : TabOk P w K mg base (xi1 K) 21 T20 :=
  h.step (d := d_is_fraction) (ps := ["thing"]) (N := ["thing", "part"]) tp (by decide) (fun_of c.d 19 rfl) (by decide +kernel) s_is_fraction rfl rfl (by decide) m_is_fraction (binds_none rfl fun _ _ _ _ _ _ us hl => match us, hl with | [_], _ => rfl)
theorem s_parse_fraction : C8.scC ["text", "lower", "number", "rest", "sign", "slash", "upper"] ["text"] (C8.fnScope (top 22)) = true := by decide +kernel
theorem m_parse_fraction : matSL (matS T20.fresh T20.dflt ["text", "lower", "number", "rest", "sign", "slash", "upper"] (C8.fnScope (top 22)) 40) c_parse_fraction (C8.fnBody (top 22)) = true := by decide +kernel
theorem k_parse_fraction (h : TabOk P w K mg base (xi1 K) 21 T20) (c : SaysV (facts names) fn gs K) (tp : Top K mg names (gOf gs) (xOf gs)) : TabOk P w K mg base (xi1 K) 22 T21 :=
  h.step (d := d_parse_fraction) (ps := ["text"]) (N := ["text", "lower", "number", "rest", "sign", "slash", "upper"]) tp (by decide) (fun_of c.d 20 rfl) (by decide +kernel) s_parse_fraction rfl rfl (by decide) m_parse_fraction (binds_none rfl fun _ _ _ _ _ _ us hl => match us, hl with | [_], _ => rfl)
theorem s_divide : C8.scC ["first", "second"] ["first", "second"] (C8.fnScope (top 16)) = true := by decide +kernel
theorem m_divide : matSL (matS T21.fresh T21.dflt ["first", "second"] (C8.fnScope (top 16)) 40) c_divide (C8.fnBody (top 16)) = true := by decide +kernel
theorem k_divide (h : TabOk P w K mg base (xi1 K) 22 T21) (c : SaysV (facts names) fn gs K) (tp : Top K mg names (gOf gs) (xOf gs)) : TabOk P w K mg base (xi1 K) 23 T22 :=
  h.step (d := d_divide) (ps := ["first", "second"]) (N := ["first", "second"]) tp (by decide) (fun_of c.d 21 rfl) (by decide +kernel) s_divide rfl rfl (by decide) m_divide (binds_none rfl fun _ _ _ _ _ _ us hl => match us, hl with | [_, _], _ => rfl)
theorem s_law_two_right : C8.scC ["_law_a", "_law_b", "_law_found", "_law_one", "_law_text", "_law_texts"] ["_law_a", "_law_b"] (C8.fnScope (top 31)) = true := by decide +kernel
theorem m_law_two_right : matSL (matS T22.fresh T22.dflt ["_law_a", "_law_b", "_law_found", "_law_one", "_law_text", "_law_texts"] (C8.fnScope (top 31)) 40) c_law_two_right (C8.fnBody (top 31)) = true := by decide +kernel
theorem k_law_two_right (h : TabOk P w K mg base (xi1 K) 23 T22) (c : SaysV (facts names) fn gs K) (tp : Top K mg names (gOf gs) (xOf gs)) : TabOk P w K mg base (xi1 K) 24 T23 :=
  h.step (d := d_law_two_right) (ps := ["_law_a", "_law_b"]) (N := ["_law_a", "_law_b", "_law_found", "_law_one", "_law_text", "_law_texts"]) tp (by decide) (fun_of c.d 22 rfl) (by decide +kernel) s_law_two_right rfl rfl (by decide) m_law_two_right (binds_none rfl fun _ _ _ _ _ _ us hl => match us, hl with | [_, _], _ => rfl)
theorem s_law_04 : C8.scC ["_law_script", "_law_a", "_law_b", "_law_c", "_law_k", "_law_one", "_law_other", "_law_size", "_law_supply_here", "_law_third", "_law_turn"] ["_law_script"] (C8.fnScope (top 32)) = true := by decide +kernel
theorem m_law_04 : matSL (matS T23.fresh T23.dflt ["_law_script", "_law_a", "_law_b", "_law_c", "_law_k", "_law_one", "_law_other", "_law_size", "_law_supply_here", "_law_third", "_law_turn"] (C8.fnScope (top 32)) 40) c_law_04 (C8.fnBody (top 32)) = true := by decide +kernel
theorem tab (c : SaysV (facts names) fn gs K) (tp : Top K mg names (gOf gs) (xOf gs)) : TabOk P w K mg base (xi1 K) 24 T23 := by
  have h0 : TabOk P w K mg base (xi1 K) 1 T0 := TabOk.nil _ _ _
  have h1 := k_law_supply h0 c tp
  have h2 := k_law_blended h1 c tp
  have h3 := k_law_below_2 h2 c tp
  have h4 := k_law_one_of h3 c tp
  have h5 := k_law_lowest h4 c tp
  have h6 := k_law_fraction h5 c tp
  have h7 := k_common_divisor h6 c tp
  have h8 := k_fraction h7 c tp
  have h9 := k_add h8 c tp
  have h10 := k_multiply h9 c tp
  have h11 := k_total_2 h10 c tp
  have h12 := k_compare h11 c tp
  have h13 := k_law_three_right h12 c tp
  have h14 := k_negative h13 c tp
  have h15 := k_subtract h14 c tp
  have h16 := k_absolute h15 c tp
  have h17 := k_format_fraction h16 c tp
  have h18 := k_parse_integer h17 c tp
  have h19 := k_is_integer h18 c tp
  have h20 := k_is_fraction h19 c tp
  have h21 := k_parse_fraction h20 c tp
  have h22 := k_divide h21 c tp
  have h23 := k_law_two_right h22 c tp
  exact h23
end
theorem z_law_supply : P1 T1 "_law_supply" true f_law_supply := cp_law_supply (T := T0) 
theorem z_law_blended : P2 T2 "_law_blended" false f_law_blended := cp_law_blended (T := T1) 
theorem z_law_below_2 : I2 T3 "_law_below" false f_law_below_2 := cp_law_below_2 (T := T2) z_law_blended
theorem z_law_one_of : I2 T4 "_law_one_of" false f_law_one_of := cp_law_one_of (T := T3) z_law_below_2
theorem z_law_lowest : P2 T5 "_law_lowest" false f_law_lowest := cp_law_lowest (T := T4) 
theorem z_law_fraction : I2 T6 "_law_fraction" false f_law_fraction := cp_law_fraction (T := T5) (I2.upL (ds := [d_law_one_of, d_law_lowest]) z_law_below_2 (by decide +kernel)) z_law_lowest (I2.upL (ds := [d_law_lowest]) z_law_one_of (by decide +kernel))
theorem z_common_divisor : P2 T7 "common_divisor" false f_common_divisor := cp_common_divisor (T := T6) 
theorem z_fraction : P2 T8 "fraction" false f_fraction := cp_fraction (T := T7) z_common_divisor
theorem z_add : P2 T9 "add" false f_add := cp_add (T := T8) z_fraction
theorem z_multiply : P2 T10 "multiply" false f_multiply := cp_multiply (T := T9) (P2.upL (ds := [d_add]) z_fraction (by decide +kernel))
theorem z_total_2 : P1 T11 "total" false f_total_2 := cp_total_2 (T := T10) (P2.upL (ds := [d_multiply]) z_add (by decide +kernel)) rfl
theorem z_compare : P2 T12 "compare" false f_compare := cp_compare (T := T11) 
theorem z_law_three_right : P3 T13 "_law_three_right" false f_law_three_right := cp_law_three_right (T := T12) (P2.upL (ds := [d_multiply, d_total_2, d_compare]) z_add (by decide +kernel)) (P2.upL (ds := [d_total_2, d_compare]) z_multiply (by decide +kernel)) (P1.upL (ds := [d_compare]) z_total_2 (by decide +kernel)) z_compare
theorem z_negative : P1 T14 "negative" false f_negative := cp_negative (T := T13) 
theorem z_subtract : P2 T15 "subtract" false f_subtract := cp_subtract (T := T14) (P2.upL (ds := [d_multiply, d_total_2, d_compare, d_law_three_right, d_negative]) z_add (by decide +kernel)) z_negative
theorem z_absolute : P1 T16 "absolute" false f_absolute := cp_absolute (T := T15) 
theorem z_format_fraction : P1 T17 "format_fraction" false f_format_fraction := cp_format_fraction (T := T16) 
theorem z_parse_integer : P1 T18 "parse_integer" false f_parse_integer := cp_parse_integer (T := T17) rfl rfl
theorem z_is_integer : P1 T19 "is_integer" false f_is_integer := cp_is_integer (T := T18) 
theorem z_is_fraction : P1 T20 "is_fraction" false f_is_fraction := cp_is_fraction (T := T19) z_is_integer (P2.upL (ds := [d_fraction, d_add, d_multiply, d_total_2, d_compare, d_law_three_right, d_negative, d_subtract, d_absolute, d_format_fraction, d_parse_integer, d_is_integer]) z_common_divisor (by decide +kernel))
theorem z_parse_fraction : P1 T21 "parse_fraction" false f_parse_fraction := cp_parse_fraction (T := T20) (P1.upL (ds := [d_is_integer, d_is_fraction]) z_parse_integer (by decide +kernel)) z_is_fraction (P1.upL (ds := [d_parse_integer, d_is_integer, d_is_fraction]) z_format_fraction (by decide +kernel))
theorem z_divide : P2 T22 "divide" false f_divide := cp_divide (T := T21) (P2.upL (ds := [d_add, d_multiply, d_total_2, d_compare, d_law_three_right, d_negative, d_subtract, d_absolute, d_format_fraction, d_parse_integer, d_is_integer, d_is_fraction, d_parse_fraction]) z_fraction (by decide +kernel))
theorem z_law_two_right : P2 T23 "_law_two_right" false f_law_two_right := cp_law_two_right (T := T22) (P2.upL (ds := [d_multiply, d_total_2, d_compare, d_law_three_right, d_negative, d_subtract, d_absolute, d_format_fraction, d_parse_integer, d_is_integer, d_is_fraction, d_parse_fraction, d_divide]) z_add (by decide +kernel)) (P2.upL (ds := [d_total_2, d_compare, d_law_three_right, d_negative, d_subtract, d_absolute, d_format_fraction, d_parse_integer, d_is_integer, d_is_fraction, d_parse_fraction, d_divide]) z_multiply (by decide +kernel)) (P2.upL (ds := [d_absolute, d_format_fraction, d_parse_integer, d_is_integer, d_is_fraction, d_parse_fraction, d_divide]) z_subtract (by decide +kernel)) (P1.upL (ds := [d_subtract, d_absolute, d_format_fraction, d_parse_integer, d_is_integer, d_is_fraction, d_parse_fraction, d_divide]) z_negative (by decide +kernel)) (P2.upL (ds := [d_law_three_right, d_negative, d_subtract, d_absolute, d_format_fraction, d_parse_integer, d_is_integer, d_is_fraction, d_parse_fraction, d_divide]) z_compare (by decide +kernel)) z_divide (P1.upL (ds := [d_format_fraction, d_parse_integer, d_is_integer, d_is_fraction, d_parse_fraction, d_divide]) z_absolute (by decide +kernel)) (P1.upL (ds := [d_parse_integer, d_is_integer, d_is_fraction, d_parse_fraction, d_divide]) z_format_fraction (by decide +kernel)) (P1.upL (ds := [d_divide]) z_parse_fraction (by decide +kernel)) (P1.upL (ds := [d_parse_fraction, d_divide]) z_is_fraction (by decide +kernel))
theorem fin (ns : List Int) (h : f_law_04 (.scr ns) = .ok (.bl true)) : runFd T23 big d_law_04 [.val (.scr ns)] = .ok (.bl true, none) := by
  rw [q_law_04 (T := T23) (P1.upL (ds := [d_law_blended, d_law_below_2, d_law_one_of, d_law_lowest, d_law_fraction, d_common_divisor, d_fraction, d_add, d_multiply, d_total_2, d_compare, d_law_three_right, d_negative, d_subtract, d_absolute, d_format_fraction, d_parse_integer, d_is_integer, d_is_fraction, d_parse_fraction, d_divide, d_law_two_right]) z_law_supply (by decide +kernel)) (I2.upL (ds := [d_law_lowest, d_law_fraction, d_common_divisor, d_fraction, d_add, d_multiply, d_total_2, d_compare, d_law_three_right, d_negative, d_subtract, d_absolute, d_format_fraction, d_parse_integer, d_is_integer, d_is_fraction, d_parse_fraction, d_divide, d_law_two_right]) z_law_one_of (by decide +kernel)) (I2.upL (ds := [d_common_divisor, d_fraction, d_add, d_multiply, d_total_2, d_compare, d_law_three_right, d_negative, d_subtract, d_absolute, d_format_fraction, d_parse_integer, d_is_integer, d_is_fraction, d_parse_fraction, d_divide, d_law_two_right]) z_law_fraction (by decide +kernel)) (P3.upL (ds := [d_negative, d_subtract, d_absolute, d_format_fraction, d_parse_integer, d_is_integer, d_is_fraction, d_parse_fraction, d_divide, d_law_two_right]) z_law_three_right (by decide +kernel)) z_law_two_right (P2.upL (ds := [d_multiply, d_total_2, d_compare, d_law_three_right, d_negative, d_subtract, d_absolute, d_format_fraction, d_parse_integer, d_is_integer, d_is_fraction, d_parse_fraction, d_divide, d_law_two_right]) z_add (by decide +kernel)) (P2.upL (ds := [d_total_2, d_compare, d_law_three_right, d_negative, d_subtract, d_absolute, d_format_fraction, d_parse_integer, d_is_integer, d_is_fraction, d_parse_fraction, d_divide, d_law_two_right]) z_multiply (by decide +kernel)) (.scr ns), h]
  rfl
def loose0 : List Str := ["ToLimitError", "InvalidNumber", "ZeroDivisor", "ZERO", "DIGITS", "MAX_DIGITS", "is_integer", "common_divisor", "fraction", "is_fraction", "add", "negative", "subtract", "multiply", "divide", "compare", "absolute", "total", "format_fraction", "parse_integer", "parse_fraction", "_law_blended", "_law_supply", "_law_below", "_law_one_of", "_law_lowest", "_law_fraction", "_law_three_right", "_law_two_right"]
def loose : List Str := loose0
abbrev hk : PySem.W.Hook := hookV 5 (facts names) fn gs
def ob (s : PySem.W.SharedT) : AlV := obsVG 5 (facts names) fn gs (HandSHeadRun.getT s)
theorem ob_eq (s : PySem.W.SharedT) : ob s = hk.obs s.abs := obsVG_eq (HandSHeadRun.getT_eq s)
theorem run (w : World) : HandSHeadRun.RunEq R (PySem.W.view R.prog [32]) hk ob 6000 loose w := by
  intro os
  kernel_rfl
end K04
open PySem PySem.W PySem.Calls PyProof.Rows
theorem K04.closes (run_ : ∀ ns : List Int, ns.length ≤ 63 → (∀ z ∈ ns, Builtin.Int.intBits z ≤ 1048576) → Vm.f_law_04 (.scr ns) = .ok (.bl true)) : PySem.Challenge.rw_tolimit_k04_whole_field_of_fractions.Holds := by
  w_on; o_law
  refine HandSHeadRun.head_any (r := OpenLaw.row PySem.Challenge.rw_tolimit_k04_whole_field_of_fractions) (q := view (OpenLaw.row PySem.Challenge.rw_tolimit_k04_whole_field_of_fractions).prog [32]) (H := K04.hk) (ob := K04.ob) (M := 6000) (loose := K04.loose) (d := HandSHeadRun.topDef (OpenLaw.row PySem.Challenge.rw_tolimit_k04_whole_field_of_fractions).prog 32) (kwd := []) K04.ob_eq
    (by kernel_rfl) (fun s => by kernel_rfl) K04.run (by kernel_rfl) (by kernel_rfl) (by kernel_rfl) (by rfl) (by first | assumption | decide +kernel) (by decide +kernel) ⟨rfl, rfl, rfl, rfl, rfl, by decide +kernel⟩ ?hw ?hc
  case hw => w_witness2
  case hc =>
    refine Vm.walk_end (l := PySem.Challenge.rw_tolimit_k04_whole_field_of_fractions) (n := 63) (k := 25) (x := "_law_script") rfl (by decide) (by kernel_rfl) ⟨rfl, by decide, by decide⟩ ?F fun ns h1 h2 => K04.fin ns (run_ ns h1 h2)
    intro w mg fa h Y G hmg0
    obtain ⟨K, KX, c⟩ := Y
    have tp := Vm.top_of KX G c
    have hmg : mg ("law" : PySem.Str) = some (.ref fa) := by
      have e : (HandSHeadRun.topDef (OpenLaw.row PySem.Challenge.rw_tolimit_k04_whole_field_of_fractions).prog 32).name = ("law" : PySem.Str) := by kernel_rfl
      rw [← e]
      exact hmg0
    obtain ⟨fd, Fu⟩ := Vm.fun_of c.d 23 (x := "law") rfl
    have e := hmg.symm.trans (tp.nm "law" (by decide +kernel))
    cases e
    have b := L2.FunD.bindsA (ps := ["_law_script"]) Fu fun _ _ _ _ _ _ us hl => match us, hl with | [_], _ => rfl
    exact ⟨K, fd, KX, fun s v => b s [v] rfl, fun base _ _ => Vm.fnG_of (d := Vm.d_law_04) (N := ["_law_script", "_law_a", "_law_b", "_law_c", "_law_k", "_law_one", "_law_other", "_law_size", "_law_supply_here", "_law_third", "_law_turn"]) (K04.tab c tp) rfl tp.ex tp.gl tp.bl (by decide) Fu (C8.fnScope_by K04.s_law_04) rfl rfl K04.m_law_04 (by decide)⟩
end
section
set_option Elab.async false
set_option linter.all false
set_option maxRecDepth 100000
namespace Vm
open PySem
def Ht (k : Nat) (r : Rat) : Prop := Bd k r.num ∧ Bd k (r.den : Int)
theorem Ht.mono {k m : Nat} {r : Rat} (h : Ht k r) (hk : k ≤ m) : Ht m r := ⟨h.1.mono hk, h.2.mono hk⟩
theorem Ht.divInt {k : Nat} {p q : Int} (hq : q ≠ 0) (h1 : Bd k p) (h2 : Bd k q) : Ht k (Rat.divInt p q) := by
  have g : 0 < p.gcd q := Int.gcd_pos_of_ne_zero_right p hq
  constructor
  · rw [fr_num]
    unfold Bd at *
    refine Nat.lt_of_le_of_lt (Int.natAbs_ediv_le_natAbs _ _) ?_
    rw [Int.natAbs_mul, Int.natAbs_sign_of_ne_zero hq, Nat.one_mul]
    exact h1
  · rw [Rat.den_divInt, if_neg hq]
    unfold Bd at *
    rw [Int.natAbs_natCast]
    exact Nat.lt_of_le_of_lt (Nat.div_le_self _ _) h2
theorem den_ne (r : Rat) : (r.den : Int) ≠ 0 := by have := r.den_nz; omega
theorem add_eq (a b : Rat) : a + b = Rat.divInt (a.num * b.den + b.num * a.den) ((a.den : Int) * b.den) := by
  rw [Rat.add_def', ← Rat.divInt_ofNat]
  simp
theorem mul_eq (a b : Rat) : a * b = Rat.divInt (a.num * b.num) ((a.den : Int) * b.den) := by
  rw [Rat.mul_def', ← Rat.divInt_ofNat]
  simp
theorem div_eq (a b : Rat) : a / b = Rat.divInt (a.num * b.den) ((a.den : Int) * b.num) := by
  rw [Rat.div_def]
  have e : b⁻¹ = Rat.divInt b.den b.num := Rat.inv_def b
  have e2 : a = Rat.divInt a.num a.den := (Rat.num_divInt_den a).symm
  rw [e]
  conv => lhs; rw [e2]
  rw [Rat.divInt_mul_divInt]
theorem Ht.add {k m : Nat} {a b : Rat} (h : Ht k a) (g : Ht m b) : Ht (k + m + 1) (a + b) := by
  rw [add_eq]
  refine .divInt (Int.mul_ne_zero (den_ne a) (den_ne b)) ?_ ((h.2.mul g.2).mono (by omega))
  have h1 := h.1.mul g.2
  have h2 := g.1.mul h.2
  rw [Nat.add_comm m k] at h2
  exact h1.add h2
theorem Ht.mul {k m : Nat} {a b : Rat} (h : Ht k a) (g : Ht m b) : Ht (k + m) (a * b) := by
  rw [mul_eq]
  exact .divInt (Int.mul_ne_zero (den_ne a) (den_ne b)) (h.1.mul g.1) (h.2.mul g.2)
theorem Ht.div {k m : Nat} {a b : Rat} (hb : b ≠ 0) (h : Ht k a) (g : Ht m b) : Ht (k + m) (a / b) := by
  rw [div_eq]
  exact .divInt (Int.mul_ne_zero (den_ne a) (fun e => hb (Rat.num_eq_zero.mp e))) (h.1.mul g.2) (h.2.mul g.1)
theorem Ht.neg {k : Nat} {a : Rat} (h : Ht k a) : Ht k (-a) := ⟨h.1.neg, h.2⟩
theorem fr_num_ok {k n : Nat} {r : Rat} (h : Ht k r) (hk : k ≤ 1919) : (fr r).num (n + 1) = true := by
  show ((D.int r.num).num n && ((D.int r.den).num n && D.numAll n [])) = true
  have e1 : (D.int r.num).num n = true := by
    have q : decide (r.num.natAbs.log2 < 1920) = true := decide_eq_true (Nat.lt_of_le_of_lt h.1.log (by omega))
    cases n <;> exact q
  have e2 : (D.int r.den).num n = true := by
    have q : decide ((r.den : Int).natAbs.log2 < 1920) = true := decide_eq_true (Nat.lt_of_le_of_lt h.2.log (by omega))
    cases n <;> exact q
  rw [e1, e2]
  rfl
theorem abs_if (i : Int) : (if i < 0 then -i else i) = (i.natAbs : Int) := by split <;> omega
end Vm
end
section
set_option Elab.async false
set_option linter.all false
set_option maxRecDepth 100000
namespace Vm
open PySem PySem.Spec L2
theorem Bd.of_lt {k : Nat} {i m : Int} (h0 : 0 ≤ i) (h : i < m) (hm : m ≤ 2 ^ k) : Bd k i := by
  unfold Bd
  have : ((2 ^ k : Nat) : Int) = (2 : Int) ^ k := by simp
  omega
theorem fmod_pos {a m : Int} (hm : 0 < m) : 0 ≤ a.fmod m ∧ a.fmod m < m := ⟨Int.fmod_nonneg_of_pos a hm, Int.fmod_lt_of_pos a hm⟩
theorem rng1_items {n : Int} (h : -(2 ^ 62) ≤ n ∧ n < 2 ^ 62) : items .rng1 [.int n] = some (rngD 0 n.toNat) := if_pos h
def Sup (m : Nat) (l : List D) : Prop := ∃ (ns : List Int) (ix cur : Int), l = [.lst (ns.map D.int), .int ix, .int cur] ∧ (∀ n ∈ ns, 0 ≤ n) ∧ ns.length ≤ 18 ∧ 0 ≤ ix ∧ ix ≤ m ∧ 0 ≤ cur
theorem Sup.mono {m k : Nat} {l : List D} (h : Sup m l) (hk : m ≤ k) : Sup k l := by
  obtain ⟨ns, ix, cur, e, h1, h2, h3, h4, h5⟩ := h
  exact ⟨ns, ix, cur, e, h1, h2, h3, by omega, h5⟩
theorem ints_plain : ∀ ns : List Int, D.plainAll (ns.map D.int) = true
  | [] => rfl
  | n :: ns => ints_plain ns
theorem ints_depth : ∀ ns : List Int, PyData.depthAll (D.pyAll (ns.map D.int)) = 0
  | [] => rfl
  | n :: ns => by
    show max 0 (PyData.depthAll (D.pyAll (ns.map D.int))) = 0
    rw [ints_depth ns]
    rfl
theorem ints_okEq (ns : List Int) : (D.lst (ns.map D.int)).okEq = true := by
  unfold D.okEq
  have h1 : (D.lst (ns.map D.int)).plain = true := ints_plain ns
  have h2 : (D.lst (ns.map D.int)).py.depth = 1 := by
    show PyData.depthAll (D.pyAll (ns.map D.int)) + 1 = 1
    rw [ints_depth]
  rw [h1, h2]
  rfl
theorem eqv_nil (l : List D) : (D.lst l).eqv (.lst []) = l.isEmpty := by cases l <;> rfl
theorem ne_nil {l : List D} (h : (D.lst l).okEq = true) : prim .ne [.lst l, .lst []] = .ok (.bl (!l.isEmpty)) := by
  show (if (D.lst l).okEq && (D.lst []).okEq then R.ok (D.bl (!(D.lst l).eqv (.lst []))) else .bad) = _
  rw [h, eqv_nil]
  rfl
theorem ix_nn {l : List D} {i : Int} {d : D} (h0 : 0 ≤ i) (h : l[i.toNat]? = some d) : ixL l i = .ok d := by
  have lt := (List.getElem?_eq_some_iff.mp h).1
  refine ix_at (j := i.toNat) ?_ h
  unfold ixN
  rw [if_pos h0, if_pos (by omega)]
theorem pow_i {i j : Int} (h : powOk i j = true) : prim .pow [.int i, .int j] = .ok (.int (i ^ j.toNat)) := if_pos h
end Vm
end
section
set_option Elab.async false
set_option linter.all false
set_option maxRecDepth 100000
namespace Vm
open PySem PySem.Spec L2
theorem pw (k : Nat) : ((2 ^ k : Nat) : Int) = (2 : Int) ^ k := by simp
theorem two_le {k m : Nat} (h : k ≤ m) : (2 : Int) ^ k ≤ 2 ^ m := by
  rw [← pw, ← pw]
  exact Int.ofNat_le.mpr (Nat.pow_le_pow_right (by decide) h)
end Vm
end
section
set_option Elab.async false
set_option linter.all false
set_option maxRecDepth 100000
namespace Vm
open PySem PySem.Spec L2
end Vm
end
section
set_option Elab.async false
set_option linter.all false
set_option maxRecDepth 100000
namespace Vm
open PySem PySem.Spec L2
def frs (ps : List Rat) : List D := ps.map fr
def HtA (k : Nat) (ps : List Rat) : Prop := ∀ q ∈ ps, Ht k q
theorem HtA.mono {k m : Nat} {ps : List Rat} (h : HtA k ps) (hk : k ≤ m) : HtA m ps := fun q hq => (h q hq).mono hk
theorem frs_num {k n : Nat} : ∀ {ps : List Rat}, HtA k ps → k ≤ 1919 → D.numAll (n + 1) (frs ps) = true
  | [], _, _ => rfl
  | q :: ps, h, hk => by
    show ((fr q).num (n + 1) && D.numAll (n + 1) (frs ps)) = true
    rw [fr_num_ok (h q List.mem_cons_self) hk, frs_num (fun x hx => h x (List.mem_cons_of_mem _ hx)) hk]
    rfl
theorem frs_len (ps : List Rat) : (frs ps).length = ps.length := List.length_map _
theorem fr_eqv (a b : Rat) : (fr a).eqv (fr b) = decide (a = b) := by
  have e : (fr a).eqv (fr b) = (decide (a.num = b.num) && (decide ((a.den : Int) = b.den) && true)) := rfl
  rw [e, Bool.and_true]
  by_cases h : a = b
  · subst h
    simp
  · rw [decide_eq_false h]
    by_cases h1 : a.num = b.num
    · have h2 : ¬ (a.den : Int) = b.den := fun h2 => h (Rat.ext h1 (by omega))
      rw [decide_eq_false h2, Bool.and_false]
    · rw [decide_eq_false h1, Bool.false_and]
theorem ht_0 (k : Nat) (hk : 1 ≤ k) : Ht k 0 := Ht.mono (k := 1) ⟨by unfold Bd; decide, by unfold Bd; decide⟩ hk
theorem ht_1 (k : Nat) (hk : 1 ≤ k) : Ht k 1 := Ht.mono (k := 1) ⟨by unfold Bd; decide, by unfold Bd; decide⟩ hk
end Vm
end
section
set_option Elab.async false
set_option linter.all false
set_option maxRecDepth 100000
namespace Vm
open PySem PySem.Spec L2
def Dv (T : Tab) (y : Str) : Prop := T.has y = true ∧ ∀ {k : Nat} {a b : Rat}, b ≠ 0 → Ht k a → Ht k b → k < 4000 → T.call y [.val (fr a), .val (fr b)] = .ok (fr (a / b), none)
structure Wr (mk w : Pr) (C : List D → D) : Prop where
  h1 : ∀ l, prim mk [.tup l] = .ok (C l)
  h2 : ∀ d, prim w [d] = .ok (C [d])
  h3 : ∀ d (k : Nat), k ≤ 1000 → prim .mul [C [d], .int k] = .ok (C (List.replicate k d))
  h4 : ∀ a b, a.length + b.length ≤ lineN → prim .add [C a, C b] = .ok (C (a ++ b))
  h5 : ∀ a b, items .zip [C a, C b] = some (zipD a b)
theorem flat_one (d : D) : ∀ k : Nat, (List.replicate k [d]).flatten = List.replicate k d
  | 0 => rfl
  | k + 1 => by
    rw [List.replicate_succ, List.replicate_succ, List.flatten_cons, flat_one d k]
    rfl
theorem wr_l : Wr .list .lst .lst where
  h1 _ := rfl
  h2 _ := rfl
  h3 d k h := by
    show (if decide ((k : Int) < 1000000) && decide ([d].length * (k : Int).toNat ≤ lineN) && decide (-1000000 < (k : Int)) then R.ok (D.lst (List.replicate (k : Int).toNat [d]).flatten) else .bad) = _
    rw [decide_eq_true (show (k : Int) < 1000000 by omega), decide_eq_true (show -1000000 < (k : Int) by omega), Int.toNat_natCast, flat_one, decide_eq_true (show [d].length * k ≤ lineN by rw [List.length_singleton]; unfold lineN; omega)]
    rfl
  h4 a b h := if_pos h
  h5 _ _ := rfl
end Vm
end
section
set_option Elab.async false
set_option linter.all false
set_option maxRecDepth 100000
namespace Vm
open PySem PySem.Spec L2
def hv (x : Rat) : List Rat → Rat
  | [] => 0
  | c :: cs => hv x cs * x + c
end Vm
end
section
set_option Elab.async false
set_option linter.all false
set_option maxRecDepth 100000
namespace Vm
open PySem PySem.Spec L2
section
variable (ps qs : List Rat)
end
section
variable {ps qs : List Rat}
theorem getD_mem {l : List Rat} {i : Nat} (h : i < l.length) : l.getD i 0 ∈ l := by
  rw [List.getD_eq_getElem?_getD, List.getElem?_eq_getElem h]
  exact List.getElem_mem h
end
theorem frs_get {ps : List Rat} {i : Nat} (h : i < ps.length) : (frs ps)[i]? = some (fr (ps.getD i 0)) := by
  unfold frs
  rw [List.getElem?_map, List.getD_eq_getElem?_getD, List.getElem?_eq_getElem h]
  rfl
theorem ixn_nat {n m : Nat} (h : m < n) : ixN n (m : Int) = some m := by
  unfold ixN
  rw [if_pos (by omega), if_pos (by omega), Int.toNat_natCast]
theorem ixl_nat {l : List D} {m : Nat} {d : D} (h : l[m]? = some d) : ixL l (m : Int) = .ok d := ix_at (ixn_nat (List.getElem?_eq_some_iff.mp h).1) h
end Vm
end
section
set_option Elab.async false
set_option linter.all false
set_option maxRecDepth 100000
namespace Vm
open PySem PySem.Spec L2
theorem cdl : ∀ (K : Nat) (a b : Int), b.natAbs < K → ∃ x : Int, f_common_divisor_l1 K (.int a) (.int b) = .ok (.int x, .int 0) ∧ x.natAbs = a.gcd b ∧ (0 ≤ a → 0 ≤ b → 0 ≤ x)
  | 0, _, b, h => absurd h (Nat.not_lt_zero _)
  | K + 1, a, b, h => by
    unfold f_common_divisor_l1
    by_cases c : b = 0
    · subst c
      simp -implicitDefEqProofs only [b_ok, b_bad, nx_ok, iteD_t, iteD_f, un1_t, un2_t, un3_t, un4_t, asL_l, ownK_s, el_nx, el_rt, p_add_i, p_sub_i, p_neg_i, p_mul_i, p_fdiv_i, p_mod_i, p_ix_t, p_ix_l, p_lt_i, p_le_i, p_gt_i, p_ge_i, p_abs_i, p_not_b, p_len_t, p_len_l, p_eq_i, p_ne_i, ix_0, ix_1, ix_2, if_true, if_false, fls_iff, tru_iff, Bool.false_eq_true, Bool.true_eq_false, decide_eq_true (rfl : (0 : Int) = 0), Bool.not_true]
      exact ⟨a, rfl, by simp [Int.gcd], fun h _ => h⟩
    · obtain ⟨h1, h2, h3⟩ := fmod_step (a := a) c
      obtain ⟨x, e, g, p⟩ := cdl K b (a.fmod b) (by omega)
      refine ⟨x, ?_, by rw [g, h2], fun h4 h5 => p h5 (h3 h4 h5)⟩
      have c2 : (b ≠ 0) = True := eq_true c
      simp -implicitDefEqProofs only [b_ok, b_bad, nx_ok, iteD_t, iteD_f, un1_t, un2_t, un3_t, un4_t, asL_l, ownK_s, el_nx, el_rt, p_add_i, p_sub_i, p_neg_i, p_mul_i, p_fdiv_i, p_mod_i, p_ix_t, p_ix_l, p_lt_i, p_le_i, p_gt_i, p_ge_i, p_abs_i, p_not_b, p_len_t, p_len_l, p_eq_i, p_ne_i, ix_0, ix_1, ix_2, if_true, if_false, fls_iff, tru_iff, Bool.false_eq_true, Bool.true_eq_false, decide_eq_false c, Bool.not_false, c2, e]
theorem ral : ∀ (K : Nat) (a b : Int), b.natAbs < K → ∃ x : Int, f_law_ratio_l1 K (.int a) (.int b) = .ok (.int x, .int 0) ∧ x.natAbs = a.gcd b ∧ (0 ≤ a → 0 ≤ b → 0 ≤ x)
  | 0, _, b, h => absurd h (Nat.not_lt_zero _)
  | K + 1, a, b, h => by
    unfold f_law_ratio_l1
    by_cases c : b = 0
    · subst c
      simp -implicitDefEqProofs only [b_ok, b_bad, nx_ok, iteD_t, iteD_f, un1_t, un2_t, un3_t, un4_t, asL_l, ownK_s, el_nx, el_rt, p_add_i, p_sub_i, p_neg_i, p_mul_i, p_fdiv_i, p_mod_i, p_ix_t, p_ix_l, p_lt_i, p_le_i, p_gt_i, p_ge_i, p_abs_i, p_not_b, p_len_t, p_len_l, p_eq_i, p_ne_i, ix_0, ix_1, ix_2, if_true, if_false, fls_iff, tru_iff, Bool.false_eq_true, Bool.true_eq_false, decide_eq_true (rfl : (0 : Int) = 0), Bool.not_true]
      exact ⟨a, rfl, by simp [Int.gcd], fun h _ => h⟩
    · obtain ⟨h1, h2, h3⟩ := fmod_step (a := a) c
      obtain ⟨x, e, g, p⟩ := ral K b (a.fmod b) (by omega)
      refine ⟨x, ?_, by rw [g, h2], fun h4 h5 => p h5 (h3 h4 h5)⟩
      have c2 : (b ≠ 0) = True := eq_true c
      simp -implicitDefEqProofs only [b_ok, b_bad, nx_ok, iteD_t, iteD_f, un1_t, un2_t, un3_t, un4_t, asL_l, ownK_s, el_nx, el_rt, p_add_i, p_sub_i, p_neg_i, p_mul_i, p_fdiv_i, p_mod_i, p_ix_t, p_ix_l, p_lt_i, p_le_i, p_gt_i, p_ge_i, p_abs_i, p_not_b, p_len_t, p_len_l, p_eq_i, p_ne_i, ix_0, ix_1, ix_2, if_true, if_false, fls_iff, tru_iff, Bool.false_eq_true, Bool.true_eq_false, decide_eq_false c, Bool.not_false, c2, e]
theorem fraction_ok {k : Nat} {p q : Int} (hq : q ≠ 0) (h1 : Bd k p) (h2 : Bd k q) (hk : k < 9000) : f_fraction (.int p) (.int q) = .ok (fr (Rat.divInt p q)) := by
  obtain ⟨g1, g2⟩ := gcd_bd (p := p) h2 hq
  obtain ⟨x, e, g, _⟩ := cdl big p q (big_gt (k := k) h2 (by omega))
  have dv : divOk ((p.gcd q : Nat) : Int) = true := divOk_bd g1 g2
  have cd : f_common_divisor (.int p) (.int q) = .ok (.int ((p.gcd q : Nat) : Int)) := by
    unfold f_common_divisor
    simp -implicitDefEqProofs only [b_ok, b_bad, nx_ok, iteD_t, iteD_f, un1_t, un2_t, un3_t, un4_t, asL_l, ownK_s, el_nx, el_rt, p_add_i, p_sub_i, p_neg_i, p_mul_i, p_fdiv_i, p_mod_i, p_ix_t, p_ix_l, p_lt_i, p_le_i, p_gt_i, p_ge_i, p_abs_i, p_not_b, p_len_t, p_len_l, p_eq_i, p_ne_i, ix_0, ix_1, ix_2, if_true, if_false, fls_iff, tru_iff, Bool.false_eq_true, Bool.true_eq_false, e, abs_if, g]
  unfold f_fraction
  by_cases hs : q < 0
  · have e2 : q.sign = -1 := Int.sign_eq_neg_one_of_neg hs
    have s1 : mulOk (-1) p = true := mulOk_bd (k := 1) (m := k) (by unfold Bd; decide) h1
    have s2 : mulOk (-1) q = true := mulOk_bd (k := 1) (m := k) (by unfold Bd; decide) h2
    simp -implicitDefEqProofs only [b_ok, b_bad, nx_ok, iteD_t, iteD_f, un1_t, un2_t, un3_t, un4_t, asL_l, ownK_s, el_nx, el_rt, p_add_i, p_sub_i, p_neg_i, p_mul_i, p_fdiv_i, p_mod_i, p_ix_t, p_ix_l, p_lt_i, p_le_i, p_gt_i, p_ge_i, p_abs_i, p_not_b, p_len_t, p_len_l, p_eq_i, p_ne_i, ix_0, ix_1, ix_2, if_true, if_false, fls_iff, tru_iff, Bool.false_eq_true, Bool.true_eq_false, decide_eq_false hq, cd, decide_eq_true hs, p_neg_i, s1, s2, dv]
    unfold fr
    rw [fr_num, fr_den hq, e2]
  · have e2 : q.sign = 1 := Int.sign_eq_one_of_pos (by omega)
    have s1 : mulOk 1 p = true := mulOk_bd (k := 1) (m := k) (by unfold Bd; decide) h1
    have s2 : mulOk 1 q = true := mulOk_bd (k := 1) (m := k) (by unfold Bd; decide) h2
    simp -implicitDefEqProofs only [b_ok, b_bad, nx_ok, iteD_t, iteD_f, un1_t, un2_t, un3_t, un4_t, asL_l, ownK_s, el_nx, el_rt, p_add_i, p_sub_i, p_neg_i, p_mul_i, p_fdiv_i, p_mod_i, p_ix_t, p_ix_l, p_lt_i, p_le_i, p_gt_i, p_ge_i, p_abs_i, p_not_b, p_len_t, p_len_l, p_eq_i, p_ne_i, ix_0, ix_1, ix_2, if_true, if_false, fls_iff, tru_iff, Bool.false_eq_true, Bool.true_eq_false, decide_eq_false hq, cd, decide_eq_false hs, s1, s2, dv]
    unfold fr
    rw [fr_num, fr_den hq, e2]
theorem ratio_ok {k : Nat} {p q : Int} (hq : q ≠ 0) (h1 : Bd k p) (h2 : Bd k q) (hk : k < 9000) : f_law_ratio (.int p) (.int q) = .ok (fr (Rat.divInt p q)) := by
  obtain ⟨g1, g2⟩ := gcd_bd (p := p) h2 hq
  obtain ⟨x, e, g, n⟩ := ral big (p.natAbs : Int) (q.natAbs : Int) (big_gt (k := k) (by rw [Int.natAbs_natCast]; exact h2) (by omega))
  have ex : x = ((p.gcd q : Nat) : Int) := by
    have z := n (by omega) (by omega)
    have e : Int.gcd (p.natAbs : Int) (q.natAbs : Int) = p.gcd q := by simp [Int.gcd]
    omega
  subst ex
  unfold f_law_ratio
  have dv : divOk ((p.gcd q : Nat) : Int) = true := divOk_bd g1 g2
  by_cases hs : q < 0
  · have e2 : q.sign = -1 := Int.sign_eq_neg_one_of_neg hs
    have z : (0 : Int) - ((p.gcd q : Nat) : Int) = -((p.gcd q : Nat) : Int) := Int.zero_sub _
    have lt : -((p.gcd q : Nat) : Int) < 0 := by omega
    have lg : (-((p.gcd q : Nat) : Int)).natAbs.log2 < 9000 := by
      have := g1.neg.log
      omega
    have d1 : ∀ i : Int, prim .fdiv [.int i, .int (-((p.gcd q : Nat) : Int))] = .ok (.int (-i / ((p.gcd q : Nat) : Int))) := fun i => by
      rw [p_fdiv_n lt lg]
      have : i.fdiv (-((p.gcd q : Nat) : Int)) = (-i).fdiv ((p.gcd q : Nat) : Int) := by
        have := Int.neg_fdiv_neg (-i) ((p.gcd q : Nat) : Int)
        rw [Int.neg_neg] at this
        exact this
      rw [this, Int.fdiv_eq_ediv_of_nonneg _ (by omega)]
    simp only [b_ok, p_abs_i, abs_if, e, p_lt_i, decide_eq_true hs, iteD_t, p_sub_i, z, d1]
    unfold fr
    rw [fr_num, fr_den hq, e2, Int.neg_one_mul, Int.neg_one_mul]
  · have e2 : q.sign = 1 := Int.sign_eq_one_of_pos (by omega)
    simp -implicitDefEqProofs only [b_ok, b_bad, nx_ok, iteD_t, iteD_f, un1_t, un2_t, un3_t, un4_t, asL_l, ownK_s, el_nx, el_rt, p_add_i, p_sub_i, p_neg_i, p_mul_i, p_fdiv_i, p_mod_i, p_ix_t, p_ix_l, p_lt_i, p_le_i, p_gt_i, p_ge_i, p_abs_i, p_not_b, p_len_t, p_len_l, p_eq_i, p_ne_i, ix_0, ix_1, ix_2, if_true, if_false, fls_iff, tru_iff, Bool.false_eq_true, Bool.true_eq_false, abs_if, e, decide_eq_false hs, dv]
    unfold fr
    rw [fr_num, fr_den hq, e2, Int.one_mul, Int.one_mul]
section
variable {k : Nat} {a b : Rat}
theorem add_mk {f : D → D → R D} (ok : ∀ {k : Nat} {p q : Int}, q ≠ 0 → Bd k p → Bd k q → k < 9000 → f (.int p) (.int q) = .ok (fr (Rat.divInt p q))) (h : Ht k a) (g : Ht k b) (hk : k < 4000) : f (.int (a.num * b.den + b.num * a.den)) (.int ((a.den : Int) * b.den)) = .ok (fr (a + b)) := by
  have h1 := h.1.mul g.2
  have h2 := g.1.mul h.2
  have h3 := h.2.mul g.2
  rw [add_eq]
  exact ok (k := k + k + 1) (Int.mul_ne_zero (den_ne a) (den_ne b)) (h1.add h2) (h3.mono (by omega)) (by omega)
theorem mul_mk {f : D → D → R D} (ok : ∀ {k : Nat} {p q : Int}, q ≠ 0 → Bd k p → Bd k q → k < 9000 → f (.int p) (.int q) = .ok (fr (Rat.divInt p q))) (h : Ht k a) (g : Ht k b) (hk : k < 4000) : f (.int (a.num * b.num)) (.int ((a.den : Int) * b.den)) = .ok (fr (a * b)) := by
  rw [mul_eq]
  exact ok (k := k + k) (Int.mul_ne_zero (den_ne a) (den_ne b)) (h.1.mul g.1) (h.2.mul g.2) (by omega)
theorem div_mk {f : D → D → R D} (ok : ∀ {k : Nat} {p q : Int}, q ≠ 0 → Bd k p → Bd k q → k < 9000 → f (.int p) (.int q) = .ok (fr (Rat.divInt p q))) (hb : b ≠ 0) (h : Ht k a) (g : Ht k b) (hk : k < 4000) : f (.int (a.num * b.den)) (.int ((a.den : Int) * b.num)) = .ok (fr (a / b)) := by
  rw [div_eq]
  exact ok (k := k + k) (Int.mul_ne_zero (den_ne a) (fun e => hb (Rat.num_eq_zero.mp e))) (h.1.mul g.2) (h.2.mul g.1) (by omega)
theorem addF_ok (h : Ht k a) (g : Ht k b) (hk : k < 4000) : f_add (fr a) (fr b) = .ok (fr (a + b)) := by
  have q1 : mulOk a.num b.den = true := mulOk_bd h.1 g.2
  have q2 : mulOk b.num a.den = true := mulOk_bd g.1 h.2
  have q3 : mulOk a.den b.den = true := mulOk_bd h.2 g.2
  have e := add_mk (f := f_fraction) (fun a b c d => fraction_ok a b c d) h g hk
  show f_add (.tup [.int a.num, .int a.den]) (.tup [.int b.num, .int b.den]) = _
  unfold f_add
  simp -implicitDefEqProofs only [b_ok, b_bad, nx_ok, iteD_t, iteD_f, un1_t, un2_t, un3_t, un4_t, asL_l, ownK_s, el_nx, el_rt, p_add_i, p_sub_i, p_neg_i, p_mul_i, p_fdiv_i, p_mod_i, p_ix_t, p_ix_l, p_lt_i, p_le_i, p_gt_i, p_ge_i, p_abs_i, p_not_b, p_len_t, p_len_l, p_eq_i, p_ne_i, ix_0, ix_1, ix_2, if_true, if_false, fls_iff, tru_iff, Bool.false_eq_true, Bool.true_eq_false, q1, q2, q3, e]
theorem plus_ok (h : Ht k a) (g : Ht k b) (hk : k < 4000) : f_law_plus (fr a) (fr b) = .ok (fr (a + b)) := by
  have q1 : mulOk a.num b.den = true := mulOk_bd h.1 g.2
  have q2 : mulOk b.num a.den = true := mulOk_bd g.1 h.2
  have q3 : mulOk a.den b.den = true := mulOk_bd h.2 g.2
  have e := add_mk (f := f_law_ratio) (fun a b c d => ratio_ok a b c d) h g hk
  show f_law_plus (.tup [.int a.num, .int a.den]) (.tup [.int b.num, .int b.den]) = _
  unfold f_law_plus
  simp -implicitDefEqProofs only [b_ok, b_bad, nx_ok, iteD_t, iteD_f, un1_t, un2_t, un3_t, un4_t, asL_l, ownK_s, el_nx, el_rt, p_add_i, p_sub_i, p_neg_i, p_mul_i, p_fdiv_i, p_mod_i, p_ix_t, p_ix_l, p_lt_i, p_le_i, p_gt_i, p_ge_i, p_abs_i, p_not_b, p_len_t, p_len_l, p_eq_i, p_ne_i, ix_0, ix_1, ix_2, if_true, if_false, fls_iff, tru_iff, Bool.false_eq_true, Bool.true_eq_false, q1, q2, q3, e]
theorem multiply_ok (h : Ht k a) (g : Ht k b) (hk : k < 4000) : f_multiply (fr a) (fr b) = .ok (fr (a * b)) := by
  have q1 : mulOk a.num b.num = true := mulOk_bd h.1 g.1
  have q3 : mulOk a.den b.den = true := mulOk_bd h.2 g.2
  have e := mul_mk (f := f_fraction) (fun a b c d => fraction_ok a b c d) h g hk
  show f_multiply (.tup [.int a.num, .int a.den]) (.tup [.int b.num, .int b.den]) = _
  unfold f_multiply
  simp -implicitDefEqProofs only [b_ok, b_bad, nx_ok, iteD_t, iteD_f, un1_t, un2_t, un3_t, un4_t, asL_l, ownK_s, el_nx, el_rt, p_add_i, p_sub_i, p_neg_i, p_mul_i, p_fdiv_i, p_mod_i, p_ix_t, p_ix_l, p_lt_i, p_le_i, p_gt_i, p_ge_i, p_abs_i, p_not_b, p_len_t, p_len_l, p_eq_i, p_ne_i, ix_0, ix_1, ix_2, if_true, if_false, fls_iff, tru_iff, Bool.false_eq_true, Bool.true_eq_false, q1, q3, e]
theorem product_ok (h : Ht k a) (g : Ht k b) (hk : k < 4000) : f_law_product_of (fr a) (fr b) = .ok (fr (a * b)) := by
  have q1 : mulOk a.num b.num = true := mulOk_bd h.1 g.1
  have q3 : mulOk a.den b.den = true := mulOk_bd h.2 g.2
  have e := mul_mk (f := f_law_ratio) (fun a b c d => ratio_ok a b c d) h g hk
  show f_law_product_of (.tup [.int a.num, .int a.den]) (.tup [.int b.num, .int b.den]) = _
  unfold f_law_product_of
  simp -implicitDefEqProofs only [b_ok, b_bad, nx_ok, iteD_t, iteD_f, un1_t, un2_t, un3_t, un4_t, asL_l, ownK_s, el_nx, el_rt, p_add_i, p_sub_i, p_neg_i, p_mul_i, p_fdiv_i, p_mod_i, p_ix_t, p_ix_l, p_lt_i, p_le_i, p_gt_i, p_ge_i, p_abs_i, p_not_b, p_len_t, p_len_l, p_eq_i, p_ne_i, ix_0, ix_1, ix_2, if_true, if_false, fls_iff, tru_iff, Bool.false_eq_true, Bool.true_eq_false, q1, q3, e]
theorem over_ok (hb : b ≠ 0) (h : Ht k a) (g : Ht k b) (hk : k < 4000) : f_law_over (fr a) (fr b) = .ok (fr (a / b)) := by
  have q1 : mulOk a.num b.den = true := mulOk_bd h.1 g.2
  have q3 : mulOk a.den b.num = true := mulOk_bd h.2 g.1
  have e := div_mk (f := f_law_ratio) (fun a b c d => ratio_ok a b c d) hb h g hk
  show f_law_over (.tup [.int a.num, .int a.den]) (.tup [.int b.num, .int b.den]) = _
  unfold f_law_over
  simp -implicitDefEqProofs only [b_ok, b_bad, nx_ok, iteD_t, iteD_f, un1_t, un2_t, un3_t, un4_t, asL_l, ownK_s, el_nx, el_rt, p_add_i, p_sub_i, p_neg_i, p_mul_i, p_fdiv_i, p_mod_i, p_ix_t, p_ix_l, p_lt_i, p_le_i, p_gt_i, p_ge_i, p_abs_i, p_not_b, p_len_t, p_len_l, p_eq_i, p_ne_i, ix_0, ix_1, ix_2, if_true, if_false, fls_iff, tru_iff, Bool.false_eq_true, Bool.true_eq_false, q1, q3, e]
theorem fr_neg (a : Rat) : D.tup [.int (0 - a.num), .int a.den] = fr (-a) := by
  unfold fr
  rw [Rat.neg_num, Rat.neg_den, Int.zero_sub]
theorem fr_neg' (a : Rat) : D.tup [.int (-a.num), .int a.den] = fr (-a) := by
  unfold fr
  rw [Rat.neg_num, Rat.neg_den]
theorem negative_ok (a : Rat) : f_negative (fr a) = .ok (fr (-a)) := by
  show f_negative (.tup [.int a.num, .int a.den]) = _
  unfold f_negative
  simp -implicitDefEqProofs only [b_ok, b_bad, nx_ok, iteD_t, iteD_f, un1_t, un2_t, un3_t, un4_t, asL_l, ownK_s, el_nx, el_rt, p_add_i, p_sub_i, p_neg_i, p_mul_i, p_fdiv_i, p_mod_i, p_ix_t, p_ix_l, p_lt_i, p_le_i, p_gt_i, p_ge_i, p_abs_i, p_not_b, p_len_t, p_len_l, p_eq_i, p_ne_i, ix_0, ix_1, ix_2, if_true, if_false, fls_iff, tru_iff, Bool.false_eq_true, Bool.true_eq_false, fr_neg']
theorem subtract_ok (h : Ht k a) (g : Ht k b) (hk : k < 4000) : f_subtract (fr a) (fr b) = .ok (fr (a + -b)) := by
  unfold f_subtract
  simp -implicitDefEqProofs only [b_ok, b_bad, nx_ok, iteD_t, iteD_f, un1_t, un2_t, un3_t, un4_t, asL_l, ownK_s, el_nx, el_rt, p_add_i, p_sub_i, p_neg_i, p_mul_i, p_fdiv_i, p_mod_i, p_ix_t, p_ix_l, p_lt_i, p_le_i, p_gt_i, p_ge_i, p_abs_i, p_not_b, p_len_t, p_len_l, p_eq_i, p_ne_i, ix_0, ix_1, ix_2, if_true, if_false, fls_iff, tru_iff, Bool.false_eq_true, Bool.true_eq_false, negative_ok, addF_ok h g.neg hk]
end
end Vm
end
section
set_option Elab.async false
set_option linter.all false
set_option maxRecDepth 100000
namespace Vm
open PySem PySem.Spec L2
theorem rng1_nat {n : Nat} (h : n ≤ 100000) : items .rng1 [.int (n : Int)] = some (rngD 0 n) := by
  have e : (2 : Int) ^ 62 = 4611686018427387904 := by decide
  rw [rng1_items ⟨by rw [e]; omega, by rw [e]; omega⟩, Int.toNat_natCast]
end Vm
end
section
set_option Elab.async false
set_option linter.all false
set_option maxRecDepth 100000
namespace Vm
open PySem PySem.Spec L2
def Ch (m : Nat) (l : List D) : Prop := ∃ (ns : List Int) (ix c2 c3 : Int), l = [.lst (ns.map D.int), .int ix, .int c2, .int c3] ∧ (∀ n ∈ ns, 0 ≤ n) ∧ ns.length ≤ 16 ∧ 0 ≤ ix ∧ ix ≤ m ∧ 0 ≤ c2 ∧ 0 ≤ c3
theorem Ch.mono {m k : Nat} {l : List D} (h : Ch m l) (hk : m ≤ k) : Ch k l := by
  obtain ⟨ns, ix, c2, c3, h0, h1, h2, h3, h4, h5, h6⟩ := h
  exact ⟨ns, ix, c2, c3, h0, h1, h2, h3, by omega, h5, h6⟩
theorem lcK_ok {α : Type} {ds : List D} {m : R α} (h : ds.length ≤ lineN) : lcK true ds m = m := by
  unfold lcK
  rw [decide_eq_true h]
  rfl
theorem setAt_ok {l : List D} {i : Int} {j : Nat} {v : D} (h : ixN l.length i = some j) : setAt l (.int i) v = .ok (l.set j v) := by
  unfold setAt
  simp only [h]
theorem setAt_nat {l : List D} {j : Nat} {v : D} (h : j < l.length) : setAt l (.int (j : Int)) v = .ok (l.set j v) := setAt_ok (ixn_nat h)
theorem it_seq_l (l : List D) : itR .seq [.lst l] = .ok l := rfl
theorem it_seq_t (l : List D) : itR .seq [.tup l] = .ok l := rfl
theorem it_enum_l (l : List D) : itR .enum [.lst l] = .ok (enumD 0 l) := rfl
theorem it_zip_t (l m : List D) : itR .zip [.tup l, .tup m] = .ok (zipD l m) := rfl
theorem it_of {k : Ik} {ls ds : List D} (h : items k ls = some ds) : itR k ls = .ok ds := by
  unfold itR
  simp only [h]
theorem it_rng {n : Nat} (h : n ≤ 100000) : itR .rng1 [.int (n : Int)] = .ok (rngD 0 n) := it_of (rng1_nat h)
theorem abs_nn' (i : Int) : 0 ≤ (if i < 0 then -i else i) := by split <;> omega
end Vm
end
section
set_option Elab.async false
set_option linter.all false
set_option maxRecDepth 100000
namespace Vm
open PySem PySem.Spec L2
theorem ix_3 (a b c d : D) (l : List D) : ixL (a :: b :: c :: d :: l) 3 = .ok d := ix_at (j := 3) (by unfold ixN; simp; omega) rfl
def Sm (q : Rat) : Prop := ∃ a b : Int, q = Rat.divInt a b ∧ a.natAbs ≤ 3 ∧ (b = 1 ∨ b = 2 ∨ b = 3)
theorem Sm.ht {q : Rat} (h : Sm q) : Ht 2 q := by
  obtain ⟨a, b, rfl, h1, h2⟩ := h
  refine .divInt (by omega) ?_ ?_ <;> unfold Bd <;> omega
end Vm
end
section
set_option Elab.async false
set_option linter.all false
set_option maxRecDepth 100000
namespace Vm
open PySem PySem.Spec L2
def CD (k : Nat) (xs : List Rat) : Prop := ∃ d : Int, d ≠ 0 ∧ Bd k d ∧ ∀ x ∈ xs, ∃ n : Int, x = (n : Rat) / (d : Rat) ∧ Bd k n
theorem CD.mono {k m : Nat} {xs : List Rat} (h : CD k xs) (hk : k ≤ m) : CD m xs := by
  obtain ⟨d, h1, h2, h3⟩ := h
  exact ⟨d, h1, h2.mono hk, fun x hx => by obtain ⟨n, e, b⟩ := h3 x hx; exact ⟨n, e, b.mono hk⟩⟩
theorem CD.ht {k : Nat} {xs : List Rat} (h : CD k xs) : HtA k xs := fun x hx => by
  obtain ⟨d, h1, h2, h3⟩ := h
  obtain ⟨n, e, b⟩ := h3 x hx
  rw [e, ← Rat.divInt_eq_div]
  exact .divInt h1 b h2
theorem CD.sub {k : Nat} {xs ys : List Rat} (h : CD k xs) (hs : ∀ y ∈ ys, y ∈ xs) : CD k ys := by
  obtain ⟨d, h1, h2, h3⟩ := h
  exact ⟨d, h1, h2, fun y hy => h3 y (hs y hy)⟩
theorem rz {d : Int} (h : d ≠ 0) : (d : Rat) ≠ 0 := fun e => h (by
  have := Rat.intCast_eq_zero_iff.mp e
  exact this)
def Part (k : Nat) (d : Int) (j : Nat) (s : Rat) : Prop := ∃ N : Int, s = (N : Rat) / (d : Rat) ∧ N.natAbs ≤ j * 2 ^ k
theorem Part.ht {k j i : Nat} {d : Int} {s : Rat} (h : Part k d j s) (hd : d ≠ 0) (hb : Bd (k + i) d) (hj : j < 2 ^ i) : Ht (k + i) s := by
  obtain ⟨N, e, b⟩ := h
  rw [e, ← Rat.divInt_eq_div]
  refine .divInt hd ?_ hb
  unfold Bd
  rw [Nat.pow_add, Nat.mul_comm]
  exact Nat.lt_of_le_of_lt b (Nat.mul_lt_mul_of_pos_right hj (Nat.pow_pos (by decide)))
theorem Part.step {k m j : Nat} {d e : Int} {s x y : Rat} {n n2 : Int} (h : Part (k + m) (d * e) j s) (hd : d ≠ 0) (he : e ≠ 0) (hx : x = (n : Rat) / (d : Rat)) (hy : y = (n2 : Rat) / (e : Rat)) (b1 : Bd k n) (b2 : Bd m n2) : Part (k + m) (d * e) (j + 1) (s + x * y) := by
  obtain ⟨N, e1, b⟩ := h
  refine ⟨N + n * n2, ?_, ?_⟩
  · rw [e1, hx, hy, Rat.intCast_add, Rat.intCast_mul, Rat.intCast_mul]
    have := rz hd
    have := rz he
    grind
  · have p := b1.mul b2
    unfold Bd at p
    have q := Int.natAbs_add_le N (n * n2)
    rw [Nat.add_mul, Nat.one_mul]
    omega
def lastR (row : List Rat) : Rat := row.getLast?.getD 0
end Vm
end
section
set_option Elab.async false
set_option linter.all false
set_option maxRecDepth 100000
namespace Vm
open PySem PySem.Spec L2
theorem fr_ne {k : Nat} {a b : Rat} (h : Ht k a) (g : Ht k b) (hk : k ≤ 1919) : prim .ne [fr a, fr b] = .ok (.bl (!decide (a = b))) := by
  have e1 : (fr a).okEq = true := eq_ok_num (k := 2) (fr_num_ok (n := 1) h hk) (by decide)
  have e2 : (fr b).okEq = true := eq_ok_num (k := 2) (fr_num_ok (n := 1) g hk) (by decide)
  show (if ((fr a).okEq && (fr b).okEq) = true then R.ok (D.bl (!(fr a).eqv (fr b))) else .bad) = _
  rw [e1, e2, fr_eqv]
  rfl
theorem fr_ne0 {k : Nat} {a : Rat} (h : Ht k a) (k1 : 1 ≤ k) (hk : k ≤ 1919) : prim .ne [fr a, .tup [.int 0, .int 1]] = .ok (.bl (!decide (a = 0))) := fr_ne (b := 0) h (ht_0 _ k1) hk
section
variable {k m : Nat} {row p : List Rat}
end
def leadGo : Nat → List Rat → Option Nat
  | _, [] => none
  | k, x :: xs => if x = 0 then leadGo (k + 1) xs else some k
def lead (row : List Rat) : Option Nat := leadGo 0 row.dropLast
def mixR (f : Rat) : List Rat → List Rat → List Rat
  | x :: a, y :: b => (x + f * y) :: mixR f a b
  | _, _ => []
theorem mix_c {k : Nat} {f : Rat} (hk : k < 1900) (hf : Ht k f) : ∀ (a b : List Rat), HtA k a → HtA k b → f_law_mixed_rows_c1 (fr f) (zipD (frs a) (frs b)) = .ok (frs (mixR f a b))
  | [], b, _, _ => by cases b <;> rfl
  | x :: a, [], _, _ => rfl
  | x :: a, y :: b, ha, hb => by
    have ih := mix_c hk hf a b (fun q hq => ha q (List.mem_cons_of_mem _ hq)) (fun q hq => hb q (List.mem_cons_of_mem _ hq))
    have hx := ha x List.mem_cons_self
    have hy := hb y List.mem_cons_self
    have e1 := product_ok hf hy (show k < 4000 by omega)
    have e2 := plus_ok (hx.mono (show k ≤ k + k by omega)) (hf.mul hy) (show k + k < 4000 by omega)
    show f_law_mixed_rows_c1 (fr f) (.tup [fr x, fr y] :: zipD (frs a) (frs b)) = _
    unfold f_law_mixed_rows_c1
    simp only [un2_t, e1, nx_ok, b_ok, e2, ih]
    rfl
theorem mix_len : ∀ (f : Rat) (a b : List Rat), (mixR f a b).length = min a.length b.length
  | f, [], b => by cases b <;> simp [mixR]
  | f, x :: a, [] => by simp [mixR]
  | f, x :: a, y :: b => by
    show (mixR f a b).length + 1 = min (a.length + 1) (b.length + 1)
    rw [mix_len f a b]
    omega
theorem zipD_len' (a b : List Rat) : (zipD (frs a) (frs b)).length = min a.length b.length := by
  rw [zipD_len, frs_len, frs_len]
theorem mix_ok {k : Nat} {f : Rat} {a b : List Rat} (hk : k < 1900) (hf : Ht k f) (ha : HtA k a) (hb : HtA k b) (hl : a.length ≤ 1000) : f_law_mixed_rows (.tup (frs a)) (.tup (frs b)) (fr f) = .ok (.tup (frs (mixR f a b))) := by
  have tl : ∀ l : List D, prim .tuple [.lst l] = .ok (.tup l) := fun _ => rfl
  unfold f_law_mixed_rows
  simp only [it_zip_t, b_ok, lcK_ok (show (zipD (frs a) (frs b)).length ≤ lineN by rw [zipD_len']; unfold lineN; omega), mix_c hk hf a b ha hb, tl]
theorem mix_getD : ∀ (f : Rat) (a b : List Rat) (i : Nat), a.length = b.length → (mixR f a b).getD i 0 = a.getD i 0 + f * b.getD i 0
  | f, [], [], i, _ => by
    show (0 : Rat) = 0 + f * 0
    rw [Rat.mul_zero, Rat.add_zero]
  | f, x :: a, [], i, h => by cases h
  | f, [], y :: b, i, h => by cases h
  | f, x :: a, y :: b, 0, h => rfl
  | f, x :: a, y :: b, i + 1, h => mix_getD f a b i (Nat.succ.inj h)
end Vm
end
section
set_option Elab.async false
set_option linter.all false
set_option maxRecDepth 100000
namespace Vm
open PySem PySem.Spec L2
def rws (rs : List (List Rat)) : List D := rs.map fun r => .tup (frs r)
theorem rws_len (rs : List (List Rat)) : (rws rs).length = rs.length := List.length_map _
theorem getD_at {k : Nat} {r : List Rat} {j : Nat} (h : j < r.length) : ixL (frs r) (j : Int) = .ok (fr (r.getD j 0)) := ixl_nat (frs_get h)
def Rws (n K : Nat) (rs : List (List Rat)) : Prop := ∀ r ∈ rs, r.length = n + 1 ∧ CD K r
def nzc (j : Nat) (r : List Rat) : Bool := !decide (r.getD j 0 = 0)
section
variable {n K : Nat}
theorem fit_c (hK : K ≤ 1900) (k1 : 1 ≤ K) {j : Nat} (hj : j < n) : ∀ rs : List (List Rat), Rws n K rs → f_law_solved_c2 (.int (j : Int)) (rws rs) = .ok (rws (rs.filter (nzc j)))
  | [], _ => rfl
  | r :: rs, h => by
    obtain ⟨h1, h2⟩ := h r List.mem_cons_self
    have ih := fit_c hK k1 hj rs (fun q hq => h q (List.mem_cons_of_mem _ hq))
    have lt : j < r.length := by omega
    have e := fr_ne0 (h2.ht _ (getD_mem lt)) k1 (by omega : K ≤ 1919)
    show f_law_solved_c2 (.int (j : Int)) (.tup (frs r) :: rws rs) = _
    unfold f_law_solved_c2
    by_cases c : r.getD j 0 = 0
    · have z : nzc j r = false := by unfold nzc; rw [decide_eq_true c]; rfl
      rw [List.filter_cons_of_neg (by rw [z]; exact fun x => nomatch x)]
      simp only [p_ix_t, getD_at (k := K) lt, b_ok, e, decide_eq_true c, Bool.not_true, iteD_f, ih]
    · have z : nzc j r = true := by unfold nzc; rw [decide_eq_false c]; rfl
      rw [List.filter_cons_of_pos z]
      simp only [p_ix_t, getD_at (k := K) lt, b_ok, e, decide_eq_false c, Bool.not_false, iteD_t, ih]
      rfl
def unitR (j : Nat) (r : List Rat) : List Rat := r.map fun x => x / r.getD j 0
theorem unit_c {r0 : List Rat} {ms : List (List Rat)} (hK : K ≤ 1900) {j : Nat} (h0 : r0.length = n + 1) (hj : j < n) (nz : r0.getD j 0 ≠ 0) (ht : HtA K r0) : ∀ xs : List Rat, HtA K xs → f_law_solved_c3 (.lst (rws (r0 :: ms))) (.int (j : Int)) (frs xs) = .ok (frs (xs.map fun x => x / r0.getD j 0))
  | [], _ => rfl
  | x :: xs, h => by
    have ih := unit_c (ms := ms) hK h0 hj nz ht xs (fun q hq => h q (List.mem_cons_of_mem _ hq))
    have lt : j < r0.length := by omega
    have e := over_ok nz (h x List.mem_cons_self) (ht _ (getD_mem lt)) (by omega : K < 4000)
    have i0 : ixL (rws (r0 :: ms)) 0 = .ok (.tup (frs r0)) := ix_0 _ _
    show f_law_solved_c3 (.lst (rws (r0 :: ms))) (.int (j : Int)) (fr x :: frs xs) = _
    unfold f_law_solved_c3
    simp only [p_ix_l, i0, b_ok, p_ix_t, getD_at (k := K) lt, e, nx_ok, ih]
    rfl
def clear (j : Nat) (l r : List Rat) : List Rat := mixR (-(r.getD j 0)) r l
theorem clear_c4 (hK : K ≤ 1800) {j : Nat} {l : List Rat} (hl : HtA K l) (hj : j < n) : ∀ rs : List (List Rat), Rws n K rs → n ≤ 100 → f_law_solved_c4 (.tup (frs l)) (.int (j : Int)) (rws rs) = .ok (rws (rs.map (clear j l)))
  | [], _, _ => rfl
  | r :: rs, h, hn => by
    obtain ⟨h1, h2⟩ := h r List.mem_cons_self
    have ih := clear_c4 hK hl hj rs (fun q hq => h q (List.mem_cons_of_mem _ hq)) hn
    have lt : j < r.length := by omega
    have e := mix_ok (f := -(r.getD j 0)) (show K < 1900 by omega) (h2.ht _ (getD_mem lt)).neg h2.ht hl (by omega)
    have g : ixL (frs r) (j : Int) = .ok (.tup [.int (r.getD j 0).num, .int (r.getD j 0).den]) := getD_at (k := K) lt
    show f_law_solved_c4 (.tup (frs l)) (.int (j : Int)) (.tup (frs r) :: rws rs) = _
    unfold f_law_solved_c4
    simp only [p_ix_t, g, b_ok, ix_0, ix_1, p_sub_i, fr_neg, e, nx_ok, ih]
    rfl
theorem clear_c5 (hK : K ≤ 1800) {j : Nat} {l : List Rat} (hl : HtA K l) (hj : j < n) : ∀ rs : List (List Rat), Rws n K rs → n ≤ 100 → f_law_solved_c5 (.tup (frs l)) (.int (j : Int)) (rws rs) = .ok (rws (rs.map (clear j l)))
  | [], _, _ => rfl
  | r :: rs, h, hn => by
    obtain ⟨h1, h2⟩ := h r List.mem_cons_self
    have ih := clear_c5 hK hl hj rs (fun q hq => h q (List.mem_cons_of_mem _ hq)) hn
    have lt : j < r.length := by omega
    have e := mix_ok (f := -(r.getD j 0)) (show K < 1900 by omega) (h2.ht _ (getD_mem lt)).neg h2.ht hl (by omega)
    have g : ixL (frs r) (j : Int) = .ok (.tup [.int (r.getD j 0).num, .int (r.getD j 0).den]) := getD_at (k := K) lt
    show f_law_solved_c5 (.tup (frs l)) (.int (j : Int)) (.tup (frs r) :: rws rs) = _
    unfold f_law_solved_c5
    simp only [p_ix_t, g, b_ok, ix_0, ix_1, p_sub_i, fr_neg, e, nx_ok, ih]
    rfl
end
theorem cd_unit {K j : Nat} {r : List Rat} (h : CD K r) (lt : j < r.length) (nz : r.getD j 0 ≠ 0) : CD K (unitR j r) := by
  obtain ⟨d, d1, d2, d3⟩ := h
  obtain ⟨nj, e, b⟩ := d3 _ (getD_mem lt)
  have dz := rz d1
  have njz : nj ≠ 0 := fun z => nz (by
    rw [e, z]
    have : ((0 : Int) : Rat) = 0 := rfl
    rw [this, Rat.div_def, Rat.zero_mul])
  have nz' := rz njz
  refine ⟨nj, njz, b, fun x hx => ?_⟩
  obtain ⟨y, hy, rfl⟩ := List.mem_map.mp hx
  obtain ⟨ny, e2, b2⟩ := d3 y hy
  refine ⟨ny, ?_, b2⟩
  rw [e, e2]
  grind
theorem mix_mem : ∀ (f : Rat) (a b : List Rat) (x : Rat), x ∈ mixR f a b → ∃ u v, u ∈ a ∧ v ∈ b ∧ x = u + f * v
  | f, [], b, x, h => by cases b <;> cases h
  | f, y :: a, [], x, h => by cases h
  | f, y :: a, z :: b, x, h => by
    have h : x ∈ (y + f * z) :: mixR f a b := h
    rcases List.mem_cons.mp h with e | e
    · exact ⟨y, z, List.mem_cons_self, List.mem_cons_self, e⟩
    · obtain ⟨u, v, h1, h2, h3⟩ := mix_mem f a b x e
      exact ⟨u, v, List.mem_cons_of_mem _ h1, List.mem_cons_of_mem _ h2, h3⟩
theorem cd_clear {K j : Nat} {l r : List Rat} (hr : CD K r) (hl : CD K l) (lt : j < r.length) : CD (K + K + 1) (clear j l r) := by
  obtain ⟨d, d1, d2, d3⟩ := hr
  obtain ⟨e, e1, e2, e3⟩ := hl
  obtain ⟨m, m1, m2⟩ := d3 _ (getD_mem lt)
  have dz := rz d1
  have ez := rz e1
  refine ⟨d * e, Int.mul_ne_zero d1 e1, (d2.mul e2).mono (by omega), fun x hx => ?_⟩
  obtain ⟨u, v, hu, hv, rfl⟩ := mix_mem _ _ _ x hx
  obtain ⟨a, a1, a2⟩ := d3 u hu
  obtain ⟨b, b1, b2⟩ := e3 v hv
  refine ⟨a * e - m * b, ?_, (a2.mul e2).sub (m2.mul b2)⟩
  rw [a1, b1, m1, Rat.intCast_sub, Rat.intCast_mul, Rat.intCast_mul, Rat.intCast_mul]
  grind
end Vm
end
section
set_option Elab.async false
set_option linter.all false
set_option maxRecDepth 100000
namespace Vm
open PySem PySem.Spec L2
theorem frs_eqv : ∀ a b : List Rat, PyData.eqvAll (D.pyAll (frs a)) (D.pyAll (frs b)) = decide (a = b)
  | [], [] => rfl
  | [], y :: b => by rw [decide_eq_false (fun z => nomatch z)]; rfl
  | x :: a, [] => by rw [decide_eq_false (fun z => nomatch z)]; rfl
  | x :: a, y :: b => by
    show (PyData.eqv (fr x).py (fr y).py && PyData.eqvAll (D.pyAll (frs a)) (D.pyAll (frs b))) = _
    rw [frs_eqv a b, show PyData.eqv (fr x).py (fr y).py = decide (x = y) from fr_eqv x y]
    by_cases h : x = y
    · by_cases g : a = b
      · rw [decide_eq_true h, decide_eq_true g, decide_eq_true (by rw [h, g])]; rfl
      · rw [decide_eq_true h, decide_eq_false g, decide_eq_false (fun z => g (List.cons.inj z).2)]; rfl
    · rw [decide_eq_false h, decide_eq_false (fun z => h (List.cons.inj z).1)]; rfl
theorem row_eqv (a b : List Rat) : (D.tup (frs a)).eqv (.tup (frs b)) = decide (a = b) := frs_eqv a b
theorem rws_numAll {n K : Nat} (hK : K ≤ 1919) : ∀ rs : List (List Rat), Rws n K rs → D.numAll 3 (rws rs) = true
  | [], _ => rfl
  | r :: rs, h => by
    have e1 : (D.tup (frs r)).num 3 = true := frs_num (n := 1) (h r List.mem_cons_self).2.ht hK
    have e2 := rws_numAll hK rs (fun q hq => h q (List.mem_cons_of_mem _ hq))
    show ((D.tup (frs r)).num 3 && D.numAll 3 (rws rs)) = true
    rw [e1, e2]
    rfl
theorem rws_okEq {n K : Nat} {rs : List (List Rat)} (hK : K ≤ 1919) (h : Rws n K rs) : (D.lst (rws rs)).okEq = true := eq_ok_num (k := 4) (show D.numAll 3 (rws rs) = true from rws_numAll hK rs h) (by decide)
theorem row_okEq {K : Nat} {r : List Rat} (hK : K ≤ 1919) (h : HtA K r) : (D.tup (frs r)).okEq = true := eq_ok_num (k := 4) (show (D.tup (frs r)).num 4 = true from frs_num (n := 2) h hK) (by decide)
theorem map_er {α β : Type} (f : α → β) : ∀ (l : List α) (i : Nat), (l.map f).eraseIdx i = (l.eraseIdx i).map f
  | [], _ => rfl
  | _ :: _, 0 => rfl
  | x :: l, i + 1 => by
    show f x :: (l.map f).eraseIdx i = f x :: (l.eraseIdx i).map f
    rw [map_er f l i]
theorem rem_ok {n K : Nat} {ws : List (List Rat)} {r : List Rat} (hK : K ≤ 1919) (h : Rws n K ws) (hr : r ∈ ws) : ∃ i, ws[i]? = some r ∧ remL (rws ws) (.tup (frs r)) = .ok (rws (ws.eraseIdx i)) := by
  have e1 := row_okEq hK (h r hr).2.ht
  have e2 := rws_okEq hK h
  have fi : ∃ i, (rws ws).findIdx? (fun z => z.eqv (.tup (frs r))) = some i ∧ ws[i]? = some r := by
    cases hz : (rws ws).findIdx? (fun z => z.eqv (.tup (frs r))) with
    | none =>
      have := List.findIdx?_eq_none_iff.mp hz (.tup (frs r)) (List.mem_map.mpr ⟨r, hr, rfl⟩)
      rw [row_eqv, decide_eq_true rfl] at this
      cases this
    | some i =>
      refine ⟨i, rfl, ?_⟩
      obtain ⟨h1, h2, _⟩ := List.findIdx?_eq_some_iff_getElem.mp hz
      have lt : i < ws.length := by rw [rws_len] at h1; exact h1
      have e : (rws ws)[i] = .tup (frs ws[i]) := List.getElem_map _
      rw [e, row_eqv] at h2
      rw [List.getElem?_eq_getElem lt, of_decide_eq_true h2]
  obtain ⟨i, f1, f2⟩ := fi
  refine ⟨i, f2, ?_⟩
  have f3 : remD (rws ws) (.tup (frs r)) = some (rws (ws.eraseIdx i)) := by
    unfold remD
    rw [e1, e2]
    show ((rws ws).findIdx? (fun z => z.eqv (.tup (frs r)))).map _ = _
    rw [f1]
    show some ((rws ws).eraseIdx i) = _
    rw [show (rws ws).eraseIdx i = rws (ws.eraseIdx i) from map_er _ ws i]
  unfold remL
  rw [f3]
structure Elim (n K : Nat) (j : Nat) (ds ws : List (List Rat)) : Prop where
  dr : Rws n K ds
  wr : Rws n K ws
  wz : ∀ w ∈ ws, ∀ i, i < j → w.getD i 0 = 0
  dl : ∀ d ∈ ds, ∃ p, p < j ∧ d.getD p 0 = 1
  len : ds.length ≤ j
theorem map_getD (f : Rat → Rat) (r : List Rat) (i : Nat) (h : f 0 = 0) : (r.map f).getD i 0 = f (r.getD i 0) := by
  rw [List.getD_eq_getElem?_getD, List.getD_eq_getElem?_getD, List.getElem?_map]
  cases r[i]? with
  | none => exact h.symm
  | some x => rfl
theorem unit_len (j : Nat) (r : List Rat) : (unitR j r).length = r.length := List.length_map _
theorem unit_getD (j i : Nat) (r : List Rat) : (unitR j r).getD i 0 = r.getD i 0 / r.getD j 0 := map_getD (fun x => x / r.getD j 0) r i (by rw [Rat.div_def, Rat.zero_mul])
theorem clear_len {j n : Nat} {l r : List Rat} (h1 : r.length = n + 1) (h2 : l.length = n + 1) : (clear j l r).length = n + 1 := by
  unfold clear
  rw [mix_len, h1, h2]
  omega
theorem clear_getD {j i : Nat} {l r : List Rat} (h : r.length = l.length) : (clear j l r).getD i 0 = r.getD i 0 + -(r.getD j 0) * l.getD i 0 := mix_getD _ _ _ _ h
theorem Elim.go {n K j : Nat} {ds ws : List (List Rat)} (E : Elim n K j ds ws) (hj : j < n) (hn : n ≤ 100) (k1 : 1 ≤ K) (hK : K ≤ 900) (hl : ds.length ≤ 1000 ∧ ws.length ≤ 1000) :
    ∃ ds' ws', Elim n (K + K + 1) (j + 1) ds' ws' ∧ ws'.length ≤ ws.length ∧ ∀ rest : List D, f_law_solved_l1 (.int (j : Int) :: rest) (.lst (rws ds)) (rws ws) = f_law_solved_l1 rest (.lst (rws ds')) (rws ws') := by
  have up : ∀ {rs : List (List Rat)}, Rws n K rs → Rws n (K + K + 1) rs := fun h r hr => ⟨(h r hr).1, (h r hr).2.mono (by omega)⟩
  have c2 := fit_c (show K ≤ 1900 by omega) k1 hj ws E.wr
  have lw : (rws ws).length ≤ lineN := by rw [rws_len]; unfold lineN; omega
  have ld : (rws ds).length ≤ lineN := by rw [rws_len]; unfold lineN; omega
  cases hf : ws.filter (nzc j) with
  | nil =>
    rw [hf] at c2
    refine ⟨ds, ws, ⟨up E.dr, up E.wr, fun w hw i hi => ?_, fun d hd => ?_, Nat.le_succ_of_le E.len⟩, Nat.le_refl _, fun rest => ?_⟩
    · rcases Nat.lt_or_ge i j with c | c
      · exact E.wz w hw i c
      · have e : i = j := by omega
        subst e
        have := List.filter_eq_nil_iff.mp hf w hw
        unfold nzc at this
        cases z : decide (w.getD i 0 = 0) with
        | true => exact of_decide_eq_true z
        | false => rw [z] at this; exact absurd rfl this
    · obtain ⟨p, h1, h2⟩ := E.dl d hd
      exact ⟨p, by omega, h2⟩
    · have ne : prim .ne [.lst (rws []), .lst []] = .ok (.bl false) := ne_nil (l := rws []) (rws_okEq (rs := []) (n := n) (K := 1) (by decide) (fun _ h => absurd h List.not_mem_nil))
      conv => lhs; unfold f_law_solved_l1
      simp only [lcK_ok lw, c2, b_ok, ne, iteD_f]
  | cons r0 ms =>
    rw [hf] at c2
    have m0 : r0 ∈ ws := (List.mem_filter.mp (by rw [hf]; exact List.mem_cons_self)).1
    have nz0 : r0.getD j 0 ≠ 0 := by
      have := (List.mem_filter.mp (show r0 ∈ ws.filter (nzc j) by rw [hf]; exact List.mem_cons_self)).2
      unfold nzc at this
      cases z : decide (r0.getD j 0 = 0) with
      | true => rw [z] at this; cases this
      | false => exact of_decide_eq_false z
    obtain ⟨l0, cd0⟩ := E.wr r0 m0
    have lt0 : j < r0.length := by omega
    have cdu := cd_unit cd0 lt0 nz0
    have lenu : (unitR j r0).length = n + 1 := by rw [unit_len]; exact l0
    have u1 : (unitR j r0).getD j 0 = 1 := by
      rw [unit_getD, Rat.div_def, Rat.mul_inv_cancel _ nz0]
    have u0 : ∀ i, i < j → (unitR j r0).getD i 0 = 0 := fun i hi => by
      rw [unit_getD, E.wz r0 m0 i hi, Rat.div_def, Rat.zero_mul]
    obtain ⟨ix, i1, i2⟩ := rem_ok (show K ≤ 1919 by omega) E.wr m0
    have subw : ∀ w ∈ ws.eraseIdx ix, w ∈ ws := fun w hw => List.mem_of_mem_eraseIdx hw
    have wr' : Rws n K (ws.eraseIdx ix) := fun w hw => E.wr w (subw w hw)
    have len' : (ws.eraseIdx ix).length ≤ ws.length := List.length_eraseIdx_le _ _
    refine ⟨ds.map (clear j (unitR j r0)) ++ [unitR j r0], (ws.eraseIdx ix).map (clear j (unitR j r0)), ⟨fun r hr => ?_, fun r hr => ?_, fun w hw i hi => ?_, fun d hd => ?_, ?_⟩, by rw [List.length_map]; exact len', fun rest => ?_⟩
    · rcases List.mem_append.mp hr with h | h
      · obtain ⟨d, hd, rfl⟩ := List.mem_map.mp h
        obtain ⟨a1, a2⟩ := E.dr d hd
        exact ⟨clear_len a1 lenu, cd_clear a2 cdu (by omega)⟩
      · rw [List.mem_singleton.mp h]
        exact ⟨lenu, cdu.mono (by omega)⟩
    · obtain ⟨d, hd, rfl⟩ := List.mem_map.mp hr
      obtain ⟨a1, a2⟩ := wr' d hd
      exact ⟨clear_len a1 lenu, cd_clear a2 cdu (by omega)⟩
    · obtain ⟨d, hd, rfl⟩ := List.mem_map.mp hw
      obtain ⟨a1, a2⟩ := wr' d hd
      rw [clear_getD (by rw [a1, lenu])]
      rcases Nat.lt_or_ge i j with c | c
      · rw [E.wz d (subw d hd) i c, u0 i c, Rat.mul_zero, Rat.add_zero]
      · have e : i = j := by omega
        subst e
        rw [u1, Rat.mul_one, Rat.add_neg_cancel]
    · rcases List.mem_append.mp hd with h | h
      · obtain ⟨d0, hd0, rfl⟩ := List.mem_map.mp h
        obtain ⟨a1, a2⟩ := E.dr d0 hd0
        obtain ⟨p, p1, p2⟩ := E.dl d0 hd0
        refine ⟨p, by omega, ?_⟩
        rw [clear_getD (by rw [a1, lenu]), p2, u0 p p1, Rat.mul_zero, Rat.add_zero]
      · rw [List.mem_singleton.mp h]
        exact ⟨j, by omega, u1⟩
    · rw [List.length_append, List.length_map, List.length_singleton]
      have := E.len
      omega
    · have okd : (D.lst (rws (r0 :: ms))).okEq = true := rws_okEq (n := n) (K := K) (by omega) (fun r hr => E.wr r (List.mem_filter.mp (by rw [hf]; exact hr)).1)
      have ne : prim .ne [.lst (rws (r0 :: ms)), .lst []] = .ok (.bl true) := ne_nil okd
      have i0 : ixL (rws (r0 :: ms)) 0 = .ok (.tup (frs r0)) := ix_0 _ _
      have c3 := unit_c (n := n) (ms := ms) (show K ≤ 1900 by omega) l0 hj nz0 cd0.ht r0 cd0.ht
      have c4 := clear_c4 (n := n) (j := j) (show K ≤ 1800 by omega) cdu.ht hj (ws.eraseIdx ix) wr' hn
      have c5 := clear_c5 (n := n) (j := j) (show K ≤ 1800 by omega) cdu.ht hj ds E.dr hn
      have tl : ∀ l : List D, prim .tuple [.lst l] = .ok (.tup l) := fun _ => rfl
      have lr : (frs r0).length ≤ lineN := by rw [frs_len]; unfold lineN; omega
      have le : (rws (ws.eraseIdx ix)).length ≤ lineN := by rw [rws_len]; unfold lineN; omega
      have eu : frs (r0.map fun x => x / r0.getD j 0) = frs (unitR j r0) := rfl
      have ap : prim .add [.lst (rws (ds.map (clear j (unitR j r0)))), .lst [.tup (frs (unitR j r0))]] = .ok (.lst (rws (ds.map (clear j (unitR j r0)) ++ [unitR j r0]))) := by
        have e : rws (ds.map (clear j (unitR j r0)) ++ [unitR j r0]) = rws (ds.map (clear j (unitR j r0))) ++ [.tup (frs (unitR j r0))] := List.map_append
        rw [e]
        exact wr_l.h4 _ _ (by rw [rws_len, List.length_map, List.length_singleton]; unfold lineN; omega)
      conv => lhs; unfold f_law_solved_l1
      simp only [lcK_ok lw, c2, b_ok, ne, iteD_t, p_ix_l, i0, it_seq_t, lcK_ok lr, c3, eu, tl, i2, lcK_ok le, c4, it_seq_l, lcK_ok ld, c5, ap]
end Vm
end
section
set_option Elab.async false
set_option linter.all false
set_option maxRecDepth 100000
namespace Vm
open PySem PySem.Spec L2
def nzl (r : List Rat) : Bool := !decide (lastR r = 0)
structure Sol (n K : Nat) (eqs : List (List Rat)) : Prop where
  rw : Rws n K eqs
  len : eqs.length ≤ n
  ld : ∀ r ∈ eqs, ∃ p, p < n ∧ r.getD p 0 = 1
theorem Sol.mono {n K M : Nat} {eqs : List (List Rat)} (h : Sol n K eqs) (hk : K ≤ M) : Sol n M eqs := ⟨fun r hr => ⟨(h.rw r hr).1, (h.rw r hr).2.mono hk⟩, h.len, h.ld⟩
end Vm
end
section
set_option Elab.async false
set_option linter.all false
set_option maxRecDepth 100000
namespace Vm
open PySem PySem.Spec L2
def leadN (r : List Rat) : Nat := (lead r).getD 0
theorem leadGo_some : ∀ (k : Nat) (xs : List Rat) (i : Nat), xs.getD i 0 ≠ 0 → ∃ j, leadGo k xs = some j ∧ k ≤ j ∧ j < k + xs.length
  | k, [], i, h => absurd rfl h
  | k, x :: xs, 0, h => ⟨k, if_neg h, Nat.le_refl _, by rw [List.length_cons]; omega⟩
  | k, x :: xs, i + 1, h => by
    unfold leadGo
    by_cases c : x = 0
    · obtain ⟨j, e, h1, h2⟩ := leadGo_some (k + 1) xs i h
      rw [if_pos c]
      exact ⟨j, e, by omega, by rw [List.length_cons]; omega⟩
    · rw [if_neg c]
      exact ⟨k, rfl, Nat.le_refl _, by rw [List.length_cons]; omega⟩
theorem dropLast_getD {r : List Rat} {n i : Nat} (h : r.length = n + 1) (hi : i < n) : r.dropLast.getD i 0 = r.getD i 0 := by
  rw [List.getD_eq_getElem?_getD, List.getD_eq_getElem?_getD, List.dropLast_eq_take, List.getElem?_take]
  rw [if_pos (by omega)]
theorem Sol.lead {n K : Nat} {eqs : List (List Rat)} (S : Sol n K eqs) {r : List Rat} (hr : r ∈ eqs) : Vm.lead r = some (leadN r) ∧ leadN r < n := by
  obtain ⟨p, p1, p2⟩ := S.ld r hr
  have l := (S.rw r hr).1
  obtain ⟨j, e, _, h2⟩ := leadGo_some 0 r.dropLast p (by rw [dropLast_getD l p1, p2]; decide)
  have e' : Vm.lead r = some j := e
  rw [List.length_dropLast] at h2
  unfold leadN
  rw [e']
  exact ⟨rfl, by show j < n; omega⟩
section
variable {n K : Nat} {eqs : List (List Rat)} {vs : List Rat}
end
end Vm
end
section
set_option Elab.async false
set_option linter.all false
set_option maxRecDepth 100000
namespace Vm
open PySem PySem.Spec L2
end Vm
end
section
set_option Elab.async false
set_option linter.all false
set_option maxRecDepth 100000
namespace Vm
open PySem PySem.Spec L2
end Vm
end
section
set_option Elab.async false
set_option linter.all false
set_option maxRecDepth 100000
namespace Vm
open PySem PySem.Spec L2
theorem supply_c : ∀ ns : List Int, f_law_supply_c1 (ns.map D.int) = .ok ((ns.map fun i => if i < 0 then -i else i).map D.int)
  | [] => rfl
  | n :: ns => by
    show f_law_supply_c1 (.int n :: ns.map D.int) = _
    unfold f_law_supply_c1
    simp -implicitDefEqProofs only [b_ok, b_bad, nx_ok, iteD_t, iteD_f, un1_t, un2_t, un3_t, un4_t, asL_l, ownK_s, el_nx, el_rt, p_add_i, p_sub_i, p_neg_i, p_mul_i, p_fdiv_i, p_mod_i, p_ix_t, p_ix_l, p_lt_i, p_le_i, p_gt_i, p_ge_i, p_abs_i, p_not_b, p_len_t, p_len_l, p_eq_i, p_ne_i, ix_0, ix_1, ix_2, if_true, if_false, fls_iff, tru_iff, Bool.false_eq_true, Bool.true_eq_false, supply_c ns]
    rfl
theorem supply_l : ∀ (xs : List Int) (k : Nat) (ms : List Int), ms.length = 18 → (∀ n ∈ ms, 0 ≤ n) → ∃ ms' : List Int, f_law_supply_l1 (enumD k (xs.map D.int)) (ms.map D.int) = .ok (ms'.map D.int) ∧ ms'.length = 18 ∧ ∀ n ∈ ms', 0 ≤ n
  | [], k, ms, h1, h2 => ⟨ms, rfl, h1, h2⟩
  | x :: xs, k, ms, h1, h2 => by
    have lt : k % 18 < ms.length := by omega
    have e1 : (k : Int).fmod 18 = ((k % 18 : Nat) : Int) := by
      rw [Int.fmod_eq_emod_of_nonneg _ (by decide)]
      rfl
    have e2 : ixL (ms.map D.int) ((k % 18 : Nat) : Int) = .ok (.int ms[k % 18]) := ixl_nat (by rw [List.getElem?_map, List.getElem?_eq_getElem lt]; rfl)
    have e3 : ∀ v, setAt (ms.map D.int) (.int ((k % 18 : Nat) : Int)) v = .ok ((ms.map D.int).set (k % 18) v) := fun v => setAt_nat (by rw [List.length_map]; exact lt)
    have nz : ((18 : Int) ≠ 0) = True := eq_true (by decide)
    obtain ⟨ms', r, r1, r2⟩ := supply_l xs (k + 1) (ms.set (k % 18) (ms[k % 18] + if x < 0 then -x else x)) (by rw [List.length_set]; exact h1) (fun n hn => by
      rcases List.mem_or_eq_of_mem_set hn with h | h
      · exact h2 n h
      · rw [h]
        have a := h2 _ (List.getElem_mem lt)
        have b := abs_nn' x
        omega)
    rw [List.map_set] at r
    refine ⟨ms', ?_, r1, r2⟩
    show f_law_supply_l1 (.tup [.int (k : Int), .int x] :: enumD (k + 1) (xs.map D.int)) _ = _
    unfold f_law_supply_l1
    simp -implicitDefEqProofs only [b_ok, b_bad, nx_ok, iteD_t, iteD_f, un1_t, un2_t, un3_t, un4_t, asL_l, ownK_s, el_nx, el_rt, p_add_i, p_sub_i, p_neg_i, p_mul_i, p_fdiv_i, p_mod_i, p_ix_t, p_ix_l, p_lt_i, p_le_i, p_gt_i, p_ge_i, p_abs_i, p_not_b, p_len_t, p_len_l, p_eq_i, p_ne_i, ix_0, ix_1, ix_2, if_true, if_false, fls_iff, tru_iff, Bool.false_eq_true, Bool.true_eq_false, nz, e1, e2, e3, r]
theorem supply_ok {ns : List Int} (hl : ns.length ≤ 63) : ∃ l, f_law_supply (.scr ns) = .ok (.lst l) ∧ Sup 0 l := by
  let ms := (ns.take 18).map fun i => if i < 0 then -i else i
  have p1 : prim .slA [.scr ns, .int 18] = .ok (.lst ((ns.take 18).map D.int)) := by
    show R.ok (D.lst (cut (ns.map D.int) none (some ((18 : Nat) : Int)))) = _
    rw [cut_to, List.map_take]
  have p2 : prim .slC [.scr ns, .int 18, .int 63] = .ok (.lst (((ns.drop 18).take 45).map D.int)) := by
    show R.ok (D.lst (cut (ns.map D.int) (some ((18 : Nat) : Int)) (some ((63 : Nat) : Int)))) = _
    rw [cut_mid, List.map_take, List.map_drop]
  have len : ((ns.take 18).map D.int).length ≤ lineN := by
    rw [List.length_map, List.length_take]
    unfold lineN
    omega
  have nn : ∀ n ∈ ms, 0 ≤ n := fun n hn => by
    obtain ⟨x, _, rfl⟩ := List.mem_map.mp hn
    exact abs_nn' x
  have go : ∃ ms' : List Int, f_law_supply_l1 (enumD 0 (((ns.drop 18).take 45).map D.int)) (ms.map D.int) = .ok (ms'.map D.int) ∧ ms'.length ≤ 18 ∧ ∀ n ∈ ms', 0 ≤ n := by
    by_cases c : 18 ≤ ns.length
    · obtain ⟨ms', r, r1, r2⟩ := supply_l ((ns.drop 18).take 45) 0 ms (by
        show ((ns.take 18).map _).length = 18
        rw [List.length_map, List.length_take]; omega) nn
      exact ⟨ms', r, by omega, r2⟩
    · have e : ns.drop 18 = [] := List.drop_eq_nil_of_le (by omega)
      rw [e]
      refine ⟨ms, rfl, ?_, nn⟩
      show ((ns.take 18).map _).length ≤ 18
      rw [List.length_map, List.length_take]; omega
  obtain ⟨ms', r, r1, r2⟩ := go
  refine ⟨[.lst (ms'.map D.int), .int 0, .int 0], ?_, ms', 0, 0, rfl, r2, r1, Int.le_refl _, Int.le_refl _, Int.le_refl _⟩
  unfold f_law_supply
  simp only [p1, b_ok, it_seq_l, lcK_ok len, supply_c, p2, it_enum_l]
  rw [r]
  rfl
def sM : Int := 1000000000000000009
theorem blended_l {i : Int} (hi : Bd 200 i) : ∀ (ds : List Nat) (f : Int), (∀ n ∈ ds, n < 10) → 0 ≤ f → f < sM → ∃ f', f_law_blended_l1 (.int i) (.int sM) (ds.map fun (n : Nat) => .int (0 + (n : Int))) (.int f) = .ok (.int f') ∧ 0 ≤ f' ∧ f' < sM
  | [], f, _, h1, h2 => ⟨f, rfl, h1, h2⟩
  | n :: ds, f, hn, h1, h2 => by
    have hM : (0 : Int) < sM := by decide
    have nz : (sM ≠ 0) = True := eq_true (by decide)
    have bf : Bd 64 f := .of_lt h1 h2 (by decide)
    have m1 : mulOk f f = true := mulOk_bd bf bf
    have m2 : mulOk 4 f = true := mulOk_bd (k := 64) (by unfold Bd; decide) bf
    have m3 : mulOk 131 (0 + (n : Int)) = true := mulOk_bd (k := 64) (m := 64) (by unfold Bd; decide) (by
      have := hn n List.mem_cons_self
      unfold Bd
      have : (2 : Nat) ^ 64 > 10 := by decide
      omega)
    have r0 := fmod_pos (a := f * f + 4 * f + 131 * (0 + (n : Int)) + i) hM
    obtain ⟨f', r, r1, r2⟩ := blended_l hi ds _ (fun n hn' => hn n (List.mem_cons_of_mem _ hn')) r0.1 r0.2
    refine ⟨f', ?_, r1, r2⟩
    show f_law_blended_l1 (.int i) (.int sM) (.int (0 + (n : Int)) :: ds.map fun (n : Nat) => .int (0 + (n : Int))) (.int f) = _
    unfold f_law_blended_l1
    simp -implicitDefEqProofs only [b_ok, b_bad, nx_ok, iteD_t, iteD_f, un1_t, un2_t, un3_t, un4_t, asL_l, ownK_s, el_nx, el_rt, p_add_i, p_sub_i, p_neg_i, p_mul_i, p_fdiv_i, p_mod_i, p_ix_t, p_ix_l, p_lt_i, p_le_i, p_gt_i, p_ge_i, p_abs_i, p_not_b, p_len_t, p_len_l, p_eq_i, p_ne_i, ix_0, ix_1, ix_2, if_true, if_false, fls_iff, tru_iff, Bool.false_eq_true, Bool.true_eq_false, m1, m2, m3, nz, r]
theorem blended_ok {x i : Int} (hx : Bd 200 x) (hi : Bd 200 i) (hi0 : 0 ≤ i) : ∃ r : Int, f_law_blended (.int x) (.int i) = .ok (.int r) ∧ 0 ≤ r := by
  have hM : (0 : Int) < sM := by decide
  have nz : (sM ≠ 0) = True := eq_true (by decide)
  have m1 : mulOk x 2862933555777941757 = true := mulOk_bd (m := 64) hx (by unfold Bd; decide)
  have m2 : mulOk 3037000493 i = true := mulOk_bd (k := 64) (by unfold Bd; decide) hi
  have r0 := fmod_pos (a := x * 2862933555777941757 + 3037000493 * i + 17) hM
  obtain ⟨f, l1, hf1, hf2⟩ := blended_l hi (List.range 4) _ (fun n hn => by have := List.mem_range.mp hn; omega) r0.1 r0.2
  have bf : Bd 64 f := .of_lt hf1 hf2 (by decide)
  have m3 : mulOk f sM = true := mulOk_bd (m := 64) bf (by unfold Bd sM; decide)
  have m4 : mulOk f 69069 = true := mulOk_bd (m := 64) bf (by unfold Bd; decide)
  have r1 := fmod_pos (a := f * 69069 + i) hM
  have it : itR .rng1 [.int 4] = .ok (rngD 0 4) := it_rng (n := 4) (by decide)
  refine ⟨f * sM + (f * 69069 + i).fmod sM, ?_, Int.add_nonneg (Int.mul_nonneg hf1 (by decide)) r1.1⟩
  unfold f_law_blended
  have eM : D.int 1000000000000000009 = .int sM := rfl
  rw [eM]
  simp only [b_ok, p_mul_i, m1, m2, if_true, p_add_i, p_mod_i, nz, it]
  have l1' : f_law_blended_l1 (.int i) (.int sM) (rngD 0 4) (.int ((x * 2862933555777941757 + 3037000493 * i + 17).fmod sM)) = .ok (.int f) := l1
  simp only [l1', b_ok, p_mul_i, m3, m4, if_true, p_add_i, p_mod_i, nz]
theorem s3_1 (a b c v : D) : setAt [a, b, c] (.int 1) v = .ok [a, v, c] := setAt_ok (j := 1) rfl
theorem s3_2 (a b c v : D) : setAt [a, b, c] (.int 2) v = .ok [a, b, v] := setAt_ok (j := 2) rfl
theorem below2_ok {m : Nat} {l : List D} {b : Int} (sup : Sup m l) (hm : m < 2 ^ 60) (hb : 0 < b) (hb2 : Bd 8000 b) : ∃ (r : Int) (l' : List D), f_law_below_2 l (.int b) = .ok (.int r, l') ∧ 0 ≤ r ∧ r < b ∧ Sup (m + 1) l' := by
  obtain ⟨ns, ix, cur, rfl, h1, h2, h3, h4, h5⟩ := sup
  have nz : (b ≠ 0) = True := eq_true (by omega)
  have dv : divOk b = true := divOk_bd hb2 hb
  have two60 : ((2 ^ 60 : Nat) : Int) = 2 ^ 60 := by simp
  have hix : Bd 200 ix := .of_lt h3 (m := 2 ^ 60) (by omega) (by decide)
  unfold f_law_below_2
  by_cases c : cur < b
  · have key : ∀ v : Int, 0 ≤ v → ∃ (r : Int) (l' : List D), (R.ok (D.int (v.fmod b), [D.lst (ns.map D.int), .int (ix + 1), .int (v / b)]) : R (D × List D)) = .ok (.int r, l') ∧ 0 ≤ r ∧ r < b ∧ Sup (m + 1) l' := fun v hv => by
      have f := fmod_pos (a := v) hb
      have q : 0 ≤ v / b := Int.ediv_nonneg hv (by omega)
      exact ⟨_, _, rfl, f.1, f.2, ns, ix + 1, v / b, rfl, h1, h2, by omega, by omega, q⟩
    have ne : prim .ne [.lst (ns.map D.int), .lst []] = .ok (.bl (!(ns.map D.int).isEmpty)) := ne_nil (ints_okEq ns)
    have p18 : prim .pow [.int 10, .int 18] = .ok (.int (10 ^ (18 : Int).toNat)) := pow_i rfl
    have p15 : prim .pow [.int 10, .int 15] = .ok (.int (10 ^ (15 : Int).toNat)) := pow_i rfl
    have t15 : (10 : Int) ^ (15 : Int).toNat = 1000000000000000 := by rfl
    have nzP : ((10 : Int) ^ (15 : Int).toNat ≠ 0) = True := eq_true (by rw [t15]; decide)
    have lp : (0 : Int) < (((ns.map D.int).length : Nat) : Int) + 1 := by omega
    have dvl : divOk ((((ns.map D.int).length : Nat) : Int) + 1) = true := divOk_bd (k := 10) (by unfold Bd; rw [List.length_map]; have : (2 : Nat) ^ 10 = 1024 := rfl; omega) lp
    have q0 : 0 ≤ ix / ((((ns.map D.int).length : Nat) : Int) + 1) := Int.ediv_nonneg h3 (by omega)
    have q1 : ix / ((((ns.map D.int).length : Nat) : Int) + 1) ≤ ix := Int.ediv_le_self _ h3
    have bl : ∀ n : Int, ∃ r : Int, f_law_blended (.int (n.fmod (10 ^ (15 : Int).toNat) + ix / ((((ns.map D.int).length : Nat) : Int) + 1))) (.int ix) = .ok (.int r) ∧ 0 ≤ r := fun n => by
      have m15 := fmod_pos (a := n) (m := 10 ^ (15 : Int).toNat) (by rw [t15]; decide)
      exact blended_ok (.of_lt (by have := m15.1; omega) (m := 2 ^ 61) (by
        have h5 := m15.2
        rw [t15] at h5 ⊢
        have : ((2 ^ 60 : Nat) : Int) = 2 ^ 60 := by simp
        have : (2 : Int) ^ 61 = 2 * 2 ^ 60 := rfl
        omega) (by decide)) hix h3
    by_cases hns : ns = []
    · subst hns
      have ne' : prim .ne [.lst (([] : List Int).map D.int), .lst []] = .ok (.bl false) := ne
      obtain ⟨v, e, hv⟩ := bl 0
      obtain ⟨r, l', e2, h⟩ := key v hv
      refine ⟨r, l', ?_, h⟩
      rw [← e2]
      have g : decide ((0 : Int) < 10 ^ (18 : Int).toNat) = true := decide_eq_true (by decide)
      simp -implicitDefEqProofs only [b_ok, b_bad, nx_ok, iteD_t, iteD_f, un1_t, un2_t, un3_t, un4_t, asL_l, ownK_s, el_nx, el_rt, p_add_i, p_sub_i, p_neg_i, p_mul_i, p_fdiv_i, p_mod_i, p_ix_t, p_ix_l, p_lt_i, p_le_i, p_gt_i, p_ge_i, p_abs_i, p_not_b, p_len_t, p_len_l, p_eq_i, p_ne_i, ix_0, ix_1, ix_2, if_true, if_false, fls_iff, tru_iff, Bool.false_eq_true, Bool.true_eq_false, ix_3, decide_eq_true c, ne', p18, p15, g, nzP, dvl, e, s3_1, s3_2, nz, dv]
    · have ne' : prim .ne [.lst (ns.map D.int), .lst []] = .ok (.bl true) := by
        rw [ne]
        cases ns with
        | nil => exact absurd rfl hns
        | cons _ _ => rfl
      have hl : 0 < ns.length := List.length_pos_iff.mpr hns
      have hl2 : (0 : Int) < ((ns.map D.int).length : Int) := by rw [List.length_map]; omega
      have f := fmod_pos (a := ix) hl2
      have lt : (ix.fmod ((ns.map D.int).length : Int)).toNat < ns.length := by
        have h8 := f.2
        have h9 := f.1
        rw [List.length_map] at h8 h9 ⊢
        omega
      have nzl : ((((ns.map D.int).length : Nat) : Int) ≠ 0) = True := eq_true (by omega)
      have e : ixL (ns.map D.int) (ix.fmod ((ns.map D.int).length : Int)) = .ok (.int ns[(ix.fmod ((ns.map D.int).length : Int)).toNat]) := ix_nn f.1 (by rw [List.getElem?_map, List.getElem?_eq_getElem lt]; rfl)
      have hn := h1 _ (List.getElem_mem lt)
      generalize ns[(ix.fmod ((ns.map D.int).length : Int)).toNat] = n at e hn
      obtain ⟨v, e3, hv⟩ := bl n
      by_cases g2 : n < 10 ^ (18 : Int).toNat
      · obtain ⟨r, l', e2, h⟩ := key v hv
        refine ⟨r, l', ?_, h⟩
        rw [← e2]
        simp -implicitDefEqProofs only [b_ok, b_bad, nx_ok, iteD_t, iteD_f, un1_t, un2_t, un3_t, un4_t, asL_l, ownK_s, el_nx, el_rt, p_add_i, p_sub_i, p_neg_i, p_mul_i, p_fdiv_i, p_mod_i, p_ix_t, p_ix_l, p_lt_i, p_le_i, p_gt_i, p_ge_i, p_abs_i, p_not_b, p_len_t, p_len_l, p_eq_i, p_ne_i, ix_0, ix_1, ix_2, if_true, if_false, fls_iff, tru_iff, Bool.false_eq_true, Bool.true_eq_false, ix_3, decide_eq_true c, ne', nzl, e, p18, p15, decide_eq_true g2, nzP, dvl, e3, s3_1, s3_2, nz, dv]
      · by_cases g : (((ns.map D.int).length : Nat) : Int) ≤ ix
        · obtain ⟨r, l', e2, h⟩ := key v hv
          refine ⟨r, l', ?_, h⟩
          rw [← e2]
          simp -implicitDefEqProofs only [b_ok, b_bad, nx_ok, iteD_t, iteD_f, un1_t, un2_t, un3_t, un4_t, asL_l, ownK_s, el_nx, el_rt, p_add_i, p_sub_i, p_neg_i, p_mul_i, p_fdiv_i, p_mod_i, p_ix_t, p_ix_l, p_lt_i, p_le_i, p_gt_i, p_ge_i, p_abs_i, p_not_b, p_len_t, p_len_l, p_eq_i, p_ne_i, ix_0, ix_1, ix_2, if_true, if_false, fls_iff, tru_iff, Bool.false_eq_true, Bool.true_eq_false, ix_3, decide_eq_true c, ne', nzl, e, p18, p15, decide_eq_false g2, decide_eq_true g, nzP, dvl, e3, s3_1, s3_2, nz, dv]
        · obtain ⟨r, l', e2, h⟩ := key n hn
          refine ⟨r, l', ?_, h⟩
          rw [← e2]
          simp -implicitDefEqProofs only [b_ok, b_bad, nx_ok, iteD_t, iteD_f, un1_t, un2_t, un3_t, un4_t, asL_l, ownK_s, el_nx, el_rt, p_add_i, p_sub_i, p_neg_i, p_mul_i, p_fdiv_i, p_mod_i, p_ix_t, p_ix_l, p_lt_i, p_le_i, p_gt_i, p_ge_i, p_abs_i, p_not_b, p_len_t, p_len_l, p_eq_i, p_ne_i, ix_0, ix_1, ix_2, if_true, if_false, fls_iff, tru_iff, Bool.false_eq_true, Bool.true_eq_false, ix_3, decide_eq_true c, ne', nzl, e, p18, p15, decide_eq_false g2, decide_eq_false g, s3_1, s3_2, nz, dv]
  · have f := fmod_pos (a := cur) hb
    have q : 0 ≤ cur / b := Int.ediv_nonneg h5 (by omega)
    refine ⟨cur.fmod b, [.lst (ns.map D.int), .int ix, .int (cur / b)], ?_, f.1, f.2, ns, ix, _, rfl, h1, h2, h3, by omega, q⟩
    simp -implicitDefEqProofs only [b_ok, b_bad, nx_ok, iteD_t, iteD_f, un1_t, un2_t, un3_t, un4_t, asL_l, ownK_s, el_nx, el_rt, p_add_i, p_sub_i, p_neg_i, p_mul_i, p_fdiv_i, p_mod_i, p_ix_t, p_ix_l, p_lt_i, p_le_i, p_gt_i, p_ge_i, p_abs_i, p_not_b, p_len_t, p_len_l, p_eq_i, p_ne_i, ix_0, ix_1, ix_2, if_true, if_false, fls_iff, tru_iff, Bool.false_eq_true, Bool.true_eq_false, ix_3, decide_eq_false c, s3_1, s3_2, nz, dv]
theorem one_of_ok {m : Nat} {l ds : List D} (sup : Sup m l) (hm : m < 2 ^ 60) (hd : ds ≠ []) (hl : ds.length ≤ 1000) : ∃ (d : D) (l' : List D), d ∈ ds ∧ f_law_one_of l (.lst ds) = .ok (d, l') ∧ Sup (m + 1) l' := by
  have pos := List.length_pos_iff.mpr hd
  obtain ⟨r, l', e, r0, r1, s⟩ := below2_ok (b := (ds.length : Int)) sup hm (by omega) (.of_lt (by omega) (m := 1001) (by omega) (by
    have : (2 : Int) ^ 10 ≤ 2 ^ 8000 := two_le (by decide)
    have : (2 : Int) ^ 10 = 1024 := rfl
    omega))
  have lt : r.toNat < ds.length := by omega
  have e2 : ixL ds r = .ok ds[r.toNat] := ix_nn r0 (List.getElem?_eq_getElem lt)
  refine ⟨ds[r.toNat], l', List.getElem_mem lt, ?_, s⟩
  unfold f_law_one_of
  simp -implicitDefEqProofs only [b_ok, b_bad, nx_ok, iteD_t, iteD_f, un1_t, un2_t, un3_t, un4_t, asL_l, ownK_s, el_nx, el_rt, p_add_i, p_sub_i, p_neg_i, p_mul_i, p_fdiv_i, p_mod_i, p_ix_t, p_ix_l, p_lt_i, p_le_i, p_gt_i, p_ge_i, p_abs_i, p_not_b, p_len_t, p_len_l, p_eq_i, p_ne_i, ix_0, ix_1, ix_2, if_true, if_false, fls_iff, tru_iff, Bool.false_eq_true, Bool.true_eq_false, e, e2]
theorem lol : ∀ (K : Nat) (a b : Int), b.natAbs < K → ∃ x : Int, f_law_lowest_l1 K (.int a) (.int b) = .ok (.int x, .int 0) ∧ x.natAbs = a.gcd b ∧ (0 ≤ a → 0 ≤ b → 0 ≤ x)
  | 0, _, b, h => absurd h (Nat.not_lt_zero _)
  | K + 1, a, b, h => by
    unfold f_law_lowest_l1
    by_cases c : b = 0
    · subst c
      simp -implicitDefEqProofs only [b_ok, b_bad, nx_ok, iteD_t, iteD_f, un1_t, un2_t, un3_t, un4_t, asL_l, ownK_s, el_nx, el_rt, p_add_i, p_sub_i, p_neg_i, p_mul_i, p_fdiv_i, p_mod_i, p_ix_t, p_ix_l, p_lt_i, p_le_i, p_gt_i, p_ge_i, p_abs_i, p_not_b, p_len_t, p_len_l, p_eq_i, p_ne_i, ix_0, ix_1, ix_2, if_true, if_false, fls_iff, tru_iff, Bool.false_eq_true, Bool.true_eq_false, decide_eq_true (rfl : (0 : Int) = 0), Bool.not_true]
      exact ⟨a, rfl, by simp [Int.gcd], fun h _ => h⟩
    · obtain ⟨h1, h2, h3⟩ := fmod_step (a := a) c
      obtain ⟨x, e, g, p⟩ := lol K b (a.fmod b) (by omega)
      refine ⟨x, ?_, by rw [g, h2], fun h4 h5 => p h5 (h3 h4 h5)⟩
      have c2 : (b ≠ 0) = True := eq_true c
      simp -implicitDefEqProofs only [b_ok, b_bad, nx_ok, iteD_t, iteD_f, un1_t, un2_t, un3_t, un4_t, asL_l, ownK_s, el_nx, el_rt, p_add_i, p_sub_i, p_neg_i, p_mul_i, p_fdiv_i, p_mod_i, p_ix_t, p_ix_l, p_lt_i, p_le_i, p_gt_i, p_ge_i, p_abs_i, p_not_b, p_len_t, p_len_l, p_eq_i, p_ne_i, ix_0, ix_1, ix_2, if_true, if_false, fls_iff, tru_iff, Bool.false_eq_true, Bool.true_eq_false, decide_eq_false c, Bool.not_false, c2, e]
theorem lowest_ok {k : Nat} {p q : Int} (hq : q ≠ 0) (h1 : Bd k p) (h2 : Bd k q) (hk : k < 9000) : f_law_lowest (.int p) (.int q) = .ok (fr (Rat.divInt p q)) := by
  obtain ⟨g1, g2⟩ := gcd_bd (p := p) h2 hq
  obtain ⟨x, e, g, n⟩ := lol big (p.natAbs : Int) (q.natAbs : Int) (big_gt (k := k) (by rw [Int.natAbs_natCast]; exact h2) (by omega))
  have ex : x = ((p.gcd q : Nat) : Int) := by
    have z := n (by omega) (by omega)
    have e : Int.gcd (p.natAbs : Int) (q.natAbs : Int) = p.gcd q := by simp [Int.gcd]
    omega
  subst ex
  unfold f_law_lowest
  have dv : divOk ((p.gcd q : Nat) : Int) = true := divOk_bd g1 g2
  have s1 : mulOk (q.sign) p = true := mulOk_bd (k := 1) (m := k) (by unfold Bd; have := Int.natAbs_sign_of_ne_zero hq; omega) h1
  have dn : ((q.natAbs : Nat) : Int) / (p.gcd q : Nat) = (((Rat.divInt p q).den : Nat) : Int) := by
    rw [Rat.den_divInt, if_neg hq, Int.gcd_comm, Int.natCast_ediv]
  by_cases hs : 0 < q
  · have e2 : q.sign = 1 := Int.sign_eq_one_of_pos hs
    rw [e2] at s1
    simp -implicitDefEqProofs only [b_ok, b_bad, nx_ok, iteD_t, iteD_f, un1_t, un2_t, un3_t, un4_t, asL_l, ownK_s, el_nx, el_rt, p_add_i, p_sub_i, p_neg_i, p_mul_i, p_fdiv_i, p_mod_i, p_ix_t, p_ix_l, p_lt_i, p_le_i, p_gt_i, p_ge_i, p_abs_i, p_not_b, p_len_t, p_len_l, p_eq_i, p_ne_i, ix_0, ix_1, ix_2, if_true, if_false, fls_iff, tru_iff, Bool.false_eq_true, Bool.true_eq_false, abs_if, e, decide_eq_true hs, s1, dv]
    unfold fr
    rw [fr_num, e2, ← dn]
  · have e2 : q.sign = -1 := Int.sign_eq_neg_one_of_neg (by omega)
    rw [e2] at s1
    have z : (0 : Int) - 1 = -1 := rfl
    simp -implicitDefEqProofs only [b_ok, b_bad, nx_ok, iteD_t, iteD_f, un1_t, un2_t, un3_t, un4_t, asL_l, ownK_s, el_nx, el_rt, p_add_i, p_sub_i, p_neg_i, p_mul_i, p_fdiv_i, p_mod_i, p_ix_t, p_ix_l, p_lt_i, p_le_i, p_gt_i, p_ge_i, p_abs_i, p_not_b, p_len_t, p_len_l, p_eq_i, p_ne_i, ix_0, ix_1, ix_2, if_true, if_false, fls_iff, tru_iff, Bool.false_eq_true, Bool.true_eq_false, abs_if, e, decide_eq_false hs, z, s1, dv]
    unfold fr
    rw [fr_num, e2, ← dn]
section
variable {k : Nat} {a b : Rat}
end
theorem fraction2_ok {m k : Nat} {l : List D} {z : Int} (sup : Sup m l) (hm : m + 100 < 2 ^ 60) (h2 : 2 ≤ z) (hk : z ≤ 2 ^ k) (k3 : 3 ≤ k) (k4 : k ≤ 1000) : ∃ (q : Rat) (l' : List D), f_law_fraction l (.int z) = .ok (fr q, l') ∧ Ht k q ∧ Sup (m + 3) l' := by
  have p2 : ((2 ^ k : Nat) : Int) = 2 ^ k := by simp
  have p3 : 2 ^ (k + 1) = 2 * 2 ^ k := by rw [Nat.pow_succ]; omega
  have p8 : 8 ≤ 2 ^ k := Nat.le_trans (by decide : 8 ≤ 2 ^ 3) (Nat.pow_le_pow_right (by decide) k3)
  have m2 : mulOk 2 z = true := mulOk_bd (k := 2) (m := k + 1) (by unfold Bd; decide) (by unfold Bd; omega)
  obtain ⟨r, l1, e1, r0, r1, s1⟩ := below2_ok (b := 2 * z - 1) sup (by omega) (by omega) (Bd.mono (k := k + 1) (by unfold Bd; omega) (by omega))
  obtain ⟨d, l2, dm, e2, s2⟩ := one_of_ok (ds := [.int 1, .int 1, .int 4, .int (z - 1)]) s1 (by omega) (by simp) (by simp)
  have dv : ∃ b : Int, d = .int b ∧ 1 ≤ b ∧ b + 1 ≤ 2 ^ k := by
    simp only [List.mem_cons, List.not_mem_nil, or_false] at dm
    rcases dm with e | e | e | e
    · exact ⟨1, e, by omega, by omega⟩
    · exact ⟨1, e, by omega, by omega⟩
    · exact ⟨4, e, by omega, by omega⟩
    · exact ⟨z - 1, e, by omega, by omega⟩
  obtain ⟨b, rfl, hb, hb2⟩ := dv
  obtain ⟨c, l3, e3, c0, c1, s3⟩ := below2_ok (b := b) s2 (by omega) (by omega) (Bd.mono (k := k) (by unfold Bd; omega) (by omega))
  have b1 : Bd k (r - z + 1) := by unfold Bd; omega
  have b2 : Bd k (1 + c) := by unfold Bd; omega
  have e4 := lowest_ok (k := k) (p := r - z + 1) (q := 1 + c) (by omega) b1 b2 (by omega)
  refine ⟨Rat.divInt (r - z + 1) (1 + c), l3, ?_, .divInt (by omega) b1 b2, s3⟩
  unfold f_law_fraction
  simp -implicitDefEqProofs only [p_mul_i, m2, if_true, b_ok, p_sub_i, e1, p_add_i, e2, e3, e4]
end Vm
end
section
set_option Elab.async false
set_option linter.all false
set_option maxRecDepth 100000
namespace Vm
open PySem PySem.Spec L2
section
variable {k : Nat} {a b : Rat}
def absR (a : Rat) : Rat := if a.num < 0 then -a else a
theorem absR_ht (h : Ht k a) : Ht k (absR a) := by
  unfold absR
  split
  · exact h.neg
  · exact h
theorem fr_abs (a : Rat) : D.tup [.int (if a.num < 0 then -a.num else a.num), .int a.den] = fr (absR a) := by
  unfold absR
  by_cases c : a.num < 0
  · rw [if_pos c, if_pos c, fr_neg']
  · rw [if_neg c, if_neg c]
    rfl
theorem absolute_ok (a : Rat) : f_absolute (fr a) = .ok (fr (absR a)) := by
  show f_absolute (.tup [.int a.num, .int a.den]) = _
  unfold f_absolute
  simp -implicitDefEqProofs only [b_ok, b_bad, nx_ok, iteD_t, iteD_f, un1_t, un2_t, un3_t, un4_t, asL_l, ownK_s, el_nx, el_rt, p_add_i, p_sub_i, p_neg_i, p_mul_i, p_fdiv_i, p_mod_i, p_ix_t, p_ix_l, p_lt_i, p_le_i, p_gt_i, p_ge_i, p_abs_i, p_not_b, p_len_t, p_len_l, p_eq_i, p_ne_i, ix_0, ix_1, ix_2, if_true, if_false, fls_iff, tru_iff, Bool.false_eq_true, Bool.true_eq_false, fr_abs]
theorem int_b (b : Bool) : prim .int [.bl b] = .ok (.int (if b then 1 else 0)) := by cases b <;> rfl
def cmpI (x y : Int) : Int := (if decide (y < x) then 1 else 0) - (if decide (x < y) then 1 else 0)
theorem compare_ok (h : Ht k a) (g : Ht k b) (hk : k < 4000) : f_compare (fr a) (fr b) = .ok (.int (cmpI (a.num * b.den) (b.num * a.den))) := by
  have q1 : mulOk a.num b.den = true := mulOk_bd h.1 g.2
  have q2 : mulOk b.num a.den = true := mulOk_bd g.1 h.2
  show f_compare (.tup [.int a.num, .int a.den]) (.tup [.int b.num, .int b.den]) = _
  unfold f_compare
  simp -implicitDefEqProofs only [b_ok, b_bad, nx_ok, iteD_t, iteD_f, un1_t, un2_t, un3_t, un4_t, asL_l, ownK_s, el_nx, el_rt, p_add_i, p_sub_i, p_neg_i, p_mul_i, p_fdiv_i, p_mod_i, p_ix_t, p_ix_l, p_lt_i, p_le_i, p_gt_i, p_ge_i, p_abs_i, p_not_b, p_len_t, p_len_l, p_eq_i, p_ne_i, ix_0, ix_1, ix_2, if_true, if_false, fls_iff, tru_iff, Bool.false_eq_true, Bool.true_eq_false, q1, q2, int_b]
  rfl
end
end Vm
end
section
set_option Elab.async false
set_option linter.all false
set_option maxRecDepth 100000
namespace Vm
open PySem PySem.Spec L2
abbrev tx (l : List Nat) : D := .str (SX.S l)
def numI (i : Int) : List Nat := if i < 0 then 45 :: TL.numL i.natAbs else TL.numL i.natAbs
theorem str_nat (n : Nat) : Str.ofString (toString (n : Int)) = SX.S (TL.numL n) := SX.num_S n
theorem str_int (i : Int) : Str.ofString (toString i) = SX.S (numI i) := by
  unfold numI
  by_cases h : i < 0
  · rw [if_pos h]
    obtain ⟨n, rfl⟩ : ∃ n : Nat, i = Int.negSucc n := ⟨i.natAbs - 1, by omega⟩
    have e : (Int.negSucc n).natAbs = n + 1 := rfl
    rw [e]
    have t := TL.tl_num (n + 1)
    refine TL.ext_tl ?_
    have s : toString (Int.negSucc n) = "-" ++ toString ((n + 1 : Nat) : Int) := rfl
    rw [s, TL.tl_ofString, String.toList_append, List.map_append, ← TL.tl_ofString (toString ((n + 1 : Nat) : Int)), t]
    rfl
  · rw [if_neg h]
    obtain ⟨n, rfl⟩ : ∃ n : Nat, i = (n : Int) := ⟨i.natAbs, by omega⟩
    rw [str_nat, Int.natAbs_natCast]
theorem len_S (l : List Nat) : (SX.S l).length = l.length := SX.S_len l
def fracT (q : Rat) : List Nat := if (q.den : Int) = 1 then numI q.num else numI q.num ++ (47 :: TL.numL q.den)
theorem numI_len {i : Int} (h : i.natAbs < 10 ^ 30) : (numI i).length ≤ 31 := by
  have := TL.numL_len (k := 30) (by decide) h
  unfold numI
  split
  · rw [List.length_cons]; omega
  · omega
theorem line_big : 1000 ≤ sizeLine := by
  rw [sizeLine_eq]
  decide
theorem fmt_ok {i : Int} {n : Nat} (hi : i.natAbs < 10 ^ 30) (hn : n < 10 ^ 30) : prim .fmt [.int i, .str "/", .int (n : Int)] = .ok (tx (numI i ++ (47 :: TL.numL n))) := by
  have l1 := numI_len hi
  have l2 := TL.numL_len (k := 30) (by decide) hn
  have b := line_big
  have e1 := str_int i
  have e2 := str_nat n
  have lg : ∀ m : Nat, m < 10 ^ 30 → m.log2 < 1920 := fun m h => by
    by_cases z : m = 0
    · subst z; decide
    · exact (Nat.log2_lt z).mpr (Nat.lt_trans h (by decide +kernel))
  have z0 : (Str.empty ++ Str.ofString (toString i)) = SX.S (numI i) := by
    rw [e1]
    exact SX.S_cat [] (numI i)
  have z1 : (SX.S (numI i) ++ ("/" : Str)) = SX.S (numI i ++ [47]) := SX.S_cat (numI i) [47]
  have z2 : (SX.S (numI i ++ [47]) ++ Str.ofString (toString (n : Int))) = SX.S (numI i ++ (47 :: TL.numL n)) := by
    rw [e2]
    refine (SX.S_cat (numI i ++ [47]) (TL.numL n)).trans ?_
    rw [List.append_assoc]
    rfl
  have c1 : i.natAbs.log2 < 1920 ∧ (Str.empty ++ Str.ofString (toString i)).length ≤ sizeLine := ⟨lg _ hi, by rw [z0, len_S]; omega⟩
  have c2 : ("/" : Str).length ≤ sizeLine ∧ (SX.S (numI i) ++ ("/" : Str)).length ≤ sizeLine := ⟨by
    have : ("/" : Str).length = 1 := rfl
    omega, by rw [z1, len_S, List.length_append]; show (numI i).length + 1 ≤ _; omega⟩
  have c3 : (n : Int).natAbs.log2 < 1920 ∧ (SX.S (numI i ++ [47]) ++ Str.ofString (toString (n : Int))).length ≤ sizeLine := ⟨by rw [Int.natAbs_natCast]; exact lg _ hn, by rw [z2, len_S, List.length_append, List.length_cons]; omega⟩
  have g : fmtGo Str.empty [.int i, .str "/", .int (n : Int)] = some (SX.S (numI i ++ (47 :: TL.numL n))) := by
    have s1 : fmtGo Str.empty [.int i, .str "/", .int (n : Int)] = fmtGo (Str.empty ++ Str.ofString (toString i)) [.str "/", .int (n : Int)] := if_pos c1
    rw [s1, z0]
    have s2 : fmtGo (SX.S (numI i)) [.str "/", .int (n : Int)] = fmtGo (SX.S (numI i) ++ ("/" : Str)) [.int (n : Int)] := if_pos c2
    rw [s2, z1]
    have s3 : fmtGo (SX.S (numI i ++ [47])) [.int (n : Int)] = fmtGo (SX.S (numI i ++ [47]) ++ Str.ofString (toString (n : Int))) [] := if_pos c3
    rw [s3, z2]
    rfl
  show p_fmt _ = _
  unfold p_fmt
  rw [g]
theorem stri_i {i : Int} (h : i.natAbs < 10 ^ 30) : prim .stri [.int i] = .ok (tx (numI i)) := by
  have c : i.natAbs.log2 < 1920 := by
    by_cases z : i.natAbs = 0
    · rw [z]; decide
    · exact (Nat.log2_lt z).mpr (Nat.lt_trans h (by decide +kernel))
  show (if i.natAbs.log2 < 1920 then R.ok (D.str (Str.ofString (toString i))) else .bad) = _
  rw [if_pos c, str_int]
theorem format_ok {q : Rat} (h1 : q.num.natAbs < 10 ^ 30) (h2 : q.den < 10 ^ 30) : f_format_fraction (fr q) = .ok (tx (fracT q)) := by
  have i0 : prim .ix [fr q, .int 0] = .ok (.int q.num) := (p_ix_t _ _).trans (ix_0 _ _)
  have i1 : prim .ix [fr q, .int 1] = .ok (.int q.den) := (p_ix_t _ _).trans (ix_1 _ _ _)
  have f := fmt_ok h1 h2
  have s := stri_i h1
  unfold f_format_fraction fracT
  by_cases c : (q.den : Int) = 1
  · rw [if_pos c]
    simp -implicitDefEqProofs only [i1, b_ok, p_eq_i, decide_eq_true c, iteD_t, i0, s]
  · rw [if_neg c]
    simp -implicitDefEqProofs only [i1, b_ok, p_eq_i, decide_eq_false c, iteD_f, i0, f]
theorem digits_D : (Str.ofString "0123456789").cps.toList = [48, 49, 50, 51, 52, 53, 54, 55, 56, 57] := by decide
theorem inn_digit {c : Nat} (h : 48 ≤ c ∧ c ≤ 57) : prim .inn [chrD c, .str "0123456789"] = .ok (.bl true) := by
  show R.ok (D.bl (decide (c ∈ (Str.ofString "0123456789").cps.toList))) = _
  rw [digits_D, decide_eq_true]
  simp only [List.mem_cons, List.not_mem_nil, or_false]
  omega
theorem pi_c : ∀ a : List Nat, NumText.AllDigits a → f_parse_integer_c1 (a.map chrD) = .ok (List.replicate a.length (.bl true))
  | [], _ => rfl
  | c :: a, h => by
    have ih := pi_c a (fun x hx => h x (List.mem_cons_of_mem _ hx))
    have e := inn_digit (h c List.mem_cons_self)
    show f_parse_integer_c1 (chrD c :: a.map chrD) = _
    unfold f_parse_integer_c1
    simp -implicitDefEqProofs only [e, b_ok, ih]
    rfl
theorem bools_rep : ∀ n : Nat, boolsD (List.replicate n (.bl true)) = some (List.replicate n true)
  | 0 => rfl
  | n + 1 => by
    show (boolsD (List.replicate n (.bl true))).map (true :: ·) = _
    rw [bools_rep n]
    rfl
theorem all_rep (n : Nat) : prim .all [.lst (List.replicate n (.bl true))] = .ok (.bl true) := by
  show (match boolsD (List.replicate n (.bl true)) with
    | some bs => R.ok (D.bl (bs.all id))
    | none => .bad) = _
  rw [bools_rep]
  show R.ok (D.bl ((List.replicate n true).all id)) = _
  congr 2
  rw [List.all_eq_true]
  intro x hx
  rw [(List.mem_replicate.mp hx).2]
  rfl
theorem numL_head : ∀ n : Nat, 1 ≤ n → ∃ c r, TL.numL n = c :: r ∧ 49 ≤ c := fun n => by
  induction n using Nat.strongRecOn with
  | _ n ih =>
    intro h
    by_cases l : n < 10
    · exact ⟨48 + n, [], TL.numL_lt l, by omega⟩
    · obtain ⟨c, r, e, hc⟩ := ih (n / 10) (by omega) (by omega)
      exact ⟨c, r ++ [48 + n % 10], by rw [TL.numL_step (by omega), e]; rfl, hc⟩
theorem eq_tx (a b : List Nat) : prim .eq [tx a, tx b] = .ok (.bl (decide (a = b))) := by
  show R.ok (D.bl (decide (SX.S a = SX.S b))) = _
  congr 2
  by_cases h : a = b
  · rw [decide_eq_true h, decide_eq_true (by rw [h])]
  · rw [decide_eq_false h, decide_eq_false (fun z => h (SX.S_inj z))]
theorem ne_tx (a b : List Nat) : prim .ne [tx a, tx b] = .ok (.bl (!decide (a = b))) := by
  show R.ok (D.bl (!decide (SX.S a = SX.S b))) = _
  congr 2
  by_cases h : a = b
  · rw [decide_eq_true h, decide_eq_true (by rw [h])]
  · rw [decide_eq_false h, decide_eq_false (fun z => h (SX.S_inj z))]
theorem parse_int {n : Nat} (h : n < 10 ^ 30) : f_parse_integer (tx (TL.numL n)) = .ok (.int (n : Int)) := by
  have l := TL.numL_len (k := 30) (by decide) h
  have ne := TL.numL_ne n
  have pos := List.length_pos_iff.mpr ne
  have b := line_big
  have ln : prim .len [tx (TL.numL n)] = .ok (.int ((TL.numL n).length : Int)) := by
    show (if (SX.S (TL.numL n)).length ≤ sizeLine then R.ok (D.int ((SX.S (TL.numL n)).length : Int)) else .bad) = _
    rw [len_S, if_pos (by omega)]
  have it : itR .seq [tx (TL.numL n)] = .ok ((TL.numL n).map chrD) := rfl
  have c1 := pi_c (TL.numL n) (TL.numL_digits n)
  have lc : ((TL.numL n).map chrD).length ≤ lineN := by rw [List.length_map]; unfold lineN; omega
  have al := all_rep (TL.numL n).length
  have p1 : decide ((0 : Int) < ((TL.numL n).length : Int)) = true := decide_eq_true (by omega)
  have p2 : decide (((TL.numL n).length : Int) ≤ 30) = true := decide_eq_true (by omega)
  have it2 : prim .int [tx (TL.numL n)] = .ok (.int (n : Int)) := by
    have v := TL.int_num (n := n) (by omega)
    rw [str_nat] at v
    show (if (SX.S (TL.numL n)).length ≤ 640 then (match PySem.intText? (SX.S (TL.numL n)) with
      | some n => R.ok (D.int n)
      | none => .bad) else .bad) = _
    rw [len_S, if_pos (by omega), v]
  unfold f_parse_integer
  by_cases c : 1 < (TL.numL n).length
  · have p3 : decide ((1 : Int) < ((TL.numL n).length : Int)) = true := decide_eq_true (by omega)
    have n1 : 1 ≤ n := by
      refine Nat.pos_of_ne_zero fun z => ?_
      subst z
      rw [TL.numL_lt (by decide)] at c
      exact absurd c (by decide)
    obtain ⟨d, r, e, hd⟩ := numL_head n n1
    have ix : prim .ix [tx (TL.numL n), .int 0] = .ok (tx [d]) := by
      show (if (SX.S (TL.numL n)).length ≤ sizeLine then (match atI (TL.numL n) 0 with
        | some c => R.ok (chrD c)
        | none => .bad) else .bad) = _
      have at0 : atI (d :: r) 0 = some d := by
        have z : ixN (d :: r).length ((0 : Nat) : Int) = some 0 := ixn_nat (Nat.succ_pos _)
        show (ixN (d :: r).length ((0 : Nat) : Int)).bind (fun j => (d :: r)[j]?) = _
        rw [z]
        rfl
      rw [len_S, if_pos (by omega), e, at0]
      rfl
    have z : prim .eq [tx [d], .str "0"] = .ok (.bl false) := by
      have := eq_tx [d] [48]
      rw [decide_eq_false (fun z => by injection z with z; omega)] at this
      exact this
    simp -implicitDefEqProofs only [ln, b_ok, p_lt_i, p1, iteD_t, p_le_i, p2, p_not_b, Bool.not_true, iteD_f, it, lcK_ok lc, c1, al, p_gt_i, p3, ix, z, it2]
  · have p3 : decide ((1 : Int) < ((TL.numL n).length : Int)) = false := decide_eq_false (by omega)
    simp -implicitDefEqProofs only [ln, b_ok, p_lt_i, p1, iteD_t, p_le_i, p2, p_not_b, Bool.not_true, iteD_f, it, lcK_ok lc, c1, al, p_gt_i, p3, it2]
theorem slA_1 (a : List Nat) (h : a.length ≤ 1000) : prim .slA [tx a, .int 1] = .ok (tx (a.take 1)) := by
  have b := line_big
  show (if (SX.S a).length ≤ sizeLine then R.ok (D.str (cutS (SX.S a) none (some 1))) else .bad) = _
  rw [if_pos (by rw [len_S]; omega)]
  congr 2
  unfold cutS
  rw [len_S]
  have e1 : HT.sIx a.length 0 none = 0 := rfl
  have e2 : HT.sIx a.length a.length (some 1) = min 1 a.length := HT.sIx_nat _ _ 1
  rw [e1, e2, Nat.sub_zero]
  show SX.S ((a.drop 0).take (min 1 a.length)) = SX.S (a.take 1)
  rw [List.drop_zero]
  cases a with
  | nil => rfl
  | cons c r =>
    rw [Nat.min_eq_left (by rw [List.length_cons]; omega)]
theorem slB_1 (a : List Nat) (h : a.length ≤ 1000) : prim .slB [tx a, .int 1] = .ok (tx (a.drop 1)) := by
  have b := line_big
  show (if (SX.S a).length ≤ sizeLine then R.ok (D.str (cutS (SX.S a) (some 1) none)) else .bad) = _
  rw [if_pos (by rw [len_S]; omega)]
  congr 2
  unfold cutS
  rw [len_S]
  have e1 : HT.sIx a.length a.length none = a.length := rfl
  have e2 : HT.sIx a.length 0 (some 1) = min 1 a.length := HT.sIx_nat _ _ 1
  rw [e1, e2]
  show SX.S ((a.drop (min 1 a.length)).take (a.length - min 1 a.length)) = SX.S (a.drop 1)
  cases a with
  | nil => rfl
  | cons c r =>
    rw [Nat.min_eq_left (by rw [List.length_cons]; omega), List.take_of_length_le (by rw [List.length_drop]; exact Nat.le_refl _)]
theorem part_yes (m n : Nat) (h : (TL.numL m).length ≤ 500) (g : (TL.numL n).length ≤ 400) : prim (.part "/") [tx (TL.numL m ++ (47 :: TL.numL n))] = .ok (.tup [tx (TL.numL m), .str "/", tx (TL.numL n)]) := by
  have b := line_big
  have c : ((("/" : Str).length == 0) = false) ∧ (SX.S (TL.numL m ++ (47 :: TL.numL n))).length ≤ sizeLine := ⟨rfl, by rw [len_S, List.length_append, List.length_cons]; omega⟩
  have p := SX.partition_some (a := TL.numL m ++ (47 :: TL.numL n)) (b := [47]) (by simp) (SX.par_head (c := 47) (sep := []) (TL.numL n) (TL.numL_free (.inl (by decide))))
  have p : Txt.partition (SX.S (TL.numL m ++ (47 :: TL.numL n))) "/" = (SX.S (TL.numL m), SX.S [47], SX.S (TL.numL n)) := p
  show (if _ then R.ok (D.tup [.str (Txt.partition (SX.S (TL.numL m ++ (47 :: TL.numL n))) "/").1, .str (Txt.partition (SX.S (TL.numL m ++ (47 :: TL.numL n))) "/").2.1, .str (Txt.partition (SX.S (TL.numL m ++ (47 :: TL.numL n))) "/").2.2]) else .bad) = _
  rw [if_pos c, p]
  rfl
theorem part_no (m : Nat) (h : (TL.numL m).length ≤ 500) : prim (.part "/") [tx (TL.numL m)] = .ok (.tup [tx (TL.numL m), .str "", .str ""]) := by
  have b := line_big
  have c : ((("/" : Str).length == 0) = false) ∧ (SX.S (TL.numL m)).length ≤ sizeLine := ⟨rfl, by rw [len_S]; omega⟩
  have p := SX.partition_none (a := TL.numL m) (b := [47]) (by simp) (SX.par_head_none (c := 47) (sep := []) (TL.numL_free (.inl (by decide))))
  have p : Txt.partition (SX.S (TL.numL m)) "/" = (SX.S (TL.numL m), SX.S [], SX.S []) := p
  show (if _ then R.ok (D.tup [.str (Txt.partition (SX.S (TL.numL m)) "/").1, .str (Txt.partition (SX.S (TL.numL m)) "/").2.1, .str (Txt.partition (SX.S (TL.numL m)) "/").2.2]) else .bad) = _
  rw [if_pos c, p]
  rfl
theorem isint (i : Int) : f_is_integer (.int i) = .ok (.bl true) := by
  have a : prim (.isi .int) [.int i] = .ok (.bl true) := rfl
  have b : prim (.isi .bool) [.int i] = .ok (.bl false) := rfl
  unfold f_is_integer
  simp -implicitDefEqProofs only [a, b_ok, iteD_t, b, p_not_b, Bool.not_false]
theorem isfrac {k : Nat} {q : Rat} (h : Ht k q) (hk : k < 9000) : f_is_fraction (fr q) = .ok (.bl true) := by
  have a : prim (.isi .tuple) [fr q] = .ok (.bl true) := rfl
  have ln : prim .len [fr q] = .ok (.int 2) := rfl
  have ne : prim .ne [.int 2, .int 2] = .ok (.bl false) := rfl
  have it : itR .seq [fr q] = .ok [.int q.num, .int q.den] := rfl
  have lc : [D.int q.num, D.int q.den].length ≤ lineN := by
    show 2 ≤ lineN
    unfold lineN
    omega
  have e0 : f_is_fraction_c1 [] = .ok [] := rfl
  have c1 : f_is_fraction_c1 [.int q.num, .int q.den] = .ok [.bl true, .bl true] := by
    unfold f_is_fraction_c1
    unfold f_is_fraction_c1
    simp -implicitDefEqProofs only [isint, nx_ok, b_ok, e0]
  have al : prim .all [.lst [.bl true, .bl true]] = .ok (.bl true) := rfl
  have i0 : prim .ix [fr q, .int 0] = .ok (.int q.num) := (p_ix_t _ _).trans (ix_0 _ _)
  have i1 : prim .ix [fr q, .int 1] = .ok (.int q.den) := (p_ix_t _ _).trans (ix_1 _ _ _)
  have dp := q.den_pos
  have gt : decide ((0 : Int) < (q.den : Int)) = true := decide_eq_true (by omega)
  have gc : q.num.gcd q.den = 1 := by
    have r := q.reduced
    show Nat.gcd q.num.natAbs ((q.den : Int)).natAbs = 1
    rw [Int.natAbs_natCast]
    exact r
  obtain ⟨x, e, g, _⟩ := cdl big q.num q.den (big_gt (k := k) h.2 (by omega))
  have cd : f_common_divisor (.int q.num) (.int q.den) = .ok (.int 1) := by
    unfold f_common_divisor
    simp -implicitDefEqProofs only [b_ok, b_bad, nx_ok, iteD_t, iteD_f, un1_t, un2_t, un3_t, un4_t, asL_l, ownK_s, el_nx, el_rt, p_add_i, p_sub_i, p_neg_i, p_mul_i, p_fdiv_i, p_mod_i, p_ix_t, p_ix_l, p_lt_i, p_le_i, p_gt_i, p_ge_i, p_abs_i, p_not_b, p_len_t, p_len_l, p_eq_i, p_ne_i, ix_0, ix_1, ix_2, if_true, if_false, fls_iff, tru_iff, Bool.false_eq_true, Bool.true_eq_false, e, abs_if, g, gc]
    rfl
  have e1 : prim .eq [.int 1, .int 1] = .ok (.bl true) := rfl
  unfold f_is_fraction
  simp -implicitDefEqProofs only [a, b_ok, p_not_b, Bool.not_true, iteD_f, ln, ne, it, lcK_ok lc, c1, al, i0, i1, p_gt_i, gt, iteD_t, cd, e1]
theorem parse_ok {q : Rat} (h1 : q.num.natAbs < 10 ^ 30) (h2 : q.den < 10 ^ 30) : f_parse_fraction (tx (fracT q)) = .ok (fr q) := by
  have hq : Ht 100 q := ⟨Nat.lt_trans h1 (by decide +kernel), Nat.lt_trans (by rw [Int.natAbs_natCast]; exact h2) (by decide +kernel)⟩
  have l1 := TL.numL_len (k := 30) (by decide) h1
  have l2 := TL.numL_len (k := 30) (by decide) h2
  have isf := isfrac hq (by omega)
  have fm := format_ok h1 h2
  have ne := ne_tx (fracT q) (fracT q)
  rw [decide_eq_true rfl] at ne
  have p1 := parse_int h1
  have p2 := parse_int h2
  have u2 : ∀ (a b : D) (f : D → D → Vm.R D), un2 (.tup [a, b]) f = f a b := fun _ _ _ => rfl
  have u3 : ∀ (a b c : D) (f : D → D → D → Vm.R D), un3 (.tup [a, b, c]) f = f a b c := fun _ _ _ _ => rfl
  have nes : prim .ne [.str "/", .str ""] = .ok (.bl true) := ne_tx [47] []
  have nee : prim .ne [.str "", .str ""] = .ok (.bl false) := ne_tx [] []
  have cons_ne : ∀ n : Nat, (TL.numL n).take 1 ≠ [45] := fun n z => by
    have : (45 : Nat) ∈ TL.numL n := List.mem_of_mem_take (i := 1) (by rw [z]; exact List.mem_cons_self)
    have := TL.numL_digits n 45 this
    omega
  have m1 : mulOk 1 (q.num.natAbs : Int) = true := mulOk_bd (k := 1) (m := 100) (by unfold Bd; decide) (by unfold Bd; rw [Int.natAbs_natCast]; exact hq.1)
  have m2 : mulOk (-1) (q.num.natAbs : Int) = true := mulOk_bd (k := 1) (m := 100) (by unfold Bd; decide) (by unfold Bd; rw [Int.natAbs_natCast]; exact hq.1)
  have qe : D.tup [.int q.num, .int (q.den : Int)] = fr q := rfl
  by_cases neg : q.num < 0
  · have ni : numI q.num = 45 :: TL.numL q.num.natAbs := if_pos neg
    have ev : (-1 : Int) * (q.num.natAbs : Int) = q.num := by omega
    by_cases c : (q.den : Int) = 1
    · have ft : fracT q = 45 :: TL.numL q.num.natAbs := by unfold fracT; rw [if_pos c, ni]
      have s1 := slA_1 (fracT q) (by rw [ft, List.length_cons]; omega)
      have s2 := slB_1 (fracT q) (by rw [ft, List.length_cons]; omega)
      have e1 : prim .eq [tx ((fracT q).take 1), .str "-"] = .ok (.bl true) := by
        have := eq_tx ((fracT q).take 1) [45]
        rw [ft] at this ⊢
        exact this
      have d1 : (fracT q).drop 1 = TL.numL q.num.natAbs := by rw [ft]; rfl
      rw [d1] at s2
      have pt := part_no q.num.natAbs (by omega)
      have qe1 : D.tup [.int q.num, .int 1] = fr q := by rw [← qe, c]
      unfold f_parse_fraction
      simp -implicitDefEqProofs only [s1, b_ok, e1, iteD_t, p_neg_i, s2, u2, pt, u3, p1, p_mul_i, m2, if_true, ev, nee, iteD_f, qe1, isf, p_not_b, Bool.not_true, fm, ne]
    · have ft : fracT q = 45 :: (TL.numL q.num.natAbs ++ (47 :: TL.numL q.den)) := by unfold fracT; rw [if_neg c, ni]; rfl
      have s1 := slA_1 (fracT q) (by rw [ft, List.length_cons, List.length_append, List.length_cons]; omega)
      have s2 := slB_1 (fracT q) (by rw [ft, List.length_cons, List.length_append, List.length_cons]; omega)
      have e1 : prim .eq [tx ((fracT q).take 1), .str "-"] = .ok (.bl true) := by
        have := eq_tx ((fracT q).take 1) [45]
        rw [ft] at this ⊢
        exact this
      have d1 : (fracT q).drop 1 = TL.numL q.num.natAbs ++ (47 :: TL.numL q.den) := by rw [ft]; rfl
      rw [d1] at s2
      have pt := part_yes q.num.natAbs q.den (by omega) (by omega)
      unfold f_parse_fraction
      simp -implicitDefEqProofs only [s1, b_ok, e1, iteD_t, p_neg_i, s2, u2, pt, u3, p1, p_mul_i, m2, if_true, ev, nes, p2, qe, isf, p_not_b, Bool.not_true, iteD_f, fm, ne]
  · have ni : numI q.num = TL.numL q.num.natAbs := if_neg neg
    have ev : (1 : Int) * (q.num.natAbs : Int) = q.num := by omega
    by_cases c : (q.den : Int) = 1
    · have ft : fracT q = TL.numL q.num.natAbs := by unfold fracT; rw [if_pos c, ni]
      have s1 := slA_1 (fracT q) (by rw [ft]; omega)
      have e1 : prim .eq [tx ((fracT q).take 1), .str "-"] = .ok (.bl false) := by
        have := eq_tx ((fracT q).take 1) [45]
        rw [decide_eq_false (by rw [ft]; exact cons_ne _)] at this
        exact this
      have pt := part_no q.num.natAbs (by omega)
      rw [← ft] at pt p1
      have qe1 : D.tup [.int q.num, .int 1] = fr q := by rw [← qe, c]
      unfold f_parse_fraction
      simp -implicitDefEqProofs only [s1, b_ok, e1, iteD_f, u2, pt, u3, p1, p_mul_i, m1, if_true, ev, nee, qe1, isf, p_not_b, Bool.not_true, fm, ne]
    · have ft : fracT q = TL.numL q.num.natAbs ++ (47 :: TL.numL q.den) := by unfold fracT; rw [if_neg c, ni]
      have s1 := slA_1 (fracT q) (by rw [ft, List.length_append, List.length_cons]; omega)
      have e1 : prim .eq [tx ((fracT q).take 1), .str "-"] = .ok (.bl false) := by
        have := eq_tx ((fracT q).take 1) [45]
        rw [decide_eq_false (by
          rw [ft, List.take_append_of_le_length (List.length_pos_iff.mpr (TL.numL_ne _))]
          exact cons_ne _)] at this
        exact this
      have pt := part_yes q.num.natAbs q.den (by omega) (by omega)
      rw [← ft] at pt
      unfold f_parse_fraction
      simp -implicitDefEqProofs only [s1, b_ok, e1, iteD_f, u2, pt, u3, p1, p_mul_i, m1, if_true, ev, nes, iteD_t, p2, qe, isf, p_not_b, Bool.not_true, fm, ne]
end Vm
end
section
set_option Elab.async false
set_option linter.all false
set_option maxRecDepth 100000
namespace Vm
open PySem PySem.Spec L2
def plainR : List (List Rat) → List Rat → List Rat
  | [], r => r
  | e :: es, r => plainR es (clear (leadN e) e r)
section
variable {n K : Nat} {eqs : List (List Rat)}
end
def unitRow (n j : Nat) : List Rat := List.replicate j 0 ++ [1] ++ List.replicate (n - j) 0
def units (n : Nat) : List (List Rat) := (List.range' 0 n).map (unitRow n)
end Vm
end
section
set_option Elab.async false
set_option linter.all false
set_option maxRecDepth 100000
namespace Vm
open PySem PySem.Spec L2
def sm : Nat → (Nat → Rat) → Rat
  | 0, _ => 0
  | k + 1, g => sm k g + g k
theorem sm_zero : ∀ {n : Nat} {g : Nat → Rat}, (∀ i, i < n → g i = 0) → sm n g = 0
  | 0, _, _ => rfl
  | n + 1, g, h => by
    show sm n g + g n = 0
    rw [sm_zero (fun i hi => h i (by omega)), h n (by omega), Rat.add_zero]
theorem sm_one : ∀ {n p : Nat} {g : Nat → Rat}, p < n → (∀ i, i < n → i ≠ p → g i = 0) → sm n g = g p
  | 0, p, g, hp, _ => absurd hp (Nat.not_lt_zero _)
  | n + 1, p, g, hp, h => by
    show sm n g + g n = g p
    by_cases c : p = n
    · subst c
      rw [sm_zero (fun i hi => h i (by omega) (by omega)), Rat.zero_add]
    · rw [sm_one (p := p) (by omega) (fun i hi ne => h i (by omega) ne), h n (by omega) (by omega), Rat.add_zero]
theorem sm_two : ∀ {n p q : Nat} {g : Nat → Rat}, p < n → q < n → p ≠ q → (∀ i, i < n → i ≠ p → i ≠ q → g i = 0) → sm n g = g p + g q
  | 0, p, q, g, hp, _, _, _ => absurd hp (Nat.not_lt_zero _)
  | n + 1, p, q, g, hp, hq, ne, h => by
    show sm n g + g n = g p + g q
    by_cases c : p = n
    · subst c
      rw [sm_one (p := q) (by omega) (fun i hi n1 => h i (by omega) (by omega) n1), Rat.add_comm]
    · by_cases d : q = n
      · subst d
        rw [sm_one (p := p) (by omega) (fun i hi n1 => h i (by omega) n1 (by omega))]
      · rw [sm_two (p := p) (q := q) (by omega) (by omega) ne (fun i hi n1 n2 => h i (by omega) n1 n2), h n (by omega) (by omega) (by omega), Rat.add_zero]
theorem sm_congr : ∀ {n : Nat} {f g : Nat → Rat}, (∀ i, i < n → f i = g i) → sm n f = sm n g
  | 0, _, _, _ => rfl
  | n + 1, f, g, h => by
    show sm n f + f n = sm n g + g n
    rw [sm_congr (fun i hi => h i (by omega)), h n (by omega)]
theorem sm_lin : ∀ (n : Nat) (a b : Nat → Rat) (c : Rat), sm n (fun i => a i + c * b i) = sm n a + c * sm n b
  | 0, a, b, c => by
    show (0 : Rat) = 0 + c * 0
    rw [Rat.mul_zero, Rat.add_zero]
  | n + 1, a, b, c => by
    show sm n (fun i => a i + c * b i) + (a n + c * b n) = sm n a + a n + c * (sm n b + b n)
    rw [sm_lin n a b c]
    grind
theorem sm_mul : ∀ (n : Nat) (b : Nat → Rat) (c : Rat), sm n (fun i => c * b i) = c * sm n b
  | 0, b, c => by
    show (0 : Rat) = c * 0
    rw [Rat.mul_zero]
  | n + 1, b, c => by
    show sm n (fun i => c * b i) + c * b n = c * (sm n b + b n)
    rw [sm_mul n b c]
    grind
def dt (n : Nat) (r : List Rat) (x : Nat → Rat) : Rat := sm (n + 1) fun i => r.getD i 0 * x i
def Ker (n : Nat) (rs : List (List Rat)) (x : Nat → Rat) : Prop := ∀ r ∈ rs, dt n r x = 0
theorem dt_clear {n j : Nat} {l r : List Rat} {x : Nat → Rat} (h : r.length = l.length) : dt n (clear j l r) x = dt n r x + -(r.getD j 0) * dt n l x := by
  unfold dt
  rw [← sm_lin]
  refine sm_congr fun i _ => ?_
  rw [clear_getD h]
  grind
theorem dt_unit {n j : Nat} {r : List Rat} {x : Nat → Rat} : dt n (unitR j r) x = (r.getD j 0)⁻¹ * dt n r x := by
  unfold dt
  rw [← sm_mul]
  refine sm_congr fun i _ => ?_
  rw [unit_getD, Rat.div_def]
  grind
theorem leadGo_is : ∀ (k : Nat) (xs : List Rat) (p : Nat), xs.getD p 0 ≠ 0 → (∀ i, i < p → xs.getD i 0 = 0) → leadGo k xs = some (k + p)
  | k, [], p, h, _ => absurd rfl h
  | k, x :: xs, 0, h, _ => if_neg h
  | k, x :: xs, p + 1, h, z => by
    have z0 : x = 0 := z 0 (Nat.zero_lt_succ _)
    unfold leadGo
    rw [if_pos z0, leadGo_is (k + 1) xs p h (fun i hi => z (i + 1) (by omega))]
    congr 1
    omega
theorem leadGo_spec : ∀ (k : Nat) (xs : List Rat) (q : Nat), leadGo k xs = some q → ∃ p, q = k + p ∧ p < xs.length ∧ xs.getD p 0 ≠ 0 ∧ ∀ i, i < p → xs.getD i 0 = 0
  | k, [], q, h => by cases h
  | k, x :: xs, q, h => by
    unfold leadGo at h
    by_cases c : x = 0
    · rw [if_pos c] at h
      obtain ⟨p, e, h1, h2, h3⟩ := leadGo_spec (k + 1) xs q h
      refine ⟨p + 1, by omega, by rw [List.length_cons]; omega, h2, fun i hi => ?_⟩
      cases i with
      | zero => exact c
      | succ i => exact h3 i (by omega)
    · rw [if_neg c] at h
      cases h
      exact ⟨0, rfl, by rw [List.length_cons]; omega, c, fun i hi => absurd hi (Nat.not_lt_zero _)⟩
theorem lead_is {n p : Nat} {r : List Rat} (l : r.length = n + 1) (hp : p < n) (h : r.getD p 0 ≠ 0) (z : ∀ i, i < p → r.getD i 0 = 0) : Vm.lead r = some p := by
  have e := leadGo_is 0 r.dropLast p (by rw [dropLast_getD l hp]; exact h) (fun i hi => by rw [dropLast_getD l (by omega)]; exact z i hi)
  rw [Nat.zero_add] at e
  exact e
theorem lead_spec {n p : Nat} {r : List Rat} (l : r.length = n + 1) (h : Vm.lead r = some p) : p < n ∧ r.getD p 0 ≠ 0 ∧ ∀ i, i < p → r.getD i 0 = 0 := by
  obtain ⟨q, e, h1, h2, h3⟩ := leadGo_spec 0 r.dropLast p h
  rw [Nat.zero_add] at e
  subst e
  rw [List.length_dropLast, l] at h1
  have lt : p < n := by omega
  refine ⟨lt, by rw [← dropLast_getD l lt]; exact h2, fun i hi => by rw [← dropLast_getD l (by omega)]; exact h3 i hi⟩
structure LdR (n : Nat) (r : List Rat) : Prop where
  len : r.length = n + 1
  lt : leadN r < n
  one : r.getD (leadN r) 0 = 1
  lo : ∀ i, i < leadN r → r.getD i 0 = 0
theorem LdR.lead {n : Nat} {r : List Rat} (h : LdR n r) : Vm.lead r = some (leadN r) := lead_is h.len h.lt (by rw [h.one]; decide) h.lo
theorem LdR.of {n p : Nat} {r : List Rat} (l : r.length = n + 1) (hp : p < n) (h : r.getD p 0 = 1) (z : ∀ i, i < p → r.getD i 0 = 0) : LdR n r ∧ leadN r = p := by
  have e : leadN r = p := by
    unfold leadN
    rw [lead_is l hp (by rw [h]; decide) z]
    rfl
  exact ⟨⟨l, by rw [e]; exact hp, by rw [e]; exact h, fun i hi => z i (by rw [e] at hi; exact hi)⟩, e⟩
def Apart (r s : List Rat) : Prop := r.getD (leadN s) 0 = 0 ∧ s.getD (leadN r) 0 = 0
theorem Apart.symm {r s : List Rat} (h : Apart r s) : Apart s r := ⟨h.2, h.1⟩
structure Rref (n : Nat) (E : List (List Rat)) : Prop where
  ld : ∀ r ∈ E, LdR n r
  ap : E.Pairwise Apart
theorem pw_sym {α : Type} {P : α → α → Prop} (sy : ∀ a b, P a b → P b a) : ∀ {l : List α}, l.Pairwise P → ∀ a ∈ l, ∀ b ∈ l, a ≠ b → P a b
  | [], _, a, ha, _, _, _ => absurd ha List.not_mem_nil
  | c :: l, h, a, ha, b, hb, ne => by
    obtain ⟨h1, h2⟩ := List.pairwise_cons.mp h
    rcases List.mem_cons.mp ha with ea | ea
    · rcases List.mem_cons.mp hb with eb | eb
      · exact absurd (ea.trans eb.symm) ne
      · rw [ea]; exact h1 b eb
    · rcases List.mem_cons.mp hb with eb | eb
      · rw [eb]; exact sy _ _ (h1 a ea)
      · exact pw_sym sy h2 a ea b eb ne
section
variable {n : Nat} {E F : List (List Rat)}
theorem Rref.apart (h : Rref n E) {r s : List Rat} (hr : r ∈ E) (hs : s ∈ E) (ne : r ≠ s) : Apart r s := pw_sym (fun _ _ => Apart.symm) h.ap r hr s hs ne
theorem Rref.same (h : Rref n E) {r s : List Rat} (hr : r ∈ E) (hs : s ∈ E) (e : leadN r = leadN s) : r = s := by
  by_cases c : r = s
  · exact c
  · have a := (h.apart hr hs c).1
    rw [← e, (h.ld r hr).one] at a
    exact absurd a (by decide)
def kv (E : List (List Rat)) (f : Nat) : Nat → Rat := fun i => if i = f then 1 else match E.find? (fun r => leadN r == i) with
  | some r => -(r.getD f 0)
  | none => 0
theorem kv_self (f : Nat) : kv E f f = 1 := if_pos rfl
theorem kv_piv (h : Rref n E) {r : List Rat} (hr : r ∈ E) {f : Nat} (nf : leadN r ≠ f) : kv E f (leadN r) = -(r.getD f 0) := by
  unfold kv
  rw [if_neg nf]
  cases e : E.find? (fun s => leadN s == leadN r) with
  | none =>
    have := List.find?_eq_none.mp e r hr
    exact absurd (beq_self_eq_true _) this
  | some s =>
    have e1 := List.find?_some e
    have e2 := List.mem_of_find?_eq_some e
    have e3 : leadN s = leadN r := eq_of_beq e1
    rw [h.same e2 hr e3]
theorem kv_free {f i : Nat} (ne : i ≠ f) (h : ∀ r ∈ E, leadN r ≠ i) : kv E f i = 0 := by
  unfold kv
  rw [if_neg ne]
  cases e : E.find? (fun s => leadN s == i) with
  | none => rfl
  | some s =>
    have e1 := List.find?_some e
    have e2 := List.mem_of_find?_eq_some e
    exact absurd (eq_of_beq e1) (h s e2)
theorem kv_row (h : Rref n E) (h2 : Rref n F) {s : List Rat} (hs : s ∈ F) {r : List Rat} (hr : r ∈ E) (el : leadN s = leadN r) (hp : ∀ t ∈ E, ∃ u ∈ F, leadN u = leadN t) {f : Nat} (hf : f ≤ n) (nf : ∀ t ∈ E, leadN t ≠ f) : dt n s (kv E f) = s.getD f 0 - r.getD f 0 := by
  have lt := (h.ld r hr).lt
  unfold dt
  rw [sm_two (p := leadN r) (q := f) (by omega) (by omega) (nf r hr) (fun i hi n1 n2 => ?_), kv_self, kv_piv h hr (nf r hr), ← el, (h2.ld s hs).one]
  · grind
  · by_cases c : ∃ t ∈ E, leadN t = i
    · obtain ⟨t, ht, et⟩ := c
      obtain ⟨u, hu, eu⟩ := hp t ht
      have ne : s ≠ u := fun z => n1 (by rw [← el, z, eu, et])
      have a := (h2.apart hs hu ne).1
      rw [eu, et] at a
      rw [a, Rat.zero_mul]
    · rw [kv_free n2 (fun t ht z => c ⟨t, ht, z⟩), Rat.mul_zero]
theorem kv_ker (h : Rref n E) {f : Nat} (hf : f ≤ n) (nf : ∀ t ∈ E, leadN t ≠ f) : Ker n E (kv E f) := fun r hr => by
  rw [kv_row h h hr hr rfl (fun t ht => ⟨t, ht, rfl⟩) hf nf, Rat.sub_self]
theorem kv_hi (h : Rref n E) {f i : Nat} (hi : f < i) : kv E f i = 0 := by
  by_cases c : ∃ t ∈ E, leadN t = i
  · obtain ⟨t, ht, et⟩ := c
    rw [← et, kv_piv h ht (by omega), (h.ld t ht).lo f (by omega), Rat.neg_zero]
  · exact kv_free (by omega) (fun t ht z => c ⟨t, ht, z⟩)
theorem Rref.piv (h : Rref n E) {j : Nat} (hj : j < n) : (∃ r ∈ E, leadN r = j) ↔ ∀ x, Ker n E x → (∀ i, j < i → x i = 0) → x j = 0 := by
  constructor
  · rintro ⟨r, hr, e⟩ x hx hz
    have d := hx r hr
    have L := h.ld r hr
    unfold dt at d
    rw [sm_one (p := j) (by omega) (fun i hi ne => ?_)] at d
    · rw [← e, L.one, Rat.one_mul] at d
      rw [← e]
      exact d
    · rcases Nat.lt_or_ge i j with c | c
      · rw [L.lo i (by omega), Rat.zero_mul]
      · rw [hz i (by omega), Rat.mul_zero]
  · intro hx
    by_cases c : ∃ r ∈ E, leadN r = j
    · exact c
    · have z := hx (kv E j) (kv_ker h (by omega) (fun t ht e => c ⟨t, ht, e⟩)) (fun i hi => kv_hi h hi)
      rw [kv_self] at z
      exact absurd z (by decide)
theorem getD_ext {a b : List Rat} (h : a.length = b.length) (e : ∀ i, i < a.length → a.getD i 0 = b.getD i 0) : a = b := by
  refine List.ext_getElem h fun i h1 h2 => ?_
  have := e i h1
  rw [List.getD_eq_getElem?_getD, List.getD_eq_getElem?_getD, List.getElem?_eq_getElem h1, List.getElem?_eq_getElem h2] at this
  exact this
theorem Rref.sub (h : Rref n E) (h2 : Rref n F) (z : ∀ x, Ker n E x ↔ Ker n F x) : ∀ r ∈ E, r ∈ F := fun r hr => by
  have pv : ∀ t ∈ E, ∃ u ∈ F, leadN u = leadN t := fun t ht => (h2.piv (h.ld t ht).lt).mpr fun x hx => (h.piv (h.ld t ht).lt).mp ⟨t, ht, rfl⟩ x ((z x).mpr hx)
  have vp : ∀ t ∈ F, ∃ u ∈ E, leadN u = leadN t := fun t ht => (h.piv (h2.ld t ht).lt).mpr fun x hx => (h2.piv (h2.ld t ht).lt).mp ⟨t, ht, rfl⟩ x ((z x).mp hx)
  obtain ⟨s, hs, es⟩ := pv r hr
  have L := h.ld r hr
  have M := h2.ld s hs
  have e : r = s := getD_ext (by rw [L.len, M.len]) fun i hi => by
    rw [L.len] at hi
    by_cases c : ∃ t ∈ E, leadN t = i
    · obtain ⟨t, ht, et⟩ := c
      by_cases d : t = r
      · subst d
        rw [← et, L.one, ← es, M.one]
      · obtain ⟨u, hu, eu⟩ := pv t ht
        have ne : s ≠ u := fun w => d (h.same ht hr (by rw [← eu, ← w, es]))
        have a := (h.apart hr ht (Ne.symm d)).1
        have b := (h2.apart hs hu ne).1
        rw [eu] at b
        rw [← et, a, b]
    · have nf : ∀ t ∈ E, leadN t ≠ i := fun t ht w => c ⟨t, ht, w⟩
      have k := kv_row h h2 hs hr es pv (show i ≤ n by omega) nf
      have k2 := (z _).mp (kv_ker h (show i ≤ n by omega) nf) s hs
      rw [k2] at k
      grind
  rw [e]
  exact hs
def Asc (E : List (List Rat)) : Prop := E.Pairwise fun r s => leadN r < leadN s
def push (p : Nat) (u : List Rat) (E : List (List Rat)) : List (List Rat) := E.map (clear p u) ++ [u]
theorem push_one (hU : LdR n u) {e : List Rat} (hE : LdR n e) (z : u.getD (leadN e) 0 = 0) : LdR n (clear (leadN u) u e) ∧ leadN (clear (leadN u) u e) = leadN e := by
  have len : e.length = u.length := by rw [hE.len, hU.len]
  refine LdR.of (clear_len hE.len hU.len) hE.lt ?_ fun i hi => ?_
  · rw [clear_getD len, z, Rat.mul_zero, Rat.add_zero, hE.one]
  · rw [clear_getD len, hE.lo i hi, Rat.zero_add]
    rcases Nat.lt_or_ge (leadN u) (leadN e) with c | c
    · rw [hE.lo _ c, Rat.neg_zero, Rat.zero_mul]
    · rw [hU.lo i (by omega), Rat.mul_zero]
theorem Rref.push {u : List Rat} (h : Rref n E) (hU : LdR n u) (z : ∀ e ∈ E, u.getD (leadN e) 0 = 0) : Rref n (push (leadN u) u E) := by
  refine ⟨fun r hr => ?_, ?_⟩
  · rcases List.mem_append.mp hr with m | m
    · obtain ⟨e, he, rfl⟩ := List.mem_map.mp m
      exact (push_one hU (h.ld e he) (z e he)).1
    · rw [List.mem_singleton.mp m]
      exact hU
  · refine List.pairwise_append.mpr ⟨List.pairwise_map.mpr ?_, List.pairwise_singleton _ _, fun a ha b hb => ?_⟩
    · refine List.Pairwise.imp_of_mem (fun {a b} ha hb (c : Apart a b) => ?_) h.ap
      have A := h.ld a ha
      have B := h.ld b hb
      refine ⟨?_, ?_⟩
      · rw [(push_one hU B (z b hb)).2, clear_getD (by rw [A.len, hU.len]), c.1, z b hb, Rat.mul_zero, Rat.add_zero]
      · rw [(push_one hU A (z a ha)).2, clear_getD (by rw [B.len, hU.len]), c.2, z a ha, Rat.mul_zero, Rat.add_zero]
    · obtain ⟨e, he, rfl⟩ := List.mem_map.mp ha
      rw [List.mem_singleton.mp hb]
      have A := h.ld e he
      refine ⟨?_, ?_⟩
      · rw [clear_getD (by rw [A.len, hU.len]), hU.one, Rat.mul_one, Rat.add_neg_cancel]
      · rw [(push_one hU A (z e he)).2]
        exact z e he
theorem push_ker {u : List Rat} (h : ∀ e ∈ E, e.length = n + 1) (hu : u.length = n + 1) (p : Nat) (x : Nat → Rat) : Ker n (Vm.push p u E) x ↔ Ker n E x ∧ dt n u x = 0 := by
  constructor
  · intro k
    have ku : dt n u x = 0 := k u (List.mem_append_right _ (List.mem_singleton.mpr rfl))
    refine ⟨fun e he => ?_, ku⟩
    have := k (clear p u e) (List.mem_append_left _ (List.mem_map.mpr ⟨e, he, rfl⟩))
    rw [dt_clear (by rw [h e he, hu]), ku, Rat.mul_zero, Rat.add_zero] at this
    exact this
  · rintro ⟨k, ku⟩ r hr
    rcases List.mem_append.mp hr with m | m
    · obtain ⟨e, he, rfl⟩ := List.mem_map.mp m
      rw [dt_clear (by rw [h e he, hu]), ku, Rat.mul_zero, Rat.add_zero]
      exact k e he
    · rw [List.mem_singleton.mp m]
      exact ku
theorem ker_unit {r : List Rat} {p : Nat} (nz : r.getD p 0 ≠ 0) (x : Nat → Rat) : dt n (unitR p r) x = 0 ↔ dt n r x = 0 := by
  rw [dt_unit]
  constructor
  · intro h
    rcases Rat.mul_eq_zero.mp h with c | c
    · have e := Rat.mul_inv_cancel _ nz
      rw [c, Rat.mul_zero] at e
      exact absurd e (by decide)
    · exact c
  · intro h
    rw [h, Rat.mul_zero]
theorem plain_len : ∀ {es : List (List Rat)} {r : List Rat}, (∀ e ∈ es, e.length = n + 1) → r.length = n + 1 → (plainR es r).length = n + 1
  | [], r, _, h => h
  | e :: es, r, he, h => plain_len (es := es) (fun f hf => he f (List.mem_cons_of_mem _ hf)) (clear_len h (he e List.mem_cons_self))
theorem plain_keep {i : Nat} : ∀ {es : List (List Rat)} {r : List Rat}, (∀ e ∈ es, e.length = n + 1) → r.length = n + 1 → (∀ e ∈ es, e.getD i 0 = 0) → (plainR es r).getD i 0 = r.getD i 0
  | [], r, _, _, _ => rfl
  | e :: es, r, he, h, z => by
    have l := he e List.mem_cons_self
    show (plainR es (clear (leadN e) e r)).getD i 0 = _
    rw [plain_keep (es := es) (fun f hf => he f (List.mem_cons_of_mem _ hf)) (clear_len h l) (fun f hf => z f (List.mem_cons_of_mem _ hf)), clear_getD (by rw [h, l]), z e List.mem_cons_self, Rat.mul_zero, Rat.add_zero]
theorem plain_zero : ∀ {es : List (List Rat)} {r : List Rat}, Rref n es → r.length = n + 1 → ∀ e ∈ es, (plainR es r).getD (leadN e) 0 = 0
  | [], r, _, _, e, he => absurd he List.not_mem_nil
  | a :: es, r, h, hl, e, he => by
    have A := h.ld a List.mem_cons_self
    obtain ⟨p1, p2⟩ := List.pairwise_cons.mp h.ap
    have h' : Rref n es := ⟨fun f hf => h.ld f (List.mem_cons_of_mem _ hf), p2⟩
    have cl : (clear (leadN a) a r).length = n + 1 := clear_len hl A.len
    rcases List.mem_cons.mp he with c | c
    · subst c
      show (plainR es (clear (leadN e) e r)).getD (leadN e) 0 = 0
      rw [plain_keep (n := n) (fun f hf => (h'.ld f hf).len) cl (fun f hf => (p1 f hf).2), clear_getD (by rw [hl, A.len]), A.one, Rat.mul_one, Rat.add_neg_cancel]
    · exact plain_zero h' cl e c
theorem plain_dt {x : Nat → Rat} : ∀ {es : List (List Rat)} {r : List Rat}, (∀ e ∈ es, e.length = n + 1) → r.length = n + 1 → Ker n es x → dt n (plainR es r) x = dt n r x
  | [], r, _, _, _ => rfl
  | e :: es, r, he, h, k => by
    have l := he e List.mem_cons_self
    show dt n (plainR es (clear (leadN e) e r)) x = _
    rw [plain_dt (es := es) (fun f hf => he f (List.mem_cons_of_mem _ hf)) (clear_len h l) (fun f hf => k f (List.mem_cons_of_mem _ hf)), dt_clear (by rw [h, l]), k e List.mem_cons_self, Rat.mul_zero, Rat.add_zero]
theorem unit_ld {r : List Rat} {p : Nat} (l : r.length = n + 1) (hp : p < n) (nz : r.getD p 0 ≠ 0) (z : ∀ i, i < p → r.getD i 0 = 0) : LdR n (unitR p r) ∧ leadN (unitR p r) = p := by
  refine LdR.of (by rw [unit_len]; exact l) hp ?_ fun i hi => ?_
  · rw [unit_getD, Rat.div_def, Rat.mul_inv_cancel _ nz]
  · rw [unit_getD, z i hi, Rat.div_def, Rat.zero_mul]
theorem red_step {E : List (List Rat)} {r : List Rat} {p : Nat} (h : Rref n E) (l : r.length = n + 1) (hp : Vm.lead (plainR E r) = some p) :
    LdR n (unitR p (plainR E r)) ∧ leadN (unitR p (plainR E r)) = p ∧ Rref n (push p (unitR p (plainR E r)) E) ∧ ∀ x, Ker n (push p (unitR p (plainR E r)) E) x ↔ Ker n E x ∧ dt n r x = 0 := by
  have le : ∀ e ∈ E, e.length = n + 1 := fun e he => (h.ld e he).len
  have lq := plain_len le l
  obtain ⟨h1, h2, h3⟩ := lead_spec lq hp
  obtain ⟨U, eU⟩ := unit_ld lq h1 h2 h3
  have z : ∀ e ∈ E, (unitR p (plainR E r)).getD (leadN e) 0 = 0 := fun e he => by rw [unit_getD, plain_zero h l e he, Rat.div_def, Rat.zero_mul]
  have P := h.push U z
  rw [eU] at P
  refine ⟨U, eU, P, fun x => ?_⟩
  rw [push_ker le U.len, ker_unit h2]
  constructor
  · rintro ⟨a, b⟩
    exact ⟨a, by rw [plain_dt le l a] at b; exact b⟩
  · rintro ⟨a, b⟩
    exact ⟨a, by rw [plain_dt le l a]; exact b⟩
end
end Vm
end
section
set_option Elab.async false
set_option linter.all false
set_option maxRecDepth 100000
namespace Vm
open PySem PySem.Spec L2
def NumD (k : Nat) (d : Int) (r : List Rat) : Prop := ∀ x ∈ r, ∃ m : Int, x = (m : Rat) / (d : Rat) ∧ Bd k m
def JD (k : Nat) (rs : List (List Rat)) : Prop := ∃ d : Int, d ≠ 0 ∧ Bd k d ∧ ∀ r ∈ rs, NumD k d r
theorem JD.cd {k : Nat} {rs : List (List Rat)} (h : JD k rs) : ∀ r ∈ rs, CD k r := fun r hr => by
  obtain ⟨d, h1, h2, h3⟩ := h
  exact ⟨d, h1, h2, h3 r hr⟩
theorem JD.sub {k : Nat} {rs ss : List (List Rat)} (h : JD k rs) (s : ∀ r ∈ ss, r ∈ rs) : JD k ss := by
  obtain ⟨d, h1, h2, h3⟩ := h
  exact ⟨d, h1, h2, fun r hr => h3 r (s r hr)⟩
theorem JD.mono {k m : Nat} {rs : List (List Rat)} (h : JD k rs) (le : k ≤ m) : JD m rs := by
  obtain ⟨d, h1, h2, h3⟩ := h
  exact ⟨d, h1, h2.mono le, fun r hr x hx => by
    obtain ⟨a, e, b⟩ := h3 r hr x hx
    exact ⟨a, e, b.mono le⟩⟩
def Pt (k : Nat) (d : Int) (j : Nat) (x : Rat) : Prop := ∃ N : Int, x = (N : Rat) / (d : Rat) ∧ N.natAbs < j * 2 ^ k
def lg (t : Nat) : Nat := if t = 0 then 0 else if t = 1 then 1 else if t ≤ 3 then 2 else 3
theorem Pt.bd {k i j : Nat} {d : Int} {x : Rat} (h : Pt k d j x) (hj : j ≤ 2 ^ i) : ∃ m : Int, x = (m : Rat) / (d : Rat) ∧ Bd (k + i) m := by
  obtain ⟨N, e, b⟩ := h
  refine ⟨N, e, ?_⟩
  unfold Bd
  rw [Nat.pow_add, Nat.mul_comm]
  exact Nat.lt_of_lt_of_le b (Nat.mul_le_mul_right _ hj)
theorem Pt.ht {k i j : Nat} {d : Int} {x : Rat} (h : Pt k d j x) (hd : d ≠ 0) (bd : Bd k d) (hj : j ≤ 2 ^ i) : Ht (k + i) x := by
  obtain ⟨m, e, b⟩ := h.bd hj
  rw [e, ← Rat.divInt_eq_div]
  exact .divInt hd b (bd.mono (by omega))
end Vm
end
section
set_option Elab.async false
set_option linter.all false
set_option maxRecDepth 100000
namespace Vm
open PySem PySem.Spec L2
theorem below_len : ∀ (n : Nat) (l : List Nat), l.Nodup → (∀ x ∈ l, x < n) → l.length ≤ n
  | 0, [], _, _ => Nat.le_refl _
  | 0, x :: l, _, h => absurd (h x List.mem_cons_self) (Nat.not_lt_zero _)
  | n + 1, l, nd, h => by
    have ih := below_len n (l.erase n) (nd.erase n) fun x hx => by
      have := h x (List.mem_of_mem_erase hx)
      have ne : x ≠ n := fun z => by
        subst z
        exact (List.Nodup.mem_erase_iff nd).mp hx |>.1 rfl
      omega
    by_cases c : n ∈ l
    · rw [List.length_erase_of_mem c] at ih
      omega
    · rw [List.erase_of_not_mem c] at ih
      omega
theorem Rref.len {n : Nat} {E : List (List Rat)} (h : Rref n E) : E.length ≤ n := by
  have := below_len n (E.map leadN) (List.pairwise_map.mpr (List.Pairwise.imp_of_mem (fun {a b} ha hb (c : Apart a b) => fun z => by
    have w := c.1
    rw [← z, (h.ld a ha).one] at w
    exact absurd w (by decide)) h.ap)) (fun x hx => by
    obtain ⟨e, he, rfl⟩ := List.mem_map.mp hx
    exact (h.ld e he).lt)
  rw [List.length_map] at this
  exact this
section
variable {n k g : Nat} {E : List (List Rat)} {r : List Rat} {rest : List D}
end
theorem push_length (p : Nat) (u : List Rat) (E : List (List Rat)) : (push p u E).length = E.length + 1 := by
  unfold push
  rw [List.length_append, List.length_map, List.length_singleton]
end Vm
end
section
set_option Elab.async false
set_option linter.all false
set_option maxRecDepth 100000
namespace Vm
open PySem PySem.Spec L2
def EStep (j : Nat) (ds ws ds' ws' : List (List Rat)) : Prop :=
  ((∀ w ∈ ws, w.getD j 0 = 0) ∧ ds' = ds ∧ ws' = ws) ∨
    ∃ r0 ix, ws[ix]? = some r0 ∧ r0.getD j 0 ≠ 0 ∧ ds' = push j (unitR j r0) ds ∧ ws' = (ws.eraseIdx ix).map (clear j (unitR j r0))
structure LI (n : Nat) (rs : List (List Rat)) (j : Nat) (ds ws : List (List Rat)) : Prop where
  rr : Rref n ds
  asc : Asc ds
  lt : ∀ d ∈ ds, leadN d < j
  wl : ∀ w ∈ ws, w.length = n + 1
  wz : ∀ w ∈ ws, ∀ i, i < j → w.getD i 0 = 0
  ker : ∀ x, (Ker n ds x ∧ Ker n ws x) ↔ Ker n rs x
theorem erase_mem : ∀ {ws : List (List Rat)} {ix : Nat} {r0 : List Rat}, ws[ix]? = some r0 → ∀ w, w ∈ ws ↔ w = r0 ∨ w ∈ ws.eraseIdx ix
  | [], ix, r0, h, w => by cases h
  | a :: ws, 0, r0, h, w => by
    cases h
    exact List.mem_cons
  | a :: ws, ix + 1, r0, h, w => by
    have ih := erase_mem (ws := ws) (ix := ix) h w
    show w ∈ a :: ws ↔ w = r0 ∨ w ∈ a :: ws.eraseIdx ix
    rw [List.mem_cons, List.mem_cons, ih]
    constructor
    · rintro (h | h | h)
      · exact .inr (.inl h)
      · exact .inl h
      · exact .inr (.inr h)
    · rintro (h | h | h)
      · exact .inr (.inl h)
      · exact .inl h
      · exact .inr (.inr h)
theorem LI.step {n : Nat} {rs : List (List Rat)} (j : Nat) (ds ws ds' ws' : List (List Rat)) (hj : j < n) (h : LI n rs j ds ws) (st : EStep j ds ws ds' ws') : LI n rs (j + 1) ds' ws' := by
  rcases st with ⟨z, rfl, rfl⟩ | ⟨r0, ix, e, nz, rfl, rfl⟩
  · refine ⟨h.rr, h.asc, fun d hd => Nat.lt_succ_of_lt (h.lt d hd), h.wl, fun w hw i hi => ?_, h.ker⟩
    rcases Nat.lt_or_ge i j with c | c
    · exact h.wz w hw i c
    · have : i = j := by omega
      rw [this]
      exact z w hw
  · have em := erase_mem e
    have m0 : r0 ∈ ws := (em r0).mpr (.inl rfl)
    obtain ⟨U, eU⟩ := unit_ld (h.wl r0 m0) hj nz (h.wz r0 m0)
    have ul : (unitR j r0).length = n + 1 := U.len
    have u0 : ∀ i, i < j → (unitR j r0).getD i 0 = 0 := fun i hi => U.lo i (by rw [eU]; exact hi)
    have u1 : (unitR j r0).getD j 0 = 1 := by
      have := U.one
      rw [eU] at this
      exact this
    have z : ∀ d ∈ ds, (unitR j r0).getD (leadN d) 0 = 0 := fun d hd => u0 _ (h.lt d hd)
    have P := h.rr.push U z
    rw [eU] at P
    have lds : ∀ d ∈ ds, d.length = n + 1 := fun d hd => (h.rr.ld d hd).len
    have lm : ∀ d ∈ ds, leadN (clear j (unitR j r0) d) = leadN d := fun d hd => by
      have := (push_one U (h.rr.ld d hd) (z d hd)).2
      rw [eU] at this
      exact this
    have sub : ∀ w ∈ ws.eraseIdx ix, w ∈ ws := fun w hw => (em w).mpr (.inr hw)
    refine ⟨P, ?_, fun d hd => ?_, fun w hw => ?_, fun w hw i hi => ?_, fun x => ?_⟩
    · refine List.pairwise_append.mpr ⟨List.pairwise_map.mpr (List.Pairwise.imp_of_mem (fun {a b} ha hb c => ?_) h.asc), List.pairwise_singleton _ _, fun a ha b hb => ?_⟩
      · rw [lm a ha, lm b hb]
        exact c
      · obtain ⟨d, hd, rfl⟩ := List.mem_map.mp ha
        rw [List.mem_singleton.mp hb, lm d hd, eU]
        exact h.lt d hd
    · rcases List.mem_append.mp hd with m | m
      · obtain ⟨q, hq, rfl⟩ := List.mem_map.mp m
        rw [lm q hq]
        exact Nat.lt_succ_of_lt (h.lt q hq)
      · rw [List.mem_singleton.mp m, eU]
        exact Nat.lt_succ_self _
    · obtain ⟨q, hq, rfl⟩ := List.mem_map.mp hw
      exact clear_len (h.wl q (sub q hq)) ul
    · obtain ⟨q, hq, rfl⟩ := List.mem_map.mp hw
      rw [clear_getD (by rw [h.wl q (sub q hq), ul])]
      rcases Nat.lt_or_ge i j with c | c
      · rw [h.wz q (sub q hq) i c, u0 i c, Rat.mul_zero, Rat.add_zero]
      · have : i = j := by omega
        rw [this, u1, Rat.mul_one, Rat.add_neg_cancel]
    · rw [← h.ker x, push_ker lds ul, ker_unit nz]
      have dc : dt n r0 x = 0 → ∀ q ∈ ws.eraseIdx ix, dt n (clear j (unitR j r0) q) x = dt n q x := fun d0 q hq => by
        rw [dt_clear (by rw [h.wl q (sub q hq), ul]), (ker_unit nz x).mpr d0, Rat.mul_zero, Rat.add_zero]
      constructor
      · rintro ⟨⟨a, b⟩, c⟩
        refine ⟨a, fun w hw => ?_⟩
        rcases (em w).mp hw with m | m
        · rw [m]; exact b
        · rw [← dc b w m]
          exact c _ (List.mem_map.mpr ⟨w, m, rfl⟩)
      · rintro ⟨a, b⟩
        have b0 := b r0 m0
        refine ⟨⟨a, b0⟩, fun w hw => ?_⟩
        obtain ⟨q, hq, rfl⟩ := List.mem_map.mp hw
        rw [dc b0 q hq]
        exact b q (sub q hq)
end Vm
end
section
set_option Elab.async false
set_option linter.all false
set_option maxRecDepth 100000
namespace Vm
open PySem PySem.Spec L2
def hs : Nat → Nat
  | 0 => 1
  | 1 => 13
  | 2 => 41
  | 3 => 98
  | _ => 212
def hm : Nat → Nat
  | 0 => 1
  | 1 => 13
  | 2 => 240
  | 3 => 695
  | _ => 1605
theorem jd_nil : JD 1 [] := ⟨1, by decide, by unfold Bd; decide, fun _ h => absurd h List.not_mem_nil⟩
structure Good (n : Nat) (eqs : List (List Rat)) : Prop where
  rr : Rref n eqs
  asc : Asc eqs
  jd : JD (hs eqs.length) eqs
  sol : Sol n 223 eqs
section
variable {n : Nat} {one other : List (List Rat)}
end
end Vm
end
section
set_option Elab.async false
set_option linter.all false
set_option maxRecDepth 100000
namespace Vm
open PySem PySem.Spec L2
def det2 (a b c d : Rat) : Rat := a * d - b * c
def det3 (a1 a2 a3 b1 b2 b3 c1 c2 c3 : Rat) : Rat := a1 * det2 b2 b3 c2 c3 - a2 * det2 b1 b3 c1 c3 + a3 * det2 b1 b2 c1 c2
def det4 (a1 a2 a3 a4 b1 b2 b3 b4 c1 c2 c3 c4 d1 d2 d3 d4 : Rat) : Rat := a1 * det3 b2 b3 b4 c2 c3 c4 d2 d3 d4 - a2 * det3 b1 b3 b4 c1 c3 c4 d1 d3 d4 + (a3 * det3 b1 b2 b4 c1 c2 c4 d1 d2 d4 - a4 * det3 b1 b2 b3 c1 c2 c3 d1 d2 d3)
def int2 (a b c d : Int) : Int := a * d - b * c
def int3 (a1 a2 a3 b1 b2 b3 c1 c2 c3 : Int) : Int := a1 * int2 b2 b3 c2 c3 - a2 * int2 b1 b3 c1 c3 + a3 * int2 b1 b2 c1 c2
def int4 (a1 a2 a3 a4 b1 b2 b3 b4 c1 c2 c3 c4 d1 d2 d3 d4 : Int) : Int := a1 * int3 b2 b3 b4 c2 c3 c4 d2 d3 d4 - a2 * int3 b1 b3 b4 c1 c3 c4 d1 d3 d4 + (a3 * int3 b1 b2 b4 c1 c2 c4 d1 d2 d4 - a4 * int3 b1 b2 b3 c1 c2 c3 d1 d2 d3)
theorem int2_c (a b c d : Int) : ((int2 a b c d : Int) : Rat) = det2 a b c d := by
  unfold int2 det2
  simp only [Rat.intCast_sub, Rat.intCast_mul]
theorem int3_c (a1 a2 a3 b1 b2 b3 c1 c2 c3 : Int) : ((int3 a1 a2 a3 b1 b2 b3 c1 c2 c3 : Int) : Rat) = det3 a1 a2 a3 b1 b2 b3 c1 c2 c3 := by
  unfold int3 det3
  simp only [Rat.intCast_sub, Rat.intCast_mul, Rat.intCast_add, int2_c]
theorem int4_c (a1 a2 a3 a4 b1 b2 b3 b4 c1 c2 c3 c4 d1 d2 d3 d4 : Int) : ((int4 a1 a2 a3 a4 b1 b2 b3 b4 c1 c2 c3 c4 d1 d2 d3 d4 : Int) : Rat) = det4 a1 a2 a3 a4 b1 b2 b3 b4 c1 c2 c3 c4 d1 d2 d3 d4 := by
  unfold int4 det4
  simp only [Rat.intCast_sub, Rat.intCast_mul, Rat.intCast_add, int3_c]
theorem bd_plus {k : Nat} {a b : Int} (h : Bd k a) (g : Bd k b) : Bd (k + 1) (a + b) := by
  unfold Bd at *
  have := Int.natAbs_add_le a b
  rw [Nat.pow_succ]
  omega
theorem int2_b {k l : Nat} {a b c d : Int} (h1 : Bd k a) (h2 : Bd k b) (g1 : Bd l c) (g2 : Bd l d) : Bd (k + l + 1) (int2 a b c d) := (h1.mul g2).sub (h2.mul g1)
theorem int3_b {k l m : Nat} {a1 a2 a3 b1 b2 b3 c1 c2 c3 : Int} (h1 : Bd k a1) (h2 : Bd k a2) (h3 : Bd k a3) (g1 : Bd l b1) (g2 : Bd l b2) (g3 : Bd l b3) (f1 : Bd m c1) (f2 : Bd m c2) (f3 : Bd m c3) : Bd (k + l + m + 3) (int3 a1 a2 a3 b1 b2 b3 c1 c2 c3) := by
  have x1 : Bd (k + l + m + 1) (a1 * int2 b2 b3 c2 c3) := (h1.mul (int2_b g2 g3 f2 f3)).mono (by omega)
  have x2 : Bd (k + l + m + 1) (a2 * int2 b1 b3 c1 c3) := (h2.mul (int2_b g1 g3 f1 f3)).mono (by omega)
  have x3 : Bd (k + l + m + 2) (a3 * int2 b1 b2 c1 c2) := (h3.mul (int2_b g1 g2 f1 f2)).mono (by omega)
  exact bd_plus (x1.sub x2) x3
theorem int4_b {k l m o : Nat} {a1 a2 a3 a4 b1 b2 b3 b4 c1 c2 c3 c4 d1 d2 d3 d4 : Int} (h1 : Bd k a1) (h2 : Bd k a2) (h3 : Bd k a3) (h4 : Bd k a4) (g1 : Bd l b1) (g2 : Bd l b2) (g3 : Bd l b3) (g4 : Bd l b4) (f1 : Bd m c1) (f2 : Bd m c2) (f3 : Bd m c3) (f4 : Bd m c4) (e1 : Bd o d1) (e2 : Bd o d2) (e3 : Bd o d3) (e4 : Bd o d4) :
    Bd (k + l + m + o + 5) (int4 a1 a2 a3 a4 b1 b2 b3 b4 c1 c2 c3 c4 d1 d2 d3 d4) := by
  have x1 : Bd (k + l + m + o + 3) (a1 * int3 b2 b3 b4 c2 c3 c4 d2 d3 d4) := (h1.mul (int3_b g2 g3 g4 f2 f3 f4 e2 e3 e4)).mono (by omega)
  have x2 : Bd (k + l + m + o + 3) (a2 * int3 b1 b3 b4 c1 c3 c4 d1 d3 d4) := (h2.mul (int3_b g1 g3 g4 f1 f3 f4 e1 e3 e4)).mono (by omega)
  have x3 : Bd (k + l + m + o + 3) (a3 * int3 b1 b2 b4 c1 c2 c4 d1 d2 d4) := (h3.mul (int3_b g1 g2 g4 f1 f2 f4 e1 e2 e4)).mono (by omega)
  have x4 : Bd (k + l + m + o + 3) (a4 * int3 b1 b2 b3 c1 c2 c3 d1 d2 d3) := (h4.mul (int3_b g1 g2 g3 f1 f2 f3 e1 e2 e3)).mono (by omega)
  exact bd_plus (x1.sub x2) (x3.sub x4)
def cmb : List (List Rat) → List Rat → Nat → Rat
  | [], _, _ => 0
  | e :: E, r, c => r.getD (leadN e) 0 * e.getD c 0 + cmb E r c
section
variable {n : Nat} {E : List (List Rat)}
theorem rref_tl {r : List Rat} {rs : List (List Rat)} (h : Rref n (r :: rs)) : Rref n rs := ⟨fun q hq => h.ld q (List.mem_cons_of_mem _ hq), (List.pairwise_cons.mp h.ap).2⟩
theorem cmb_congr {r s : List Rat} {c : Nat} : ∀ {E : List (List Rat)}, (∀ e ∈ E, r.getD (leadN e) 0 = s.getD (leadN e) 0) → cmb E r c = cmb E s c
  | [], _ => rfl
  | e :: E, h => by
    show r.getD (leadN e) 0 * e.getD c 0 + cmb E r c = s.getD (leadN e) 0 * e.getD c 0 + cmb E s c
    rw [h e List.mem_cons_self, cmb_congr (fun q hq => h q (List.mem_cons_of_mem _ hq))]
theorem cmb_app (r : List Rat) (c : Nat) (F : List (List Rat)) : ∀ E : List (List Rat), cmb (E ++ F) r c = cmb E r c + cmb F r c
  | [] => (Rat.zero_add _).symm
  | e :: E => by
    show r.getD (leadN e) 0 * e.getD c 0 + cmb (E ++ F) r c = r.getD (leadN e) 0 * e.getD c 0 + cmb E r c + cmb F r c
    rw [cmb_app r c F E, Rat.add_assoc]
theorem plain_cmb {c : Nat} : ∀ {E : List (List Rat)} {r : List Rat}, Rref n E → r.length = n + 1 → (plainR E r).getD c 0 = r.getD c 0 - cmb E r c
  | [], r, _, _ => by
    show r.getD c 0 = r.getD c 0 - 0
    grind
  | e :: E, r, R, l => by
    have L := R.ld e List.mem_cons_self
    have ap := (List.pairwise_cons.mp R.ap).1
    show (plainR E (clear (leadN e) e r)).getD c 0 = r.getD c 0 - (r.getD (leadN e) 0 * e.getD c 0 + cmb E r c)
    rw [plain_cmb (rref_tl R) (clear_len l L.len), cmb_congr (s := r) (fun q hq => by
      rw [clear_getD (by rw [l, L.len]), (ap q hq).1, Rat.mul_zero, Rat.add_zero]), clear_getD (by rw [l, L.len])]
    grind
theorem cmb_map {u : List Rat} (U : LdR n u) (r : List Rat) {c : Nat} : ∀ {E : List (List Rat)}, (∀ e ∈ E, LdR n e ∧ u.getD (leadN e) 0 = 0) → cmb (E.map (clear (leadN u) u)) r c = cmb E r c - cmb E r (leadN u) * u.getD c 0
  | [], _ => by
    show (0 : Rat) = 0 - 0 * u.getD c 0
    grind
  | e :: E, h => by
    obtain ⟨L, z⟩ := h e List.mem_cons_self
    have ih := cmb_map U r (c := c) (fun q hq => h q (List.mem_cons_of_mem e hq))
    show r.getD (leadN (clear (leadN u) u e)) 0 * (clear (leadN u) u e).getD c 0 + cmb (E.map (clear (leadN u) u)) r c = r.getD (leadN e) 0 * e.getD c 0 + cmb E r c - (r.getD (leadN e) 0 * e.getD (leadN u) 0 + cmb E r (leadN u)) * u.getD c 0
    rw [ih, (push_one U L z).2, clear_getD (by rw [L.len, U.len])]
    grind
def mt (E : List (List Rat)) (M : List Rat) : List Rat := E.map fun e => M.getD (leadN e) 0
def detL : List (List Rat) → Rat
  | [] => 1
  | [[a]] => a
  | [[a, b], [c, d]] => det2 a b c d
  | [[a1, a2, a3], [b1, b2, b3], [c1, c2, c3]] => det3 a1 a2 a3 b1 b2 b3 c1 c2 c3
  | [[a1, a2, a3, a4], [b1, b2, b3, b4], [c1, c2, c3, c4], [d1, d2, d3, d4]] => det4 a1 a2 a3 a4 b1 b2 b3 b4 c1 c2 c3 c4 d1 d2 d3 d4
  | _ => 0
structure Crm (n : Nat) (E Ms : List (List Rat)) : Prop where
  len : Ms.length = E.length
  ml : ∀ M ∈ Ms, M.length = n + 1
  sp : ∀ M ∈ Ms, ∀ c, c ≤ n → M.getD c 0 = cmb E M c
  nz : detL (Ms.map (mt E)) ≠ 0
theorem mt_push {u : List Rat} (U : LdR n u) (h : ∀ e ∈ E, LdR n e ∧ u.getD (leadN e) 0 = 0) (M : List Rat) : mt (push (leadN u) u E) M = mt E M ++ [M.getD (leadN u) 0] := by
  unfold mt push
  rw [List.map_append, List.map_map]
  congr 1
  refine List.map_congr_left fun e he => ?_
  obtain ⟨L, z⟩ := h e he
  show M.getD (leadN (clear (leadN u) u e)) 0 = M.getD (leadN e) 0
  rw [(push_one U L z).2]
theorem nz_mul {a b c : Rat} (h : a = b * c) (hb : b ≠ 0) (hc : c ≠ 0) : a ≠ 0 := fun z => by
  rw [z] at h
  rcases Rat.mul_eq_zero.mp h.symm with w | w
  · exact hb w
  · exact hc w
theorem Crm.push {Ms : List (List Rat)} {r : List Rat} {p : Nat} (C : Crm n E Ms) (R : Rref n E) (hl : r.length = n + 1) (hp : Vm.lead (plainR E r) = some p) (t3 : E.length ≤ 3) : Crm n (push p (unitR p (plainR E r)) E) (Ms ++ [r]) := by
  obtain ⟨U, eU, P, _⟩ := red_step R hl hp
  have lE : ∀ e ∈ E, e.length = n + 1 := fun e he => (R.ld e he).len
  have lq := plain_len lE hl
  obtain ⟨pn, nzq, _⟩ := lead_spec lq hp
  have z : ∀ e ∈ E, LdR n e ∧ (unitR p (plainR E r)).getD (leadN e) 0 = 0 := fun e he => ⟨R.ld e he, by rw [unit_getD, plain_zero R hl e he, Rat.div_def, Rat.zero_mul]⟩
  have qp : (plainR E r).getD p 0 = r.getD p 0 - cmb E r p := plain_cmb R hl
  have cp : ∀ (M : List Rat) (c : Nat), cmb (Vm.push p (unitR p (plainR E r)) E) M c = cmb E M c + (M.getD p 0 - cmb E M p) * (unitR p (plainR E r)).getD c 0 := fun M c => by
    have a := cmb_map U M (c := c) z
    rw [eU] at a
    unfold Vm.push
    rw [cmb_app, a]
    show _ + (M.getD (leadN (unitR p (plainR E r))) 0 * (unitR p (plainR E r)).getD c 0 + 0) = _
    rw [eU]
    grind
  refine ⟨by rw [List.length_append, push_length, C.len]; rfl, fun M hM => ?_, fun M hM c hc => ?_, ?_⟩
  · rcases List.mem_append.mp hM with m | m
    · exact C.ml M m
    · rw [List.mem_singleton.mp m]; exact hl
  · rw [cp]
    rcases List.mem_append.mp hM with m | m
    · rw [← C.sp M m c hc, ← C.sp M m p (by omega)]
      grind
    · have qc : (plainR E r).getD c 0 = r.getD c 0 - cmb E r c := plain_cmb R hl
      rw [List.mem_singleton.mp m, ← qp, unit_getD]
      have h : ∀ x y : Rat, y ≠ 0 → y * (x / y) = x := fun x y hy => by
        rw [Rat.div_def, Rat.mul_comm x, ← Rat.mul_assoc, Rat.mul_inv_cancel _ hy, Rat.one_mul]
      rw [h _ _ nzq, qc, Rat.sub_eq_add_neg, Rat.add_comm (r.getD c 0), ← Rat.add_assoc, Rat.add_neg_cancel, Rat.zero_add]
  · have mtp : ∀ M, mt (Vm.push p (unitR p (plainR E r)) E) M = mt E M ++ [M.getD p 0] := fun M => by
      have a := mt_push U z M
      rw [eU] at a
      exact a
    have mm : (Ms ++ [r]).map (mt (Vm.push p (unitR p (plainR E r)) E)) = (Ms ++ [r]).map fun M => mt E M ++ [M.getD p 0] := List.map_congr_left fun M _ => mtp M
    rw [mm]
    have nz := C.nz
    have len := C.len
    have sp : ∀ M ∈ Ms, M.getD p 0 = cmb E M p := fun M hM => C.sp M hM p (by omega)
    rw [qp] at nzq
    match E, Ms, len, t3, nz, sp, nzq with
    | [], [], _, _, _, _, nzq =>
      show r.getD p 0 ≠ 0
      have : cmb [] r p = 0 := rfl
      rw [this] at nzq
      intro h
      rw [h] at nzq
      exact nzq (by grind)
    | [e1], [M1], _, _, nz, sp, nzq =>
      have s1 := sp M1 List.mem_cons_self
      refine nz_mul (b := detL ([M1].map (mt [e1]))) ?_ nz nzq
      show det2 (M1.getD (leadN e1) 0) (M1.getD p 0) (r.getD (leadN e1) 0) (r.getD p 0) = M1.getD (leadN e1) 0 * (r.getD p 0 - (r.getD (leadN e1) 0 * e1.getD p 0 + 0))
      have s1 : M1.getD p 0 = M1.getD (leadN e1) 0 * e1.getD p 0 + 0 := s1
      rw [s1]
      unfold det2
      grind
    | [e1, e2], [M1, M2], _, _, nz, sp, nzq =>
      have s1 : M1.getD p 0 = M1.getD (leadN e1) 0 * e1.getD p 0 + (M1.getD (leadN e2) 0 * e2.getD p 0 + 0) := sp M1 (by simp)
      have s2 : M2.getD p 0 = M2.getD (leadN e1) 0 * e1.getD p 0 + (M2.getD (leadN e2) 0 * e2.getD p 0 + 0) := sp M2 (by simp)
      refine nz_mul (b := detL ([M1, M2].map (mt [e1, e2]))) ?_ nz nzq
      show det3 (M1.getD (leadN e1) 0) (M1.getD (leadN e2) 0) (M1.getD p 0) (M2.getD (leadN e1) 0) (M2.getD (leadN e2) 0) (M2.getD p 0) (r.getD (leadN e1) 0) (r.getD (leadN e2) 0) (r.getD p 0) = det2 (M1.getD (leadN e1) 0) (M1.getD (leadN e2) 0) (M2.getD (leadN e1) 0) (M2.getD (leadN e2) 0) * (r.getD p 0 - (r.getD (leadN e1) 0 * e1.getD p 0 + (r.getD (leadN e2) 0 * e2.getD p 0 + 0)))
      rw [s1, s2]
      unfold det3 det2
      grind
    | [e1, e2, e3], [M1, M2, M3], _, _, nz, sp, nzq =>
      have s1 : M1.getD p 0 = M1.getD (leadN e1) 0 * e1.getD p 0 + (M1.getD (leadN e2) 0 * e2.getD p 0 + (M1.getD (leadN e3) 0 * e3.getD p 0 + 0)) := sp M1 (by simp)
      have s2 : M2.getD p 0 = M2.getD (leadN e1) 0 * e1.getD p 0 + (M2.getD (leadN e2) 0 * e2.getD p 0 + (M2.getD (leadN e3) 0 * e3.getD p 0 + 0)) := sp M2 (by simp)
      have s3 : M3.getD p 0 = M3.getD (leadN e1) 0 * e1.getD p 0 + (M3.getD (leadN e2) 0 * e2.getD p 0 + (M3.getD (leadN e3) 0 * e3.getD p 0 + 0)) := sp M3 (by simp)
      refine nz_mul (b := detL ([M1, M2, M3].map (mt [e1, e2, e3]))) ?_ nz nzq
      show det4 (M1.getD (leadN e1) 0) (M1.getD (leadN e2) 0) (M1.getD (leadN e3) 0) (M1.getD p 0) (M2.getD (leadN e1) 0) (M2.getD (leadN e2) 0) (M2.getD (leadN e3) 0) (M2.getD p 0) (M3.getD (leadN e1) 0) (M3.getD (leadN e2) 0) (M3.getD (leadN e3) 0) (M3.getD p 0) (r.getD (leadN e1) 0) (r.getD (leadN e2) 0) (r.getD (leadN e3) 0) (r.getD p 0) = det3 (M1.getD (leadN e1) 0) (M1.getD (leadN e2) 0) (M1.getD (leadN e3) 0) (M2.getD (leadN e1) 0) (M2.getD (leadN e2) 0) (M2.getD (leadN e3) 0) (M3.getD (leadN e1) 0) (M3.getD (leadN e2) 0) (M3.getD (leadN e3) 0) * (r.getD p 0 - (r.getD (leadN e1) 0 * e1.getD p 0 + (r.getD (leadN e2) 0 * e2.getD p 0 + (r.getD (leadN e3) 0 * e3.getD p 0 + 0))))
      rw [s1, s2, s3]
      generalize M1.getD (leadN e1) 0 = a1
      generalize M1.getD (leadN e2) 0 = a2
      generalize M1.getD (leadN e3) 0 = a3
      generalize M2.getD (leadN e1) 0 = b1
      generalize M2.getD (leadN e2) 0 = b2
      generalize M2.getD (leadN e3) 0 = b3
      generalize M3.getD (leadN e1) 0 = c1
      generalize M3.getD (leadN e2) 0 = c2
      generalize M3.getD (leadN e3) 0 = c3
      generalize r.getD (leadN e1) 0 = r1
      generalize r.getD (leadN e2) 0 = r2
      generalize r.getD (leadN e3) 0 = r3
      generalize r.getD p 0 = r4
      generalize e1.getD p 0 = x1
      generalize e2.getD p 0 = x2
      generalize e3.getD p 0 = x3
      unfold det4 det3 det2
      grind
    | _ :: _ :: _ :: _ :: _, _, _, t3, _, _, _ => exact absurd t3 (by simp)
    | [_], [], l, _, _, _, _ => exact nomatch l
    | [_], _ :: _ :: _, l, _, _, _, _ => exact absurd l (by simp)
    | [], _ :: _, l, _, _, _, _ => exact nomatch l
    | [_, _], [], l, _, _, _, _ => exact nomatch l
    | [_, _], [_], l, _, _, _, _ => exact absurd l (by simp)
    | [_, _], _ :: _ :: _ :: _, l, _, _, _, _ => exact absurd l (by simp)
    | [_, _, _], [], l, _, _, _, _ => exact nomatch l
    | [_, _, _], [_], l, _, _, _, _ => exact absurd l (by simp)
    | [_, _, _], [_, _], l, _, _, _, _ => exact absurd l (by simp)
    | [_, _, _], _ :: _ :: _ :: _ :: _, l, _, _, _, _ => exact absurd l (by simp)
end
end Vm
end
section
set_option Elab.async false
set_option linter.all false
set_option maxRecDepth 100000
namespace Vm
open PySem PySem.Spec L2
theorem canc {s u v : Rat} (hs : s ≠ 0) (h : u * s = v * s) : u = v := by
  have e : (u - v) * s = 0 := by grind
  rcases Rat.mul_eq_zero.mp e with w | w
  · grind
  · exact absurd w hs
theorem frac_is {N D : Int} {x : Rat} (h : (N : Rat) = x * (D : Rat)) (hD : D ≠ 0) : x = (N : Rat) / (D : Rat) := by
  have dz := rz hD
  rw [h, Rat.div_def, Rat.mul_assoc, Rat.mul_inv_cancel _ dz, Rat.mul_one]
theorem row_int {n k : Nat} {M : List Rat} (h : CD k M) (l : M.length = n + 1) : ∃ s : Rat, s ≠ 0 ∧ ∀ c, c ≤ n → ∃ m : Int, M.getD c 0 = (m : Rat) * s ∧ Bd k m := by
  obtain ⟨d, d1, d2, d3⟩ := h
  refine ⟨(d : Rat)⁻¹, fun z => ?_, fun c hc => ?_⟩
  · have e := Rat.mul_inv_cancel _ (rz d1)
    rw [z, Rat.mul_zero] at e
    exact absurd e (by decide)
  · obtain ⟨m, e, b⟩ := d3 _ (getD_mem (show c < M.length by omega))
    exact ⟨m, by rw [e, Rat.div_def], b⟩
theorem cr2_1 (a1 a2 b1 b2 x1 x2 : Rat) : det2 (a1 * x1 + a2 * x2) a2 (b1 * x1 + b2 * x2) b2 = x1 * det2 a1 a2 b1 b2 := by
  unfold det2
  grind
theorem cr2_2 (a1 a2 b1 b2 x1 x2 : Rat) : det2 a1 (a1 * x1 + a2 * x2) b1 (b1 * x1 + b2 * x2) = x2 * det2 a1 a2 b1 b2 := by
  unfold det2
  grind
theorem sc2 (a1 a2 b1 b2 s t : Rat) : det2 (a1 * s) (a2 * s) (b1 * t) (b2 * t) = s * t * det2 a1 a2 b1 b2 := by
  unfold det2
  grind
theorem cr3_1 (a1 a2 a3 b1 b2 b3 c1 c2 c3 x1 x2 x3 : Rat) : det3 (a1 * x1 + a2 * x2 + a3 * x3) a2 a3 (b1 * x1 + b2 * x2 + b3 * x3) b2 b3 (c1 * x1 + c2 * x2 + c3 * x3) c2 c3 = x1 * det3 a1 a2 a3 b1 b2 b3 c1 c2 c3 := by
  unfold det3 det2
  grind
theorem cr3_2 (a1 a2 a3 b1 b2 b3 c1 c2 c3 x1 x2 x3 : Rat) : det3 a1 (a1 * x1 + a2 * x2 + a3 * x3) a3 b1 (b1 * x1 + b2 * x2 + b3 * x3) b3 c1 (c1 * x1 + c2 * x2 + c3 * x3) c3 = x2 * det3 a1 a2 a3 b1 b2 b3 c1 c2 c3 := by
  unfold det3 det2
  grind
theorem cr3_3 (a1 a2 a3 b1 b2 b3 c1 c2 c3 x1 x2 x3 : Rat) : det3 a1 a2 (a1 * x1 + a2 * x2 + a3 * x3) b1 b2 (b1 * x1 + b2 * x2 + b3 * x3) c1 c2 (c1 * x1 + c2 * x2 + c3 * x3) = x3 * det3 a1 a2 a3 b1 b2 b3 c1 c2 c3 := by
  unfold det3 det2
  grind
theorem sc3 (a1 a2 a3 b1 b2 b3 c1 c2 c3 s t u : Rat) : det3 (a1 * s) (a2 * s) (a3 * s) (b1 * t) (b2 * t) (b3 * t) (c1 * u) (c2 * u) (c3 * u) = s * t * u * det3 a1 a2 a3 b1 b2 b3 c1 c2 c3 := by
  unfold det3 det2
  grind
theorem cr4_1 (a1 a2 a3 a4 b1 b2 b3 b4 c1 c2 c3 c4 d1 d2 d3 d4 x1 x2 x3 x4 : Rat) : det4 (a1 * x1 + a2 * x2 + a3 * x3 + a4 * x4) a2 a3 a4 (b1 * x1 + b2 * x2 + b3 * x3 + b4 * x4) b2 b3 b4 (c1 * x1 + c2 * x2 + c3 * x3 + c4 * x4) c2 c3 c4 (d1 * x1 + d2 * x2 + d3 * x3 + d4 * x4) d2 d3 d4 = x1 * det4 a1 a2 a3 a4 b1 b2 b3 b4 c1 c2 c3 c4 d1 d2 d3 d4 := by
  unfold det4 det3 det2
  grind
theorem cr4_2 (a1 a2 a3 a4 b1 b2 b3 b4 c1 c2 c3 c4 d1 d2 d3 d4 x1 x2 x3 x4 : Rat) : det4 a1 (a1 * x1 + a2 * x2 + a3 * x3 + a4 * x4) a3 a4 b1 (b1 * x1 + b2 * x2 + b3 * x3 + b4 * x4) b3 b4 c1 (c1 * x1 + c2 * x2 + c3 * x3 + c4 * x4) c3 c4 d1 (d1 * x1 + d2 * x2 + d3 * x3 + d4 * x4) d3 d4 = x2 * det4 a1 a2 a3 a4 b1 b2 b3 b4 c1 c2 c3 c4 d1 d2 d3 d4 := by
  unfold det4 det3 det2
  grind
theorem cr4_3 (a1 a2 a3 a4 b1 b2 b3 b4 c1 c2 c3 c4 d1 d2 d3 d4 x1 x2 x3 x4 : Rat) : det4 a1 a2 (a1 * x1 + a2 * x2 + a3 * x3 + a4 * x4) a4 b1 b2 (b1 * x1 + b2 * x2 + b3 * x3 + b4 * x4) b4 c1 c2 (c1 * x1 + c2 * x2 + c3 * x3 + c4 * x4) c4 d1 d2 (d1 * x1 + d2 * x2 + d3 * x3 + d4 * x4) d4 = x3 * det4 a1 a2 a3 a4 b1 b2 b3 b4 c1 c2 c3 c4 d1 d2 d3 d4 := by
  unfold det4 det3 det2
  grind
theorem cr4_4 (a1 a2 a3 a4 b1 b2 b3 b4 c1 c2 c3 c4 d1 d2 d3 d4 x1 x2 x3 x4 : Rat) : det4 a1 a2 a3 (a1 * x1 + a2 * x2 + a3 * x3 + a4 * x4) b1 b2 b3 (b1 * x1 + b2 * x2 + b3 * x3 + b4 * x4) c1 c2 c3 (c1 * x1 + c2 * x2 + c3 * x3 + c4 * x4) d1 d2 d3 (d1 * x1 + d2 * x2 + d3 * x3 + d4 * x4) = x4 * det4 a1 a2 a3 a4 b1 b2 b3 b4 c1 c2 c3 c4 d1 d2 d3 d4 := by
  unfold det4 det3 det2
  grind
theorem sc4 (a1 a2 a3 a4 b1 b2 b3 b4 c1 c2 c3 c4 d1 d2 d3 d4 s t u v : Rat) : det4 (a1 * s) (a2 * s) (a3 * s) (a4 * s) (b1 * t) (b2 * t) (b3 * t) (b4 * t) (c1 * u) (c2 * u) (c3 * u) (c4 * u) (d1 * v) (d2 * v) (d3 * v) (d4 * v) = s * t * u * v * det4 a1 a2 a3 a4 b1 b2 b3 b4 c1 c2 c3 c4 d1 d2 d3 d4 := by
  unfold det4 det3 det2
  grind
theorem ne_of_cast {N : Int} {x y : Rat} (h : x = y * (N : Rat)) (hx : x ≠ 0) : N ≠ 0 := fun z => hx (by
  have : ((0 : Int) : Rat) = 0 := rfl
  rw [h, z, this, Rat.mul_zero])
def CDs : List Nat → List (List Rat) → Prop
  | [], [] => True
  | k :: ks, M :: Ms => CD k M ∧ CDs ks Ms
  | _, _ => False
theorem CDs.app {k : Nat} {r : List Rat} (c : CD k r) : ∀ {ks : List Nat} {Ms : List (List Rat)}, CDs ks Ms → CDs (ks ++ [k]) (Ms ++ [r])
  | [], [], _ => ⟨c, trivial⟩
  | k' :: ks, M :: Ms, h => ⟨h.1, CDs.app c h.2⟩
  | [], _ :: _, h => h.elim
  | _ :: _, [], h => h.elim
theorem getD_of_mem {x : Rat} : ∀ {r : List Rat}, x ∈ r → ∃ c, c < r.length ∧ r.getD c 0 = x
  | y :: r, h => by
    rcases List.mem_cons.mp h with e | e
    · exact ⟨0, by simp, e.symm⟩
    · obtain ⟨c, h1, h2⟩ := getD_of_mem e
      exact ⟨c + 1, by rw [List.length_cons]; omega, h2⟩
theorem Crm.jd {n : Nat} {E Ms : List (List Rat)} {ks : List Nat} (C : Crm n E Ms) (R : Rref n E) (c : CDs ks Ms) (t4 : E.length ≤ 4) : JD (ks.sum + 5) E := by
  have lt : ∀ e ∈ E, leadN e ≤ n := fun e he => Nat.le_of_lt (R.ld e he).lt
  have le : ∀ e ∈ E, e.length = n + 1 := fun e he => (R.ld e he).len
  have num : ∀ {D : Int} {B : Nat} {e : List Rat}, e.length = n + 1 → (∀ c, c ≤ n → ∃ m : Int, e.getD c 0 = (m : Rat) / (D : Rat) ∧ Bd B m) → NumD B D e := fun l h x hx => by
    obtain ⟨c, h1, h2⟩ := getD_of_mem hx
    rw [← h2]
    exact h c (by omega)
  have len := C.len
  have ml := C.ml
  have sp := C.sp
  have nz := C.nz
  match E, Ms, ks, len, ml, sp, nz, c, t4, lt, le with
  | [], [], ks, _, _, _, _, _, _, _, _ => exact jd_nil.mono (by omega)
  | [e1], [M1], [k1], _, ml, sp, nz, c, _, lt, le =>
    obtain ⟨s, s0, f⟩ := row_int c.1 (ml M1 (by simp))
    obtain ⟨a1, A1, B1⟩ := f _ (lt e1 (by simp))
    have nz : M1.getD (leadN e1) 0 ≠ 0 := nz
    have D0 : a1 ≠ 0 := ne_of_cast (y := s) (by rw [A1, Rat.mul_comm]) nz
    have sm : [k1].sum = k1 := by simp
    refine ⟨a1, D0, B1.mono (by omega), fun e he => num (le e he) fun c hc => ?_⟩
    obtain ⟨za, Z1, Y1⟩ := f c hc
    have q1 : M1.getD c 0 = M1.getD (leadN e1) 0 * e1.getD c 0 + 0 := sp M1 (by simp) c hc
    rw [Z1, A1] at q1
    have r1 : (za : Rat) = a1 * e1.getD c 0 := canc s0 (by grind)
    rw [List.mem_singleton.mp he]
    exact ⟨za, frac_is (by rw [r1, Rat.mul_comm]) D0, Y1.mono (by omega)⟩
  | [e1, e2], [M1, M2], [k1, k2], _, ml, sp, nz, c, _, lt, le =>
    obtain ⟨s, s0, f⟩ := row_int c.1 (ml M1 (by simp))
    obtain ⟨t, t0, g⟩ := row_int c.2.1 (ml M2 (by simp))
    obtain ⟨a1, A1, B1⟩ := f _ (lt e1 (by simp))
    obtain ⟨a2, A2, B2⟩ := f _ (lt e2 (by simp))
    obtain ⟨b1, G1, H1⟩ := g _ (lt e1 (by simp))
    obtain ⟨b2, G2, H2⟩ := g _ (lt e2 (by simp))
    have nz : det2 (M1.getD (leadN e1) 0) (M1.getD (leadN e2) 0) (M2.getD (leadN e1) 0) (M2.getD (leadN e2) 0) ≠ 0 := nz
    have D0 : int2 a1 a2 b1 b2 ≠ 0 := ne_of_cast (y := s * t) (by rw [A1, A2, G1, G2, sc2, int2_c]) nz
    have sm : [k1, k2].sum = k1 + k2 := by simp
    refine ⟨int2 a1 a2 b1 b2, D0, (int2_b B1 B2 H1 H2).mono (by omega), fun e he => num (le e he) fun c hc => ?_⟩
    obtain ⟨za, Z1, Y1⟩ := f c hc
    obtain ⟨zb, Z2, Y2⟩ := g c hc
    have q1 : M1.getD c 0 = M1.getD (leadN e1) 0 * e1.getD c 0 + (M1.getD (leadN e2) 0 * e2.getD c 0 + 0) := sp M1 (by simp) c hc
    have q2 : M2.getD c 0 = M2.getD (leadN e1) 0 * e1.getD c 0 + (M2.getD (leadN e2) 0 * e2.getD c 0 + 0) := sp M2 (by simp) c hc
    rw [Z1, A1, A2] at q1
    rw [Z2, G1, G2] at q2
    have r1 : (za : Rat) = a1 * e1.getD c 0 + a2 * e2.getD c 0 := canc s0 (by grind)
    have r2 : (zb : Rat) = b1 * e1.getD c 0 + b2 * e2.getD c 0 := canc t0 (by grind)
    rcases List.mem_cons.mp he with w | w
    · rw [w]
      exact ⟨int2 za a2 zb b2, frac_is (by rw [int2_c, int2_c, r1, r2, cr2_1]) D0, (int2_b Y1 B2 Y2 H2).mono (by omega)⟩
    · rw [List.mem_singleton.mp w]
      exact ⟨int2 a1 za b1 zb, frac_is (by rw [int2_c, int2_c, r1, r2, cr2_2]) D0, (int2_b B1 Y1 H1 Y2).mono (by omega)⟩
  | [e1, e2, e3], [M1, M2, M3], [k1, k2, k3], _, ml, sp, nz, c, _, lt, le =>
    obtain ⟨s, s0, f⟩ := row_int c.1 (ml M1 (by simp))
    obtain ⟨t, t0, g⟩ := row_int c.2.1 (ml M2 (by simp))
    obtain ⟨u, u0, h⟩ := row_int c.2.2.1 (ml M3 (by simp))
    obtain ⟨a1, A1, B1⟩ := f _ (lt e1 (by simp))
    obtain ⟨a2, A2, B2⟩ := f _ (lt e2 (by simp))
    obtain ⟨a3, A3, B3⟩ := f _ (lt e3 (by simp))
    obtain ⟨b1, G1, H1⟩ := g _ (lt e1 (by simp))
    obtain ⟨b2, G2, H2⟩ := g _ (lt e2 (by simp))
    obtain ⟨b3, G3, H3⟩ := g _ (lt e3 (by simp))
    obtain ⟨c1, P1, Q1⟩ := h _ (lt e1 (by simp))
    obtain ⟨c2, P2, Q2⟩ := h _ (lt e2 (by simp))
    obtain ⟨c3, P3, Q3⟩ := h _ (lt e3 (by simp))
    have nz : det3 (M1.getD (leadN e1) 0) (M1.getD (leadN e2) 0) (M1.getD (leadN e3) 0) (M2.getD (leadN e1) 0) (M2.getD (leadN e2) 0) (M2.getD (leadN e3) 0) (M3.getD (leadN e1) 0) (M3.getD (leadN e2) 0) (M3.getD (leadN e3) 0) ≠ 0 := nz
    have D0 : int3 a1 a2 a3 b1 b2 b3 c1 c2 c3 ≠ 0 := ne_of_cast (y := s * t * u) (by rw [A1, A2, A3, G1, G2, G3, P1, P2, P3, sc3, int3_c]) nz
    have sm : [k1, k2, k3].sum = k1 + k2 + k3 := by simp; omega
    refine ⟨int3 a1 a2 a3 b1 b2 b3 c1 c2 c3, D0, (int3_b B1 B2 B3 H1 H2 H3 Q1 Q2 Q3).mono (by omega), fun e he => num (le e he) fun c hc => ?_⟩
    obtain ⟨za, Z1, Y1⟩ := f c hc
    obtain ⟨zb, Z2, Y2⟩ := g c hc
    obtain ⟨zc, Z3, Y3⟩ := h c hc
    have q1 : M1.getD c 0 = M1.getD (leadN e1) 0 * e1.getD c 0 + (M1.getD (leadN e2) 0 * e2.getD c 0 + (M1.getD (leadN e3) 0 * e3.getD c 0 + 0)) := sp M1 (by simp) c hc
    have q2 : M2.getD c 0 = M2.getD (leadN e1) 0 * e1.getD c 0 + (M2.getD (leadN e2) 0 * e2.getD c 0 + (M2.getD (leadN e3) 0 * e3.getD c 0 + 0)) := sp M2 (by simp) c hc
    have q3 : M3.getD c 0 = M3.getD (leadN e1) 0 * e1.getD c 0 + (M3.getD (leadN e2) 0 * e2.getD c 0 + (M3.getD (leadN e3) 0 * e3.getD c 0 + 0)) := sp M3 (by simp) c hc
    rw [Z1, A1, A2, A3] at q1
    rw [Z2, G1, G2, G3] at q2
    rw [Z3, P1, P2, P3] at q3
    have r1 : (za : Rat) = a1 * e1.getD c 0 + a2 * e2.getD c 0 + a3 * e3.getD c 0 := canc s0 (by grind)
    have r2 : (zb : Rat) = b1 * e1.getD c 0 + b2 * e2.getD c 0 + b3 * e3.getD c 0 := canc t0 (by grind)
    have r3 : (zc : Rat) = c1 * e1.getD c 0 + c2 * e2.getD c 0 + c3 * e3.getD c 0 := canc u0 (by grind)
    rcases List.mem_cons.mp he with w | w
    · rw [w]
      exact ⟨int3 za a2 a3 zb b2 b3 zc c2 c3, frac_is (by rw [int3_c, int3_c, r1, r2, r3, cr3_1]) D0, (int3_b Y1 B2 B3 Y2 H2 H3 Y3 Q2 Q3).mono (by omega)⟩
    · rcases List.mem_cons.mp w with w | w
      · rw [w]
        exact ⟨int3 a1 za a3 b1 zb b3 c1 zc c3, frac_is (by rw [int3_c, int3_c, r1, r2, r3, cr3_2]) D0, (int3_b B1 Y1 B3 H1 Y2 H3 Q1 Y3 Q3).mono (by omega)⟩
      · rw [List.mem_singleton.mp w]
        exact ⟨int3 a1 a2 za b1 b2 zb c1 c2 zc, frac_is (by rw [int3_c, int3_c, r1, r2, r3, cr3_3]) D0, (int3_b B1 B2 Y1 H1 H2 Y2 Q1 Q2 Y3).mono (by omega)⟩
  | [e1, e2, e3, e4], [M1, M2, M3, M4], [k1, k2, k3, k4], _, ml, sp, nz, c, _, lt, le =>
    obtain ⟨s, s0, f⟩ := row_int c.1 (ml M1 (by simp))
    obtain ⟨t, t0, g⟩ := row_int c.2.1 (ml M2 (by simp))
    obtain ⟨u, u0, h⟩ := row_int c.2.2.1 (ml M3 (by simp))
    obtain ⟨v, v0, j⟩ := row_int c.2.2.2.1 (ml M4 (by simp))
    obtain ⟨a1, A1, B1⟩ := f _ (lt e1 (by simp))
    obtain ⟨a2, A2, B2⟩ := f _ (lt e2 (by simp))
    obtain ⟨a3, A3, B3⟩ := f _ (lt e3 (by simp))
    obtain ⟨a4, A4, B4⟩ := f _ (lt e4 (by simp))
    obtain ⟨b1, G1, H1⟩ := g _ (lt e1 (by simp))
    obtain ⟨b2, G2, H2⟩ := g _ (lt e2 (by simp))
    obtain ⟨b3, G3, H3⟩ := g _ (lt e3 (by simp))
    obtain ⟨b4, G4, H4⟩ := g _ (lt e4 (by simp))
    obtain ⟨c1, P1, Q1⟩ := h _ (lt e1 (by simp))
    obtain ⟨c2, P2, Q2⟩ := h _ (lt e2 (by simp))
    obtain ⟨c3, P3, Q3⟩ := h _ (lt e3 (by simp))
    obtain ⟨c4, P4, Q4⟩ := h _ (lt e4 (by simp))
    obtain ⟨d1, V1, W1⟩ := j _ (lt e1 (by simp))
    obtain ⟨d2, V2, W2⟩ := j _ (lt e2 (by simp))
    obtain ⟨d3, V3, W3⟩ := j _ (lt e3 (by simp))
    obtain ⟨d4, V4, W4⟩ := j _ (lt e4 (by simp))
    have nz : det4 (M1.getD (leadN e1) 0) (M1.getD (leadN e2) 0) (M1.getD (leadN e3) 0) (M1.getD (leadN e4) 0) (M2.getD (leadN e1) 0) (M2.getD (leadN e2) 0) (M2.getD (leadN e3) 0) (M2.getD (leadN e4) 0) (M3.getD (leadN e1) 0) (M3.getD (leadN e2) 0) (M3.getD (leadN e3) 0) (M3.getD (leadN e4) 0) (M4.getD (leadN e1) 0) (M4.getD (leadN e2) 0) (M4.getD (leadN e3) 0) (M4.getD (leadN e4) 0) ≠ 0 := nz
    have D0 : int4 a1 a2 a3 a4 b1 b2 b3 b4 c1 c2 c3 c4 d1 d2 d3 d4 ≠ 0 := ne_of_cast (y := s * t * u * v) (by rw [A1, A2, A3, A4, G1, G2, G3, G4, P1, P2, P3, P4, V1, V2, V3, V4, sc4, int4_c]) nz
    have sm : [k1, k2, k3, k4].sum = k1 + k2 + k3 + k4 := by simp; omega
    refine ⟨int4 a1 a2 a3 a4 b1 b2 b3 b4 c1 c2 c3 c4 d1 d2 d3 d4, D0, (int4_b B1 B2 B3 B4 H1 H2 H3 H4 Q1 Q2 Q3 Q4 W1 W2 W3 W4).mono (by omega), fun e he => num (le e he) fun c hc => ?_⟩
    obtain ⟨za, Z1, Y1⟩ := f c hc
    obtain ⟨zb, Z2, Y2⟩ := g c hc
    obtain ⟨zc, Z3, Y3⟩ := h c hc
    obtain ⟨zd, Z4, Y4⟩ := j c hc
    have q1 : M1.getD c 0 = M1.getD (leadN e1) 0 * e1.getD c 0 + (M1.getD (leadN e2) 0 * e2.getD c 0 + (M1.getD (leadN e3) 0 * e3.getD c 0 + (M1.getD (leadN e4) 0 * e4.getD c 0 + 0))) := sp M1 (by simp) c hc
    have q2 : M2.getD c 0 = M2.getD (leadN e1) 0 * e1.getD c 0 + (M2.getD (leadN e2) 0 * e2.getD c 0 + (M2.getD (leadN e3) 0 * e3.getD c 0 + (M2.getD (leadN e4) 0 * e4.getD c 0 + 0))) := sp M2 (by simp) c hc
    have q3 : M3.getD c 0 = M3.getD (leadN e1) 0 * e1.getD c 0 + (M3.getD (leadN e2) 0 * e2.getD c 0 + (M3.getD (leadN e3) 0 * e3.getD c 0 + (M3.getD (leadN e4) 0 * e4.getD c 0 + 0))) := sp M3 (by simp) c hc
    have q4 : M4.getD c 0 = M4.getD (leadN e1) 0 * e1.getD c 0 + (M4.getD (leadN e2) 0 * e2.getD c 0 + (M4.getD (leadN e3) 0 * e3.getD c 0 + (M4.getD (leadN e4) 0 * e4.getD c 0 + 0))) := sp M4 (by simp) c hc
    rw [Z1, A1, A2, A3, A4] at q1
    rw [Z2, G1, G2, G3, G4] at q2
    rw [Z3, P1, P2, P3, P4] at q3
    rw [Z4, V1, V2, V3, V4] at q4
    have r1 : (za : Rat) = a1 * e1.getD c 0 + a2 * e2.getD c 0 + a3 * e3.getD c 0 + a4 * e4.getD c 0 := canc s0 (by grind)
    have r2 : (zb : Rat) = b1 * e1.getD c 0 + b2 * e2.getD c 0 + b3 * e3.getD c 0 + b4 * e4.getD c 0 := canc t0 (by grind)
    have r3 : (zc : Rat) = c1 * e1.getD c 0 + c2 * e2.getD c 0 + c3 * e3.getD c 0 + c4 * e4.getD c 0 := canc u0 (by grind)
    have r4 : (zd : Rat) = d1 * e1.getD c 0 + d2 * e2.getD c 0 + d3 * e3.getD c 0 + d4 * e4.getD c 0 := canc v0 (by grind)
    rcases List.mem_cons.mp he with w | w
    · rw [w]
      exact ⟨int4 za a2 a3 a4 zb b2 b3 b4 zc c2 c3 c4 zd d2 d3 d4, frac_is (by rw [int4_c, int4_c, r1, r2, r3, r4, cr4_1]) D0, (int4_b Y1 B2 B3 B4 Y2 H2 H3 H4 Y3 Q2 Q3 Q4 Y4 W2 W3 W4).mono (by omega)⟩
    · rcases List.mem_cons.mp w with w | w
      · rw [w]
        exact ⟨int4 a1 za a3 a4 b1 zb b3 b4 c1 zc c3 c4 d1 zd d3 d4, frac_is (by rw [int4_c, int4_c, r1, r2, r3, r4, cr4_2]) D0, (int4_b B1 Y1 B3 B4 H1 Y2 H3 H4 Q1 Y3 Q3 Q4 W1 Y4 W3 W4).mono (by omega)⟩
      · rcases List.mem_cons.mp w with w | w
        · rw [w]
          exact ⟨int4 a1 a2 za a4 b1 b2 zb b4 c1 c2 zc c4 d1 d2 zd d4, frac_is (by rw [int4_c, int4_c, r1, r2, r3, r4, cr4_3]) D0, (int4_b B1 B2 Y1 B4 H1 H2 Y2 H4 Q1 Q2 Y3 Q4 W1 W2 Y4 W4).mono (by omega)⟩
        · rw [List.mem_singleton.mp w]
          exact ⟨int4 a1 a2 a3 za b1 b2 b3 zb c1 c2 c3 zc d1 d2 d3 zd, frac_is (by rw [int4_c, int4_c, r1, r2, r3, r4, cr4_4]) D0, (int4_b B1 B2 B3 Y1 H1 H2 H3 Y2 Q1 Q2 Q3 Y3 W1 W2 W3 Y4).mono (by omega)⟩
  | _ :: _ :: _ :: _ :: _ :: _, _, _, _, _, _, _, _, t4, _, _ => exact absurd t4 (by simp)
  | [_], [_], [], _, _, _, _, c, _, _, _ => exact c.elim
  | [_], [_], _ :: _ :: _, _, _, _, _, c, _, _, _ => exact c.2.elim
  | [_, _], [_, _], [], _, _, _, _, c, _, _, _ => exact c.elim
  | [_, _], [_, _], [_], _, _, _, _, c, _, _, _ => exact c.2.elim
  | [_, _], [_, _], _ :: _ :: _ :: _, _, _, _, _, c, _, _, _ => exact c.2.2.elim
  | [_, _, _], [_, _, _], [], _, _, _, _, c, _, _, _ => exact c.elim
  | [_, _, _], [_, _, _], [_], _, _, _, _, c, _, _, _ => exact c.2.elim
  | [_, _, _], [_, _, _], [_, _], _, _, _, _, c, _, _, _ => exact c.2.2.elim
  | [_, _, _], [_, _, _], _ :: _ :: _ :: _ :: _, _, _, _, _, c, _, _, _ => exact c.2.2.2.elim
  | [_, _, _, _], [_, _, _, _], [], _, _, _, _, c, _, _, _ => exact c.elim
  | [_, _, _, _], [_, _, _, _], [_], _, _, _, _, c, _, _, _ => exact c.2.elim
  | [_, _, _, _], [_, _, _, _], [_, _], _, _, _, _, c, _, _, _ => exact c.2.2.elim
  | [_, _, _, _], [_, _, _, _], [_, _, _], _, _, _, _, c, _, _, _ => exact c.2.2.2.elim
  | [_, _, _, _], [_, _, _, _], _ :: _ :: _ :: _ :: _ :: _, _, _, _, _, c, _, _, _ => exact c.2.2.2.2.elim
  | [], _ :: _, _, l, _, _, _, _, _, _, _ => exact nomatch l
  | [_], [], _, l, _, _, _, _, _, _, _ => exact nomatch l
  | [_], _ :: _ :: _, _, l, _, _, _, _, _, _, _ => exact absurd l (by simp)
  | [_, _], [], _, l, _, _, _, _, _, _, _ => exact nomatch l
  | [_, _], [_], _, l, _, _, _, _, _, _, _ => exact absurd l (by simp)
  | [_, _], _ :: _ :: _ :: _, _, l, _, _, _, _, _, _, _ => exact absurd l (by simp)
  | [_, _, _], [], _, l, _, _, _, _, _, _, _ => exact nomatch l
  | [_, _, _], [_], _, l, _, _, _, _, _, _, _ => exact absurd l (by simp)
  | [_, _, _], [_, _], _, l, _, _, _, _, _, _, _ => exact absurd l (by simp)
  | [_, _, _], _ :: _ :: _ :: _ :: _, _, l, _, _, _, _, _, _, _ => exact absurd l (by simp)
  | [_, _, _, _], [], _, l, _, _, _, _, _, _, _ => exact nomatch l
  | [_, _, _, _], [_], _, l, _, _, _, _, _, _, _ => exact absurd l (by simp)
  | [_, _, _, _], [_, _], _, l, _, _, _, _, _, _, _ => exact absurd l (by simp)
  | [_, _, _, _], [_, _, _], _, l, _, _, _, _, _, _, _ => exact absurd l (by simp)
  | [_, _, _, _], _ :: _ :: _ :: _ :: _ :: _, _, l, _, _, _, _, _, _, _ => exact absurd l (by simp)
end Vm
end
section
set_option Elab.async false
set_option linter.all false
set_option maxRecDepth 100000
namespace Vm
open PySem PySem.Spec L2
def ct : Nat → Nat
  | 0 => 1
  | 1 => 0
  | 2 => 1
  | 3 => 3
  | _ => 5
end Vm
end
section
set_option Elab.async false
set_option linter.all false
set_option maxRecDepth 100000
namespace Vm
open PySem PySem.Spec L2
theorem fdiv_q {i j : Int} (h0 : j ≠ 0) (h : Builtin.divisionGoesByPylong i j = false) : prim .fdiv [.int i, .int j] = .ok (.int (i.fdiv j)) := by
  rw [p_fdiv_i]
  by_cases c : divOk j = true
  · rw [if_pos c]
    have h1 : (0 : Int) < j := of_decide_eq_true ((Bool.and_eq_true _ _).mp c).1
    rw [Int.fdiv_eq_ediv_of_nonneg i (show 0 ≤ j by omega)]
  · rw [if_neg c]
    unfold dnegR dneg
    by_cases d : (decide (j < 0) && decide (j.natAbs.log2 < 9000)) = true
    · rw [if_pos d]
    · rw [if_neg d, decide_eq_true h0, h]
      rfl
theorem log_mul (a b : Nat) (ha : a ≠ 0) (hb : b ≠ 0) : (a * b).log2 ≤ a.log2 + b.log2 + 1 := by
  have h1 : a < 2 ^ (a.log2 + 1) := Nat.lt_log2_self
  have h2 : b < 2 ^ (b.log2 + 1) := Nat.lt_log2_self
  have h3 : a * b < 2 ^ (a.log2 + b.log2 + 2) := by
    have e : a.log2 + b.log2 + 2 = (a.log2 + 1) + (b.log2 + 1) := by omega
    rw [e, Nat.pow_add]
    exact Nat.mul_lt_mul'' h1 h2
  have := (Nat.log2_lt (Nat.mul_ne_zero ha hb)).mpr h3
  omega
theorem goes_q {j q : Int} (hq : Bd 4400 q) : Builtin.divisionGoesByPylong (j * q) j = false := by
  by_cases hj : j = 0
  · subst hj
    rw [Int.zero_mul]
    rfl
  by_cases h0 : q = 0
  · subst h0
    rw [Int.mul_zero]
    unfold Builtin.divisionGoesByPylong
    exact (Bool.and_eq_false_iff).mpr (.inr (decide_eq_false (by simp)))
  · have nz : (j * q) ≠ 0 := Int.mul_ne_zero hj h0
    have l := log_mul j.natAbs q.natAbs (by omega) (by omega)
    have lq : q.natAbs.log2 < 4400 := (Nat.log2_lt (by omega)).mpr hq
    rw [← Int.natAbs_mul] at l
    have ej : (j == 0) = false := beq_eq_false_iff_ne.mpr hj
    have en : (j * q == 0) = false := beq_eq_false_iff_ne.mpr nz
    unfold Builtin.divisionGoesByPylong
    simp only [ej, en, Bool.false_eq_true, if_false]
    exact (Bool.and_eq_false_iff).mpr (.inr (decide_eq_false (by omega)))
def Fine (q : Int) (r : Rat) : Prop := (∃ k, k < 9000 ∧ Bd k q) ∨ Ht 4400 r
theorem exact_q {p g : Int} (h : g ∣ p) : p = g * (p / g) := (Int.mul_ediv_cancel' h).symm
theorem fine_div {p q : Int} {x y : Int} (hq : q ≠ 0) (f : Fine q (Rat.divInt p q)) (dv : ((p.gcd q : Nat) : Int) ∣ x) (e : x / ((p.gcd q : Nat) : Int) = y) (hy : Ht 4400 (Rat.divInt p q) → Bd 4400 y) : prim .fdiv [.int x, .int ((p.gcd q : Nat) : Int)] = .ok (.int y) := by
  have g0 : (0 : Int) < ((p.gcd q : Nat) : Int) := by have := Int.gcd_pos_of_ne_zero_right p hq; omega
  have gs : Builtin.divisionGoesByPylong x ((p.gcd q : Nat) : Int) = false := by
    rcases f with ⟨k, k9, b⟩ | h
    · have := (gcd_bd (p := p) b hq).1.log
      exact PyProof.noPylong_of_log2 (by omega)
    · have z := exact_q dv
      rw [e] at z
      rw [z]
      exact goes_q (hy h)
  rw [fdiv_q (by omega) gs, Int.fdiv_eq_ediv_of_nonneg _ (by omega), e]
theorem gcd_dvd {p q s : Int} : ((p.gcd q : Nat) : Int) ∣ s * p ∧ ((p.gcd q : Nat) : Int) ∣ s * q := ⟨Int.dvd_mul_of_dvd_right (Int.gcd_dvd_left ..), Int.dvd_mul_of_dvd_right (Int.gcd_dvd_right ..)⟩
theorem fractionG {K : Nat} {p q : Int} (hq : q ≠ 0) (h1 : Bd K p) (h2 : Bd K q) (hK : K < 100000) (f : Fine q (Rat.divInt p q)) : f_fraction (.int p) (.int q) = .ok (fr (Rat.divInt p q)) := by
  obtain ⟨x, e, g, _⟩ := cdl big p q (big_gt (k := K) h2 (by omega))
  have cd : f_common_divisor (.int p) (.int q) = .ok (.int ((p.gcd q : Nat) : Int)) := by
    unfold f_common_divisor
    simp -implicitDefEqProofs only [b_ok, b_bad, nx_ok, iteD_t, iteD_f, un1_t, un2_t, un3_t, un4_t, asL_l, ownK_s, el_nx, el_rt, p_add_i, p_sub_i, p_neg_i, p_mul_i, p_fdiv_i, p_mod_i, p_ix_t, p_ix_l, p_lt_i, p_le_i, p_gt_i, p_ge_i, p_abs_i, p_not_b, p_len_t, p_len_l, p_eq_i, p_ne_i, ix_0, ix_1, ix_2, if_true, if_false, fls_iff, tru_iff, Bool.false_eq_true, Bool.true_eq_false, e, abs_if, g]
  have d1 := fine_div hq f (gcd_dvd (p := p) (q := q) (s := q.sign)).1 fr_num.symm (fun h => h.1)
  have d2 := fine_div hq f (gcd_dvd (p := p) (q := q) (s := q.sign)).2 (fr_den hq).symm (fun h => h.2)
  unfold f_fraction
  by_cases hs : q < 0
  · have e2 : q.sign = -1 := Int.sign_eq_neg_one_of_neg hs
    rw [e2] at d1 d2
    have s1 : mulOk (-1) p = true := mulOk_bd (k := 1) (m := K) (by unfold Bd; decide) h1
    have s2 : mulOk (-1) q = true := mulOk_bd (k := 1) (m := K) (by unfold Bd; decide) h2
    simp only [p_eq_i, decide_eq_false hq, b_ok, iteD_f, cd, p_lt_i, decide_eq_true hs, iteD_t, p_neg_i, p_mul_i, s1, s2, if_true, d1, d2]
    rfl
  · have e2 : q.sign = 1 := Int.sign_eq_one_of_pos (by omega)
    rw [e2] at d1 d2
    have s1 : mulOk 1 p = true := mulOk_bd (k := 1) (m := K) (by unfold Bd; decide) h1
    have s2 : mulOk 1 q = true := mulOk_bd (k := 1) (m := K) (by unfold Bd; decide) h2
    simp only [p_eq_i, decide_eq_false hq, b_ok, iteD_f, cd, p_lt_i, decide_eq_false hs, p_mul_i, s1, s2, if_true, d1, d2]
    rfl
section
variable {k m : Nat} {a b : Rat}
def MkG (f : D → D → R D) : Prop := ∀ {K : Nat} {p q : Int}, q ≠ 0 → Bd K p → Bd K q → K < 100000 → Fine q (Rat.divInt p q) → f (.int p) (.int q) = .ok (fr (Rat.divInt p q))
theorem mk_fraction : MkG f_fraction := fun a b c d e => fractionG a b c d e
theorem fine_or {q : Int} {r : Rat} {k : Nat} (h : Bd k q) (o : k < 9000 ∨ Ht 4400 r) : Fine q r := o.elim (fun l => .inl ⟨k, l, h⟩) .inr
theorem div_mkG {f : D → D → R D} (ok : MkG f) (hb : b ≠ 0) (h : Ht k a) (g : Ht m b) (hk : k + m < 50000) (o : k + m < 9000 ∨ Ht 4400 (a / b)) : f (.int (a.num * b.den)) (.int ((a.den : Int) * b.num)) = .ok (fr (a / b)) := by
  have h3 := h.2.mul g.1
  rw [div_eq] at o ⊢
  exact ok (K := k + m) (Int.mul_ne_zero (den_ne a) (fun e => hb (Rat.num_eq_zero.mp e))) (h.1.mul g.2) h3 (by omega) (fine_or h3 o)
theorem divideG (hb : b ≠ 0) (h : Ht k a) (g : Ht m b) (hk : k + m < 50000) (o : k + m < 9000 ∨ Ht 4400 (a / b)) : f_divide (fr a) (fr b) = .ok (fr (a / b)) := by
  have q1 : mulOk a.num b.den = true := mulOk_bd h.1 g.2
  have q2 : mulOk a.den b.num = true := mulOk_bd h.2 g.1
  have e := div_mkG mk_fraction hb h g hk o
  show f_divide (.tup [.int a.num, .int a.den]) (.tup [.int b.num, .int b.den]) = _
  unfold f_divide
  simp -implicitDefEqProofs only [b_ok, b_bad, nx_ok, iteD_t, iteD_f, un1_t, un2_t, un3_t, un4_t, asL_l, ownK_s, el_nx, el_rt, p_add_i, p_sub_i, p_neg_i, p_mul_i, p_fdiv_i, p_mod_i, p_ix_t, p_ix_l, p_lt_i, p_le_i, p_gt_i, p_ge_i, p_abs_i, p_not_b, p_len_t, p_len_l, p_eq_i, p_ne_i, ix_0, ix_1, ix_2, if_true, if_false, fls_iff, tru_iff, Bool.false_eq_true, Bool.true_eq_false, q1, q2, e]
end
section
variable {n k g : Nat} {E : List (List Rat)} {r : List Rat}
end
end Vm
end
section
set_option Elab.async false
set_option linter.all false
set_option maxRecDepth 100000
namespace Vm
open PySem PySem.Spec L2
def sg (a b : Rat) : Int := (if b < a then 1 else 0) - (if a < b then 1 else 0)
theorem cmp_sg (a b : Rat) : cmpI (a.num * b.den) (b.num * a.den) = sg a b := by
  unfold cmpI sg
  have e1 : (b < a) ↔ (b.num * a.den < a.num * b.den) := Rat.lt_iff b a
  have e2 : (a < b) ↔ (a.num * b.den < b.num * a.den) := Rat.lt_iff a b
  by_cases h1 : b < a
  · have h1' := e1.mp h1
    by_cases h2 : a < b
    · have h2' := e2.mp h2
      rw [if_pos h1, if_pos h2, decide_eq_true h1', decide_eq_true h2', if_pos rfl]
    · have h2' := fun z => h2 (e2.mpr z)
      rw [if_pos h1, if_neg h2, decide_eq_true h1', decide_eq_false h2', if_pos rfl, if_neg (fun z => nomatch z)]
  · have h1' := fun z => h1 (e1.mpr z)
    by_cases h2 : a < b
    · have h2' := e2.mp h2
      rw [if_neg h1, if_pos h2, decide_eq_false h1', decide_eq_true h2', if_pos rfl, if_neg (fun z => nomatch z)]
    · have h2' := fun z => h2 (e2.mpr z)
      rw [if_neg h1, if_neg h2, decide_eq_false h1', decide_eq_false h2', if_neg (fun z => nomatch z)]
theorem tri (a b : Rat) : (a < b ∧ sg a b = -1) ∨ (a = b ∧ sg a b = 0) ∨ (b < a ∧ sg a b = 1) := by
  by_cases h1 : a < b
  · refine .inl ⟨h1, ?_⟩
    unfold sg
    rw [if_pos h1, if_neg (by grind)]
    rfl
  · by_cases h2 : b < a
    · refine .inr (.inr ⟨h2, ?_⟩)
      unfold sg
      rw [if_neg h1, if_pos h2]
      rfl
    · refine .inr (.inl ⟨by grind, ?_⟩)
      unfold sg
      rw [if_neg h1, if_neg h2]
      rfl
theorem sg_lt {a b : Rat} (h : a < b) : sg a b = -1 := by
  rcases tri a b with ⟨_, e⟩ | ⟨z, _⟩ | ⟨z, _⟩
  · exact e
  · grind
  · grind
theorem sg_gt {a b : Rat} (h : b < a) : sg a b = 1 := by
  rcases tri a b with ⟨z, _⟩ | ⟨z, _⟩ | ⟨_, e⟩
  · grind
  · grind
  · exact e
theorem sg_eq {a b : Rat} (h : a = b) : sg a b = 0 := by
  rcases tri a b with ⟨z, _⟩ | ⟨_, e⟩ | ⟨z, _⟩
  · grind
  · exact e
  · grind
theorem sg_add (a b c : Rat) : sg (a + c) (b + c) = sg a b := by
  rcases tri a b with ⟨z, e⟩ | ⟨z, e⟩ | ⟨z, e⟩
  · rw [e, sg_lt (by grind)]
  · rw [e, sg_eq (by rw [z])]
  · rw [e, sg_gt (by grind)]
theorem sg_mul (a b c : Rat) : sg (a * c) (b * c) = sg a b * sg c 0 := by
  rcases tri c 0 with ⟨w, f⟩ | ⟨w, f⟩ | ⟨w, f⟩
  · have w' : 0 < -c := by grind
    rcases tri a b with ⟨z, e⟩ | ⟨z, e⟩ | ⟨z, e⟩
    · have := Rat.mul_pos (show 0 < b - a by grind) w'
      rw [e, f, sg_gt (by grind)]
      rfl
    · rw [e, f, sg_eq (by rw [z])]
      rfl
    · have := Rat.mul_pos (show 0 < a - b by grind) w'
      rw [e, f, sg_lt (by grind)]
      rfl
  · rw [f, w, Rat.mul_zero, Rat.mul_zero, sg_eq rfl, Int.mul_zero]
  · rcases tri a b with ⟨z, e⟩ | ⟨z, e⟩ | ⟨z, e⟩
    · have := Rat.mul_pos (show 0 < b - a by grind) w
      rw [e, f, sg_lt (by grind)]
      rfl
    · rw [e, f, sg_eq (by rw [z])]
      rfl
    · have := Rat.mul_pos (show 0 < a - b by grind) w
      rw [e, f, sg_gt (by grind)]
      rfl
theorem sg_swap (a b : Rat) : sg a b = 0 - sg b a := by
  rcases tri a b with ⟨z, e⟩ | ⟨z, e⟩ | ⟨z, e⟩
  · rw [e, sg_gt z]
    rfl
  · rw [e, sg_eq z.symm]
    rfl
  · rw [e, sg_lt z]
    rfl
theorem sg_trans {a b c : Rat} (h : sg a b = sg b c) : sg a c = sg a b := by
  rcases tri a b with ⟨z, e⟩ | ⟨z, e⟩ | ⟨z, e⟩
  · rcases tri b c with ⟨w, f⟩ | ⟨w, f⟩ | ⟨w, f⟩
    · rw [e, sg_lt (by grind)]
    · rw [e, f] at h; exact absurd h (by decide)
    · rw [e, f] at h; exact absurd h (by decide)
  · rw [z] at h ⊢
    exact h.symm.trans rfl |> fun _ => by rw [sg_eq (rfl : b = b)] at h ⊢; exact h.symm
  · rcases tri b c with ⟨w, f⟩ | ⟨w, f⟩ | ⟨w, f⟩
    · rw [e, f] at h; exact absurd h (by decide)
    · rw [e, f] at h; exact absurd h (by decide)
    · rw [e, sg_gt (by grind)]
theorem absR_is (a : Rat) : absR a = if a < 0 then -a else a := by
  unfold absR
  have e : (a < 0) ↔ (a.num * (0 : Rat).den < (0 : Rat).num * a.den) := Rat.lt_iff a 0
  have d : (0 : Rat).den = 1 := rfl
  have n : (0 : Rat).num = 0 := rfl
  rw [d, n, Int.zero_mul] at e
  have e : (a < 0) ↔ a.num < 0 := by
    rw [e]
    constructor <;> intro h <;> omega
  by_cases h : a < 0
  · rw [if_pos h, if_pos (e.mp h)]
  · rw [if_neg h, if_neg (fun z => h (e.mpr z))]
theorem sg_abs (a b : Rat) : ¬ (0 < sg (absR (a + b)) (absR a + absR b)) := by
  have : ¬ (absR a + absR b < absR (a + b)) := by
    rw [absR_is, absR_is, absR_is]
    split <;> split <;> split <;> grind
  rcases tri (absR (a + b)) (absR a + absR b) with ⟨z, e⟩ | ⟨z, e⟩ | ⟨z, e⟩
  · rw [e]; decide
  · rw [e]; decide
  · exact absurd z this
section
variable {a b c : Rat}
theorem cmpS (h : Ht 400 a) (g : Ht 400 b) : f_compare (fr a) (fr b) = .ok (.int (sg a b)) := by
  rw [compare_ok h g (by omega), cmp_sg]
theorem frNe (h : Ht 400 a) (g : Ht 400 b) (e : a = b) : prim .ne [fr a, fr b] = .ok (.bl false) := by
  subst e
  have k : (fr a).okEq = true := eq_ok_num (k := 1) (fr_num_ok (n := 0) h (by omega)) (by decide)
  show (if (fr a).okEq && (fr a).okEq then R.ok (D.bl (!(fr a).eqv (fr a))) else .bad) = _
  rw [k, fr_eqv, decide_eq_true rfl]
  rfl
theorem ne_ii (i j : Int) : prim .ne [.int i, .int j] = .ok (.bl (!decide (i = j))) := p_ne_i i j
theorem total3 (ha : Ht 400 a) (hb : Ht 400 b) (hc : Ht 400 c) (h1 : Ht 400 (a + b)) : f_total_2 (.lst [fr a, fr b, fr c]) = .ok (fr (a + b + c)) := by
  have s0 := addF_ok (ht_0 400 (by omega)) ha (by omega)
  rw [Rat.zero_add] at s0
  have s1 := addF_ok ha hb (by omega)
  have s2 := addF_ok h1 hc (by omega)
  have z0 : D.tup [D.int 0, D.int 1] = fr 0 := rfl
  have l : f_total_2_l1 [fr a, fr b, fr c] (fr 0) = .ok (fr (a + b + c)) := by
    unfold f_total_2_l1
    simp -implicitDefEqProofs only [s0, b_ok]
    unfold f_total_2_l1
    simp -implicitDefEqProofs only [s1, b_ok]
    unfold f_total_2_l1
    simp -implicitDefEqProofs only [s2, b_ok]
    rfl
  unfold f_total_2
  simp -implicitDefEqProofs only [it_seq_l, b_ok, z0, l]
theorem three_ok (ha : Ht 40 a) (hb : Ht 40 b) (hc : Ht 40 c) : f_law_three_right (fr a) (fr b) (fr c) = .ok (.bl true) := by
  have A : Ht 400 a := ha.mono (by omega)
  have B : Ht 400 b := hb.mono (by omega)
  have C : Ht 400 c := hc.mono (by omega)
  have AB : Ht 400 (a + b) := (ha.add hb).mono (by omega)
  have BC : Ht 400 (b + c) := (hb.add hc).mono (by omega)
  have AC : Ht 400 (a + c) := (ha.add hc).mono (by omega)
  have ab : Ht 400 (a * b) := (ha.mul hb).mono (by omega)
  have bc : Ht 400 (b * c) := (hb.mul hc).mono (by omega)
  have ac : Ht 400 (a * c) := (ha.mul hc).mono (by omega)
  have s1 := addF_ok A B (by omega)
  have s2 := addF_ok AB C (by omega)
  have s3 := addF_ok B C (by omega)
  have s4 := addF_ok A BC (by omega)
  have n1 := frNe (((ha.add hb).add hc).mono (by omega)) ((ha.add (hb.add hc)).mono (by omega)) (Rat.add_assoc a b c)
  have m1 := multiply_ok A B (by omega)
  have m2 := multiply_ok ab C (by omega)
  have m3 := multiply_ok B C (by omega)
  have m4 := multiply_ok A bc (by omega)
  have n2 := frNe (((ha.mul hb).mul hc).mono (by omega)) ((ha.mul (hb.mul hc)).mono (by omega)) (Rat.mul_assoc a b c)
  have m5 := multiply_ok A BC (by omega)
  have m6 := multiply_ok A C (by omega)
  have s5 := addF_ok ab ac (by omega)
  have n3 := frNe ((ha.mul (hb.add hc)).mono (by omega)) (((ha.mul hb).add (ha.mul hc)).mono (by omega)) (Rat.mul_add a b c)
  have t := total3 A B C AB
  have n4 := n1
  have s6 := addF_ok A C (by omega)
  have c1 := cmpS AC BC
  rw [sg_add] at c1
  have c2 := cmpS A B
  have c3 := cmpS ac bc
  rw [sg_mul] at c3
  have z0 : D.tup [D.int 0, D.int 1] = fr 0 := rfl
  have c4 := cmpS C (ht_0 400 (by omega))
  have mo : mulOk (sg a b) (sg c 0) = true := mulOk_bd (k := 2) (m := 2) (by
    rcases tri a b with ⟨_, e⟩ | ⟨_, e⟩ | ⟨_, e⟩ <;> rw [e] <;> unfold Bd <;> decide) (by
    rcases tri c 0 with ⟨_, e⟩ | ⟨_, e⟩ | ⟨_, e⟩ <;> rw [e] <;> unfold Bd <;> decide)
  have c5 := cmpS B C
  have c6 := cmpS A C
  unfold f_law_three_right
  simp -implicitDefEqProofs only [s1, b_ok, s2, s3, s4, n1, iteD_f, m1, m2, m3, m4, n2, m5, m6, s5, n3, t, s6, c1, c2, ne_ii, decide_true, Bool.not_true, c3, z0, c4, p_mul_i, mo, if_true, c5, c6]
  by_cases h : sg a b = sg b c
  · have e := sg_trans h
    simp -implicitDefEqProofs only [decide_eq_true h, Bool.not_true, iteD_f, p_eq_i, decide_eq_true e, b_ok]
  · simp -implicitDefEqProofs only [decide_eq_false h, Bool.not_false, iteD_t]
theorem tr_c1 : ∀ qs : List Rat, (∀ q ∈ qs, q.num.natAbs < 10 ^ 30 ∧ q.den < 10 ^ 30) → f_law_two_right_c1 (frs qs) = .ok (qs.map fun q => tx (fracT q))
  | [], _ => rfl
  | q :: qs, h => by
    have ih := tr_c1 qs (fun x hx => h x (List.mem_cons_of_mem _ hx))
    obtain ⟨h1, h2⟩ := h q List.mem_cons_self
    have f := format_ok h1 h2
    show f_law_two_right_c1 (fr q :: frs qs) = _
    unfold f_law_two_right_c1
    simp -implicitDefEqProofs only [f, nx_ok, b_ok, ih]
    rfl
theorem tr_c2 : ∀ qs : List Rat, (∀ q ∈ qs, q.num.natAbs < 10 ^ 30 ∧ q.den < 10 ^ 30) → f_law_two_right_c2 (qs.map fun q => tx (fracT q)) = .ok (frs qs)
  | [], _ => rfl
  | q :: qs, h => by
    have ih := tr_c2 qs (fun x hx => h x (List.mem_cons_of_mem _ hx))
    obtain ⟨h1, h2⟩ := h q List.mem_cons_self
    have f := parse_ok h1 h2
    show f_law_two_right_c2 (tx (fracT q) :: qs.map fun q => tx (fracT q)) = _
    unfold f_law_two_right_c2
    simp -implicitDefEqProofs only [f, nx_ok, b_ok, ih]
    rfl
theorem tr_c3 : ∀ qs : List Rat, HtA 400 qs → f_law_two_right_c3 (frs qs) = .ok (List.replicate qs.length (.bl true))
  | [], _ => rfl
  | q :: qs, h => by
    have ih := tr_c3 qs (fun x hx => h x (List.mem_cons_of_mem _ hx))
    have f := isfrac (h q List.mem_cons_self) (by omega)
    show f_law_two_right_c3 (fr q :: frs qs) = _
    unfold f_law_two_right_c3
    simp -implicitDefEqProofs only [f, nx_ok, b_ok, ih]
    rfl
theorem lst_ne {qs : List Rat} (h : HtA 400 qs) : prim .ne [.lst (frs qs), .lst (frs qs)] = .ok (.bl false) := by
  have k : (D.lst (frs qs)).okEq = true := eq_ok_num (k := 2) (show D.numAll 1 (frs qs) = true from frs_num (n := 0) h (by omega)) (by decide)
  have e : (D.lst (frs qs)).eqv (.lst (frs qs)) = true := (frs_eqv qs qs).trans (decide_eq_true rfl)
  show (if (D.lst (frs qs)).okEq && (D.lst (frs qs)).okEq then R.ok (D.bl (!(D.lst (frs qs)).eqv (.lst (frs qs)))) else .bad) = _
  rw [k, e]
  rfl
theorem small_30 {k : Nat} {q : Rat} (h : Ht k q) (hk : k ≤ 99) : q.num.natAbs < 10 ^ 30 ∧ q.den < 10 ^ 30 := by
  have p : 2 ^ k ≤ 2 ^ 99 := Nat.pow_le_pow_right (by decide) hk
  have b : (2 : Nat) ^ 99 < 10 ^ 30 := by decide +kernel
  have h1 : q.num.natAbs < 2 ^ k := h.1
  have h2 : ((q.den : Int)).natAbs < 2 ^ k := h.2
  rw [Int.natAbs_natCast] at h2
  omega
theorem two_ok (ha : Ht 40 a) (hb : Ht 40 b) : f_law_two_right (fr a) (fr b) = .ok (.bl true) := by
  have A : Ht 400 a := ha.mono (by omega)
  have B : Ht 400 b := hb.mono (by omega)
  have AB : Ht 400 (a + b) := (ha.add hb).mono (by omega)
  have aMb : Ht 400 (a + -b) := (ha.add hb.neg).mono (by omega)
  have ab : Ht 400 (a * b) := (ha.mul hb).mono (by omega)
  have ba : Ht 400 (b * a) := (hb.mul ha).mono (by omega)
  have s1 := addF_ok A B (by omega)
  have s2 := addF_ok B A (by omega)
  have n1 := frNe AB ((hb.add ha).mono (by omega)) (Rat.add_comm a b)
  have m1 := multiply_ok A B (by omega)
  have m2 := multiply_ok B A (by omega)
  have n2 := frNe ab ba (Rat.mul_comm a b)
  have s3 := subtract_ok AB B (by omega)
  have n3 := frNe (((ha.add hb).add hb.neg).mono (by omega)) A (show a + b + -b = a by grind)
  have s4 := subtract_ok A B (by omega)
  have s5 := addF_ok A B.neg (by omega)
  have n4 := frNe aMb aMb rfl
  have c1 := cmpS A B
  have c2 := cmpS B A
  have n5 : prim .ne [.int (sg a b), .int (0 - sg b a)] = .ok (.bl false) := by
    rw [ne_ii, ← sg_swap, decide_eq_true rfl]
    rfl
  have z0 : D.tup [D.int 0, D.int 1] = fr 0 := rfl
  have hs := absolute_ok (a + b)
  have h1 := absolute_ok a
  have h2 := absolute_ok b
  have hA : Ht 400 (absR a) := absR_ht A
  have hB : Ht 400 (absR b) := absR_ht B
  have s6 := addF_ok hA hB (by omega)
  have c3 := cmpS (absR_ht AB) (((absR_ht ha).add (absR_ht hb)).mono (by omega))
  have g0 : decide ((0 : Int) < sg (absR (a + b)) (absR a + absR b)) = false := decide_eq_false (sg_abs a b)
  have q5 : ∀ q ∈ [a + b, a + -b, a * b, -a, absR a], ∃ k, k ≤ 99 ∧ Ht k q := fun q hq => by
    simp only [List.mem_cons, List.not_mem_nil, or_false] at hq
    rcases hq with rfl | rfl | rfl | rfl | rfl
    · exact ⟨81, by omega, ha.add hb⟩
    · exact ⟨81, by omega, ha.add hb.neg⟩
    · exact ⟨80, by omega, ha.mul hb⟩
    · exact ⟨40, by omega, ha.neg⟩
    · exact ⟨40, by omega, absR_ht ha⟩
  have q30 : ∀ q ∈ [a + b, a + -b, a * b, -a, absR a], q.num.natAbs < 10 ^ 30 ∧ q.den < 10 ^ 30 := fun q hq => by
    obtain ⟨k, hk, h⟩ := q5 q hq
    exact small_30 h hk
  have q400 : HtA 400 [a + b, a + -b, a * b, -a, absR a] := fun q hq => by
    obtain ⟨k, hk, h⟩ := q5 q hq
    exact h.mono (by omega)
  have t1 := tr_c1 _ q30
  have t2 := tr_c2 _ q30
  have t3 := tr_c3 _ q400
  have t1 : f_law_two_right_c1 [fr (a + b), fr (a + -b), fr (a * b), fr (-a), fr (absR a)] = .ok ([a + b, a + -b, a * b, -a, absR a].map fun q => tx (fracT q)) := t1
  have t3 : f_law_two_right_c3 [fr (a + b), fr (a + -b), fr (a * b), fr (-a), fr (absR a)] = .ok (List.replicate 5 (.bl true)) := t3
  have n6 := lst_ne q400
  have n6 : prim .ne [.lst (frs [a + b, a + -b, a * b, -a, absR a]), .lst [fr (a + b), fr (a + -b), fr (a * b), fr (-a), fr (absR a)]] = .ok (.bl false) := n6
  have nn : prim .nin [.bl false, .lst (List.replicate 5 (.bl true))] = .ok (.bl true) := rfl
  have l5 : [fr (a + b), fr (a + -b), fr (a * b), fr (-a), fr (absR a)].length ≤ lineN := by
    show 5 ≤ lineN
    unfold lineN
    omega
  have l6 : ([a + b, a + -b, a * b, -a, absR a].map fun q => tx (fracT q)).length ≤ lineN := by
    show 5 ≤ lineN
    unfold lineN
    omega
  unfold f_law_two_right
  by_cases b0 : b = 0
  · have e0 : prim .ne [fr b, fr 0] = .ok (.bl false) := frNe B (ht_0 400 (by omega)) b0
    simp -implicitDefEqProofs only [s1, b_ok, s2, n1, iteD_f, m1, m2, n2, s3, n3, s4, negative_ok, s5, n4, c1, c2, p_sub_i, n5, z0, e0, hs, h1, h2, s6, c3, p_gt_i, g0, it_seq_l, lcK_ok l5, t1, lcK_ok l6, t2, n6, t3, nn]
  · have e0 : prim .ne [fr b, fr 0] = .ok (.bl true) := by
      have k1 : (fr b).okEq = true := eq_ok_num (k := 1) (fr_num_ok (n := 0) B (by omega)) (by decide)
      have k2 : (fr 0).okEq = true := eq_ok_num (k := 1) (fr_num_ok (n := 0) (ht_0 400 (by omega)) (by omega)) (by decide)
      show (if (fr b).okEq && (fr 0).okEq then R.ok (D.bl (!(fr b).eqv (fr 0))) else .bad) = _
      rw [k1, k2, fr_eqv, decide_eq_false b0]
      rfl
    have d1 := divideG b0 ab B (by omega) (.inl (by omega))
    have k1 := frNe (((ha.mul hb).div b0 hb).mono (by omega)) A (show a * b / b = a by grind)
    have d2 := divideG b0 A B (by omega) (.inl (by omega))
    have m3 := multiply_ok ((ha.div b0 hb).mono (show 40 + 40 ≤ 400 by omega)) B (by omega)
    have k2 := frNe (((ha.div b0 hb).mul hb).mono (by omega)) A (show a / b * b = a by grind)
    simp -implicitDefEqProofs only [s1, b_ok, s2, n1, iteD_f, iteD_t, m1, m2, n2, s3, n3, s4, negative_ok, s5, n4, c1, c2, p_sub_i, n5, z0, e0, d1, k1, d2, m3, k2, hs, h1, h2, s6, c3, p_gt_i, g0, it_seq_l, lcK_ok l5, t1, lcK_ok l6, t2, n6, t3, nn]
end
theorem c1_04 {z : Int} (h2 : 2 ≤ z) (hk : z ≤ 2 ^ 40) : ∀ (ds : List D) (m : Nat) (l : List D), Sup m l → m + 3 * ds.length + 200 < 2 ^ 60 → ∃ (qs : List Rat) (l' : List D), f_law_04_c1 (.int z) ds l = .ok (frs qs, l') ∧ qs.length = ds.length ∧ HtA 40 qs ∧ Sup (m + 3 * ds.length) l'
  | [], m, l, sup, _ => ⟨[], l, rfl, rfl, (fun _ h => nomatch h), sup⟩
  | d :: ds, m, l, sup, hm => by
    have hm : m + 3 * (ds.length + 1) + 200 < 2 ^ 60 := hm
    obtain ⟨q, l1, e1, hq, s1⟩ := fraction2_ok sup (by omega) h2 hk (by omega) (by omega)
    obtain ⟨qs, l2, e2, h3, h4, s2⟩ := c1_04 h2 hk ds (m + 3) l1 s1 (by omega)
    have hcons : (d :: ds).length = ds.length + 1 := rfl
    refine ⟨q :: qs, l2, ?_, by rw [List.length_cons, h3, hcons], fun x hx => ?_, s2.mono (by rw [hcons]; omega)⟩
    · unfold f_law_04_c1
      simp -implicitDefEqProofs only [e1, nx_ok, b_ok, e2]
      rfl
    · rcases List.mem_cons.mp hx with rfl | h
      · exact hq
      · exact h4 x h
theorem l2_04 : ∀ ts : List (Rat × Rat × Rat), (∀ t ∈ ts, Ht 40 t.1 ∧ Ht 40 t.2.1 ∧ Ht 40 t.2.2) → f_law_04_l2 (ts.map fun t => .tup [fr t.1, fr t.2.1, fr t.2.2]) = .ok (.nx ())
  | [], _ => rfl
  | t :: ts, h => by
    have ih := l2_04 ts (fun x hx => h x (List.mem_cons_of_mem _ hx))
    obtain ⟨h1, h2, h3⟩ := h t List.mem_cons_self
    have e1 := three_ok h1 h2 h3
    have e2 := two_ok h1 h2
    have u3 : ∀ f : D → D → D → Vm.R (Fl Unit D), un3 (.tup [fr t.1, fr t.2.1, fr t.2.2]) f = f (fr t.1) (fr t.2.1) (fr t.2.2) := fun _ => rfl
    show f_law_04_l2 (.tup [fr t.1, fr t.2.1, fr t.2.2] :: ts.map fun t => .tup [fr t.1, fr t.2.1, fr t.2.2]) = _
    unfold f_law_04_l2
    simp -implicitDefEqProofs only [u3, e1, b_ok, p_not_b, Bool.not_true, iteD_f, e2, ih]
theorem l1_04 : ∀ (ds : List D) (m : Nat) (l : List D), Sup m l → m + 20 * ds.length + 1000 < 2 ^ 60 → ∃ l', f_law_04_l1 ds l = .ok (.nx l')
  | [], m, l, _, _ => ⟨l, rfl⟩
  | d :: ds, m, l, sup, hm => by
    have hm : m + 20 * (ds.length + 1) + 1000 < 2 ^ 60 := hm
    have p12 : prim .pow [.int 10, .int 12] = .ok (.int (10 ^ (12 : Int).toNat)) := pow_i rfl
    obtain ⟨x, l1, xm, e1, s1⟩ := one_of_ok (ds := [.int 2, .int 4, .int 1000, .int (10 ^ (12 : Int).toNat)]) sup (by omega) (by simp) (by simp)
    have xv : ∃ z : Int, x = .int z ∧ 2 ≤ z ∧ z ≤ 2 ^ 40 := by
      simp only [List.mem_cons, List.not_mem_nil, or_false] at xm
      rcases xm with e | e | e | e
      · exact ⟨2, e, by decide, by decide⟩
      · exact ⟨4, e, by decide, by decide⟩
      · exact ⟨1000, e, by decide, by decide⟩
      · exact ⟨10 ^ (12 : Int).toNat, e, by decide, by decide⟩
    obtain ⟨z, rfl, z1, z2⟩ := xv
    have i3 : itR .rng1 [.int 3] = .ok (rngD 0 3) := it_rng (n := 3) (by decide)
    have len3 : (rngD 0 3).length = 3 := rngD_len 0 3
    have lc3 : (rngD 0 3).length ≤ lineN := by rw [len3]; unfold lineN; omega
    obtain ⟨us, l2, e2, lu, hu, s2⟩ := c1_04 z1 z2 (rngD 0 3) (m + 1) l1 s1 (by rw [len3]; omega)
    rw [len3] at lu s2
    obtain ⟨a, b, c, rfl⟩ : ∃ a b c, us = [a, b, c] := by
      match us, lu with
      | [a, b, c], _ => exact ⟨a, b, c, rfl⟩
    have ha : Ht 40 a := hu a (by simp)
    have hb : Ht 40 b := hu b (by simp)
    have hc : Ht 40 c := hu c (by simp)
    have h0 : Ht 40 0 := ht_0 40 (by omega)
    have h1 : Ht 40 1 := ht_1 40 (by omega)
    have us3 : ∀ g : D → D → D → Vm.R (Fl (List D) D), un3 (.lst (frs [a, b, c])) g = g (fr a) (fr b) (fr c) := fun _ => rfl
    have ll := l2_04 [(a, b, c), (c, a, b), (a, a, 0), (b, 1, c)] (by
      intro t ht
      simp only [List.mem_cons, List.not_mem_nil, or_false] at ht
      rcases ht with rfl | rfl | rfl | rfl
      · exact ⟨ha, hb, hc⟩
      · exact ⟨hc, ha, hb⟩
      · exact ⟨ha, ha, h0⟩
      · exact ⟨hb, h1, hc⟩)
    have ll : f_law_04_l2 [.tup [fr a, fr b, fr c], .tup [fr c, fr a, fr b], .tup [fr a, fr a, fr 0], .tup [fr b, fr 1, fr c]] = .ok (.nx ()) := ll
    have z0 : D.tup [D.int 0, D.int 1] = fr 0 := rfl
    have o1 : D.tup [D.int 1, D.int 1] = fr 1 := rfl
    have A : Ht 400 a := ha.mono (by omega)
    have H0 : Ht 400 0 := h0.mono (by omega)
    have H1 : Ht 400 1 := h1.mono (by omega)
    have k1 := addF_ok A H0 (by omega)
    have k2 := multiply_ok A H1 (by omega)
    have k3 := multiply_ok A H0 (by omega)
    rw [Rat.add_zero] at k1
    rw [Rat.mul_one] at k2
    rw [Rat.mul_zero] at k3
    have n1 := frNe A A rfl
    have n0 := frNe H0 H0 rfl
    obtain ⟨l', e9⟩ := l1_04 ds (m + 20) l2 (s2.mono (by omega)) (by omega)
    refine ⟨l', ?_⟩
    unfold f_law_04_l1
    simp -implicitDefEqProofs only [p12, b_ok, e1, i3, lcK_ok lc3, e2, us3, it_seq_l, z0, o1, ll, el_nx, k1, n1, iteD_f, k2, k3, n0, e9]
theorem law04 {ns : List Int} (hl : ns.length ≤ 63) : f_law_04 (.scr ns) = .ok (.bl true) := by
  obtain ⟨l, e, sup⟩ := supply_ok hl
  have i6 : itR .rng1 [.int 6] = .ok (rngD 0 6) := it_rng (n := 6) (by decide)
  have len : (rngD 0 6).length = 6 := rngD_len 0 6
  obtain ⟨l', e2⟩ := l1_04 (rngD 0 6) 0 l sup (by rw [len]; decide)
  unfold f_law_04
  simp -implicitDefEqProofs only [e, b_ok, asL_l, i6, e2, el_nx]
end Vm
end
section
theorem PySem.Challenge.cw_tolimit_k04_whole_field_of_fractions_holds : PySem.Challenge.rw_tolimit_k04_whole_field_of_fractions.Holds :=
  K04.closes fun ns h _ => Vm.law04 h
end
