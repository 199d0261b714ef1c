import PyProof.Rows.All
import Wide.All
import OpenK.AllK
import Wide.FinOn
import HandS.ForMost
import HandS.Exc
import HandS.TryOnly
import HandS.ExcOwn
import HandS.Wide
import HandS.Deep
import HandS.IsInst
import HandS.Zip
import HandS.More
import HandS.TupAny
import HandS.TupMul
import HandS.SortInts
import HandS.Remove
import HandS.Style
import KE.GoesMore
import KE.GoesEnum
import PyProof.ListMulRoad
import PyProof.FactsAll.tuple_2
import KE.KRevSl
import HandS.Defaults
import HandS.EndBits
import HandS.HeadEnd
import HandS.Head0
import HandS.Head1
import HandS.Head2
import HandS.HeadHook1
import HandS.HeadHook2
import HandS.Codes
import PySem.Challenge.RW_tolimit_k05_sums_and_products_of_polynom
section
set_option Elab.async false
set_option linter.all false
set_option maxRecDepth 100000
namespace Vm
open PySem PySem.Spec L2

/-! ### data, results, slots -/
inductive D where
  | non | bl (b : Bool) | int (i : Int) | str (x : Str) | tup (l : List D) | lst (l : List D)
  | dic (l : List (Int × D)) | exc (c : Str) (l : List D)
  | scr (l : List Int)
  deriving Inhabited
inductive R (α : Type) where
  | ok (a : α) | ex (c : Str) (l : List D) | bad
def R.bind {α β : Type} (x : R α) (f : α → R β) : R β := match x with
  | .ok a => f a
  | .ex c l => .ex c l
  | .bad => .bad
inductive Slot where
  | no | val (d : D) | own (l : List D)
abbrev En := List Slot
mutual
def D.py : D → PyData
  | .non => .none
  | .bl b => .bool b
  | .int i => .int i
  | .str x => .str x
  | .tup l => .tuple (D.pyAll l)
  | .lst l => .list (D.pyAll l)
  | .dic l => .dict (D.pyKv l)
  | .exc _ _ => .none
  | .scr _ => .none
def D.pyAll : List D → List PyData
  | [] => []
  | d :: l => d.py :: D.pyAll l
def D.pyKv : List (Int × D) → List (PyData × PyData)
  | [] => []
  | (k, d) :: l => (.int k, d.py) :: D.pyKv l
end

mutual
def D.plain : D → Bool
  | .tup l => D.plainAll l
  | .lst l => D.plainAll l
  | .dic _ => false
  | .exc _ _ => false
  | .scr _ => false
  | .str x => PyData.strOk x
  | _ => true
def D.plainAll : List D → Bool
  | [] => true
  | d :: l => d.plain && D.plainAll l
end

/-! ### codes -/
inductive Ty where
  | int | bool | str | tuple | list
  deriving DecidableEq
inductive Pr where
  | tup | lst | not | neg
  | add | sub | mul | fdiv | mod | pow
  | eq | ne | lt | le | gt | ge | isn | nisn | inn | nin
  | ix | slA | slB | slC | rev
  | len | abs | max1 | max2 | min2 | int | repr | list | tuple | sorted | sum | all | any | isi (t : Ty)
  deriving DecidableEq
inductive Ik where
  | seq | rng1 | rng2 | rng3 | enum | zip
  deriving DecidableEq
inductive Tg where
  | n (i : Nat) | t (l : List Nat)
  deriving DecidableEq
inductive E where
  | c (d : D) | g (x : Str) | v (i : Nat) | bw (i : Nat) | io (i : Nat)
  | pr (p : Pr) (l : List E)
  | and_ (a b : E) | or_ (a b : E) | ite (t a b : E)
  | ch (o p : Pr) (a b c : E)
  | call (f : Str) (l : List E) (dl : List D)
  | lc (elt : E) (tg : Tg) (k : Ik) (l : List E) (cond : Option E) (vs : List Nat)
inductive AV where
  | d (d : D) | b (i : Nat) | o (i : Nat)
structure Tab where
  has : Str → Bool
  call : Str → List Slot → R (D × Option (List D))
  glob : Str → Option D
  fresh : Str → Bool
  dflt : Str → List D

/-! ### primitives, on data -/
def mulOk (a b : Int) : Bool := decide (a.natAbs.log2 + b.natAbs.log2 ≤ 130000000)
def divOk (j : Int) : Bool := decide (0 < j) && decide (j.natAbs.log2 < 9000)
def powOk (a j : Int) : Bool := decide (0 ≤ j) && decide (j ≤ 1000000) && decide (a.natAbs < 2 ^ 64)
def lineN : Nat := 1000000
def ixL (l : List D) (i : Int) : R D := match ixN l.length i with
  | some j => (match l[j]? with
    | some d => .ok d
    | none => .bad)
  | none => .bad
def cut (l : List D) (lo hi : Option Int) : List D := (l.drop (HT.sIx l.length 0 lo)).take (HT.sIx l.length l.length hi - HT.sIx l.length 0 lo)
def D.eqv (a b : D) : Bool := PyData.eqv a.py b.py
def D.okEq (d : D) : Bool := d.plain && decide (d.py.depth ≤ 64)
def D.okShow (d : D) : Bool := d.plain && decide (d.py.depth ≤ 64) && d.py.showable && decide (d.py.shown.length ≤ sizeLine)
def intsD : List D → Option (List Int)
  | [] => some []
  | .int i :: l => (intsD l).map (i :: ·)
  | _ :: _ => none
def boolsD : List D → Option (List Bool)
  | [] => some []
  | .bl i :: l => (boolsD l).map (i :: ·)
  | _ :: _ => none
def flat : D → Bool
  | .non => true
  | .bl _ => true
  | .int _ => true
  | .str _ => true
  | _ => false
def maxI : List Int → Int
  | [] => 0
  | [a] => a
  | a :: l => max a (maxI l)
def insI (a : Int) : List Int → List Int
  | [] => [a]
  | b :: l => if a ≤ b then a :: b :: l else b :: insI a l
def sortI : List Int → List Int
  | [] => []
  | a :: l => insI a (sortI l)
def Ty.name : Ty → String
  | .int => "int"
  | .bool => "bool"
  | .str => "str"
  | .tuple => "tuple"
  | .list => "list"
def isa : Ty → D → Option Bool
  | .int, .int _ => some true
  | .int, .bl _ => some true
  | .bool, .bl _ => some true
  | .str, .str _ => some true
  | .tuple, .tup _ => some true
  | .list, .lst _ => some true
  | _, .dic _ => none
  | _, .exc _ _ => none
  | _, .scr _ => none
  | _, _ => some false
def p_tup : List D → R D
  | l => if l.length ≤ lineN then .ok (.tup l) else .bad
def p_lst : List D → R D
  | l => if l.length ≤ lineN then .ok (.lst l) else .bad
def p_not : List D → R D
  | [.bl b] => .ok (.bl (!b))
  | _ => .bad
def p_neg : List D → R D
  | [.int i] => .ok (.int (-i))
  | _ => .bad
def p_add : List D → R D
  | [.int i, .int j] => .ok (.int (i + j))
  | [.tup a, .tup b] => if a.length + b.length ≤ lineN then .ok (.tup (a ++ b)) else .bad
  | [.lst a, .lst b] => if a.length + b.length ≤ lineN then .ok (.lst (a ++ b)) else .bad
  | _ => .bad
def p_sub : List D → R D
  | [.int i, .int j] => .ok (.int (i - j))
  | _ => .bad
def p_mul : List D → R D
  | [.int i, .int j] => if mulOk i j then .ok (.int (i * j)) else .bad
  | [.lst l, .int k] => if decide (k < 1000000) && decide (l.length * k.toNat ≤ lineN) && decide (-1000000 < k) then .ok (.lst (List.replicate k.toNat l).flatten) else .bad
  | [.tup l, .int k] => if !l.isEmpty && decide (k ≤ 1000) && decide (l.length ≤ 1000) && decide (-1000000 < k) then .ok (.tup (List.replicate k.toNat l).flatten) else .bad
  | _ => .bad
def p_fdiv : List D → R D
  | [.int i, .int j] => if divOk j then .ok (.int (i / j)) else .bad
  | _ => .bad
def p_mod : List D → R D
  | [.int i, .int j] => if j ≠ 0 then .ok (.int (i.fmod j)) else .bad
  | _ => .bad
def p_pow : List D → R D
  | [.int i, .int j] => if powOk i j then .ok (.int (i ^ j.toNat)) else .bad
  | _ => .bad
def p_eq : List D → R D
  | [.str a, .str b] => .ok (.bl (decide (a = b)))
  | [a, b] => if a.okEq && b.okEq then .ok (.bl (a.eqv b)) else .bad
  | _ => .bad
def p_ne : List D → R D
  | [.str a, .str b] => .ok (.bl (!decide (a = b)))
  | [a, b] => if a.okEq && b.okEq then .ok (.bl (!a.eqv b)) else .bad
  | _ => .bad
def p_lt : List D → R D
  | [.int i, .int j] => .ok (.bl (decide (i < j)))
  | _ => .bad
def p_le : List D → R D
  | [.int i, .int j] => .ok (.bl (decide (i ≤ j)))
  | _ => .bad
def p_gt : List D → R D
  | [.int i, .int j] => .ok (.bl (decide (j < i)))
  | _ => .bad
def p_ge : List D → R D
  | [.int i, .int j] => .ok (.bl (decide (j ≤ i)))
  | _ => .bad
def p_isn : List D → R D
  | [.non] => .ok (.bl true)
  | [_] => .ok (.bl false)
  | _ => .bad
def p_nisn : List D → R D
  | [.non] => .ok (.bl false)
  | [_] => .ok (.bl true)
  | _ => .bad
def p_ix : List D → R D
  | [.tup l, .int i] => ixL l i
  | [.lst l, .int i] => ixL l i
  | _ => .bad
def p_slA : List D → R D
  | [.lst l, .int i] => .ok (.lst (cut l none (some i)))
  | [.scr l, .int i] => .ok (.lst (cut (l.map D.int) none (some i)))
  | [.tup l, .int i] => .ok (.tup (cut l none (some i)))
  | _ => .bad
def p_slB : List D → R D
  | [.lst l, .int i] => .ok (.lst (cut l (some i) none))
  | [.scr l, .int i] => .ok (.lst (cut (l.map D.int) (some i) none))
  | [.tup l, .int i] => .ok (.tup (cut l (some i) none))
  | _ => .bad
def p_slC : List D → R D
  | [.lst l, .int i, .int j] => .ok (.lst (cut l (some i) (some j)))
  | [.scr l, .int i, .int j] => .ok (.lst (cut (l.map D.int) (some i) (some j)))
  | [.tup l, .int i, .int j] => .ok (.tup (cut l (some i) (some j)))
  | _ => .bad
def p_rev : List D → R D
  | [.lst l] => .ok (.lst l.reverse)
  | [.scr l] => .ok (.lst (l.map D.int).reverse)
  | [.tup l] => .ok (.tup l.reverse)
  | _ => .bad
def p_len : List D → R D
  | [.tup l] => .ok (.int l.length)
  | [.lst l] => .ok (.int l.length)
  | _ => .bad
def p_abs : List D → R D
  | [.int i] => .ok (.int (if i < 0 then -i else i))
  | _ => .bad
def p_max2 : List D → R D
  | [.int i, .int j] => .ok (.int (if j > i then j else i))
  | _ => .bad
def p_min2 : List D → R D
  | [.int i, .int j] => .ok (.int (if j < i then j else i))
  | _ => .bad
def p_int : List D → R D
  | [.int i] => .ok (.int i)
  | [.bl b] => .ok (.int (if b then 1 else 0))
  | _ => .bad
def p_repr : List D → R D
  | [d] => if d.okShow then .ok (.str d.py.shown) else .bad
  | _ => .bad
def p_list : List D → R D
  | [.tup l] => .ok (.lst l)
  | [.lst l] => .ok (.lst l)
  | _ => .bad
def p_tuple : List D → R D
  | [.lst l] => .ok (.tup l)
  | [.tup l] => .ok (.tup l)
  | _ => .bad
def p_sum : List D → R D
  | [.lst l] => (match intsD l with
    | some ns => .ok (.int ns.sum)
    | none => .bad)
  | _ => .bad
def p_all : List D → R D
  | [.lst l] => (match boolsD l with
    | some bs => .ok (.bl (bs.all id))
    | none => .bad)
  | _ => .bad
def p_any : List D → R D
  | [.lst l] => (match boolsD l with
    | some bs => .ok (.bl (bs.any id))
    | none => .bad)
  | _ => .bad
def p_isi (t : Ty) : List D → R D
  | [d] => (match isa t d with
    | some b => .ok (.bl b)
    | none => .bad)
  | _ => .bad
def prim : Pr → List D → R D
  | .tup => p_tup
  | .lst => p_lst
  | .not => p_not
  | .neg => p_neg
  | .add => p_add
  | .sub => p_sub
  | .mul => p_mul
  | .fdiv => p_fdiv
  | .mod => p_mod
  | .pow => p_pow
  | .eq => p_eq
  | .ne => p_ne
  | .lt => p_lt
  | .le => p_le
  | .gt => p_gt
  | .ge => p_ge
  | .isn => p_isn
  | .nisn => p_nisn
  | .ix => p_ix
  | .slA => p_slA
  | .slB => p_slB
  | .slC => p_slC
  | .rev => p_rev
  | .len => p_len
  | .abs => p_abs
  | .max2 => p_max2
  | .min2 => p_min2
  | .int => p_int
  | .repr => p_repr
  | .list => p_list
  | .tuple => p_tuple
  | .sum => p_sum
  | .all => p_all
  | .any => p_any
  | .isi t => p_isi t
  | _ => fun _ => .bad

/-! ### evaluation -/
def ownAt (en : En) (i : Nat) : Option (List D) := match en[i]? with
  | some (.own l) => some l
  | _ => none
def valAt (en : En) (i : Nat) : Option D := match en[i]? with
  | some (.val d) => some d
  | _ => none
def evList (f : E → En → R (D × En)) : List E → En → R (List D × En)
  | [], en => .ok ([], en)
  | e :: es, en => (f e en).bind fun p => (evList f es p.2).bind fun q => .ok (p.1 :: q.1, q.2)
def evArgs (f : E → En → R (D × En)) : List E → En → R (List AV × En)
  | [], en => .ok ([], en)
  | .bw i :: es, en => if (ownAt en i).isSome then (evArgs f es en).bind fun q => .ok (.b i :: q.1, q.2) else .bad
  | .io i :: es, en => if (ownAt en i).isSome then (evArgs f es en).bind fun q => .ok (.o i :: q.1, q.2) else .bad
  | e :: es, en => (f e en).bind fun p => (evArgs f es p.2).bind fun q => .ok (.d p.1 :: q.1, q.2)
def resolve (en : En) : List AV → Option (List Slot)
  | [] => some []
  | .d d :: l => (resolve en l).map (.val d :: ·)
  | .b i :: l => (match ownAt en i with
    | some ds => (resolve en l).map (.val (.lst ds) :: ·)
    | none => none)
  | .o i :: l => (match ownAt en i with
    | some ds => (resolve en l).map (.own ds :: ·)
    | none => none)
def resolveD (en : En) : List AV → Option (List D)
  | [] => some []
  | .d d :: l => (resolveD en l).map (d :: ·)
  | .b i :: l => (match ownAt en i with
    | some ds => (resolveD en l).map (.lst ds :: ·)
    | none => none)
  | .o _ :: _ => none
def R.noex {α : Type} : R α → R α
  | .ex _ _ => .bad
  | x => x
def ioOf : List AV → Option Nat
  | [] => none
  | .o i :: _ => some i
  | _ :: l => ioOf l
def ioCount : List AV → Nat
  | [] => 0
  | .o _ :: l => ioCount l + 1
  | _ :: l => ioCount l
def putBack (as : List AV) (w : Option (List D)) (en : En) : R En := match ioOf as, w with
  | some i, some l => .ok (en.set i (.own l))
  | none, none => .ok en
  | _, _ => .bad
def hasB : List AV → Bool
  | [] => false
  | .b _ :: _ => true
  | _ :: l => hasB l
def bAt (i : Nat) : List AV → Bool
  | [] => false
  | .b j :: l => decide (i = j) || bAt i l
  | _ :: l => bAt i l
/-- one own argument at most is handed on, and not read by another one -/
def ioFine (as : List AV) : Bool := decide (ioCount as ≤ 1) && (match ioOf as with
  | some i => !bAt i as
  | none => true)
mutual
def D.nol : D → Bool
  | .tup l => D.nolAll l
  | .non => true
  | .bl _ => true
  | .int _ => true
  | .str _ => true
  | _ => false
def D.nolAll : List D → Bool
  | [] => true
  | d :: l => d.nol && D.nolAll l
end
def nolR (fr : Bool) (d : D) : Bool := d.nol || (fr && (match d with
  | .lst l => D.nolAll l
  | _ => false))
def safeB (fr : Bool) (as : List AV) (r : D × Option (List D)) : Bool := !hasB as || (nolR fr r.1 && (match r.2 with
  | none => true
  | some l => D.nolAll l))
/-- the items that a loop walks -/
def enumD : Nat → List D → List D
  | _, [] => []
  | k, d :: l => .tup [.int k, d] :: enumD (k + 1) l
def zipD : List D → List D → List D
  | a :: l, b :: m => .tup [a, b] :: zipD l m
  | _, _ => []
def rngD (lo : Int) (n : Nat) : List D := (List.range n).map fun (i : Nat) => .int (lo + (i : Int))
def rngDn (lo c : Int) (n : Nat) : List D := (List.range n).map fun (i : Nat) => .int (lo + (i : Int) * c)
def items : Ik → List D → Option (List D)
  | .seq, [.lst l] => some l
  | .seq, [.tup l] => some l
  | .rng1, [.int n] => if -(2 ^ 62) ≤ n ∧ n < 2 ^ 62 then some (rngD 0 n.toNat) else none
  | .rng2, [.int a, .int b] => if -(2 ^ 62) ≤ a ∧ a < 2 ^ 62 ∧ -(2 ^ 62) ≤ b ∧ b < 2 ^ 62 then some (rngD a (b - a).toNat) else none
  | .enum, [.lst l] => some (enumD 0 l)
  | .enum, [.tup l] => some (enumD 0 l)
  | .zip, [.lst l, .lst m] => some (zipD l m)
  | .zip, [.tup l, .tup m] => some (zipD l m)
  | _, _ => none
def setMany : List Nat → List D → En → Option En
  | [], [], en => some en
  | i :: is, d :: ds, en => if (ownAt en i).isSome then none else setMany is ds (en.set i (.val d))
  | _, _, _ => none
def setTg : Tg → D → En → Option En
  | .n i, d, en => if (ownAt en i).isSome then none else some (en.set i (.val d))
  | .t is, .tup ds, en => setMany is ds en
  | .t _, _, _ => none
def wipeE (en : En) : List Nat → En
  | [] => en
  | v :: vs => (wipeE en vs).set v .no
/-- the slots vs as they were -/
def restE (en : En) : List Nat → En → En
  | [], e => e
  | v :: vs, e => (restE en vs e).set v (en[v]?.getD .no)
/-- a comprehension's turns: cond, elt from the environment; the items that are made -/
def lcGo (cond elt : En → R (D × En)) (tg : Tg) (vs : List Nat) : List D → En → R (List D × En)
  | [], en => .ok ([], en)
  | d :: ds, en => match setTg tg d en with
    | none => .bad
    | some en1 => (cond en1).noex.bind fun p => match p.1 with
      | .bl true => (elt p.2).noex.bind fun q => (lcGo cond elt tg vs ds (wipeE q.2 vs)).bind fun r => .ok (q.1 :: r.1, r.2)
      | .bl false => lcGo cond elt tg vs ds (wipeE p.2 vs)
      | _ => .bad
def noOwn (en : En) : List Nat → Bool
  | [] => true
  | v :: vs => (match en[v]? with
    | some (.own _) => false
    | _ => true) && noOwn en vs
def evE (T : Tab) : Nat → E → En → R (D × En)
  | 0, _, _ => .bad
  | n + 1, e, en => match e with
    | .c d => .ok (d, en)
    | .g x => (match T.glob x with
      | some d => .ok (d, en)
      | none => .bad)
    | .v i => (match valAt en i with
      | some d => .ok (d, en)
      | none => .bad)
    | .bw _ => .bad
    | .io _ => .bad
    | .pr p l => (evArgs (evE T n) l en).bind fun q => match resolveD q.2 q.1 with
      | none => .bad
      | some ds => (prim p ds).bind fun d => .ok (d, q.2)
    | .and_ a b => (evE T n a en).bind fun p => match p.1 with
      | .bl true => evE T n b p.2
      | .bl false => .ok (.bl false, p.2)
      | _ => .bad
    | .or_ a b => (evE T n a en).bind fun p => match p.1 with
      | .bl true => .ok (.bl true, p.2)
      | .bl false => evE T n b p.2
      | _ => .bad
    | .ite t a b => (evE T n t en).bind fun p => match p.1 with
      | .bl true => evE T n a p.2
      | .bl false => evE T n b p.2
      | _ => .bad
    | .ch o p a b c => (evList (evE T n) [a, b] en).bind fun q => match q.1 with
      | [x, y] => (prim o [x, y]).bind fun z => match z with
        | .bl true => (evE T n c q.2).bind fun r => (prim p [y, r.1]).bind fun d => .ok (d, r.2)
        | .bl false => .ok (.bl false, q.2)
        | _ => .bad
      | _ => .bad
    | .call f l dl => if T.has f then (evArgs (evE T n) l en).bind fun q => if ioFine q.1 then (match resolve q.2 q.1 with
      | none => .bad
      | some ss => (T.call f (ss ++ dl.map .val)).bind fun r => if safeB (T.fresh f) q.1 r then (putBack q.1 r.2 q.2).bind fun en2 => .ok (r.1, en2) else .bad) else .bad
      else .bad
    | .lc elt tg k l cond vs => (evList (evE T n) l en).bind fun q => match items k q.1 with
      | none => .bad
      | some ds => if noOwn q.2 vs && decide (ds.length ≤ lineN) then
          (lcGo (match cond with
            | some c => evE T n c
            | none => fun en => .ok (.bl true, en)) (evE T n elt) tg vs ds (wipeE q.2 vs)).bind fun r => .ok (.lst r.1, restE q.2 vs r.2)
        else .bad
end Vm
end
section
set_option Elab.async false
set_option linter.all false
set_option maxRecDepth 100000
namespace Vm
open PySem PySem.Spec PyProof.Rows L2
set_option maxHeartbeats 1000000 in
theorem enum_new {v : Value} {o : Obj} {B : Heap → Prop} (b : Begins v o B) : Meets (Builtin.«enumerate.__new__» ⟨[.type "enumerate", v], []⟩) (fun _ R s => B s.heap ∧
      R (.ok (.ret (.ref (s.heap.push o).objs.size))) { s with heap := (s.heap.push o).push { cls := .type "enumerate", data := .fields #[.none, .bool false, .ref s.heap.objs.size, rawInt 0, .none, .none] } }) :=
  .of_wp fun prog w A R s h => by
    obtain ⟨hp, g, d, tk, os⟩ := s
    obtain ⟨h1, h⟩ := h
    have sub := sub_enumerate
    have it : ∀ {A' : Around} {E : Value → Shared → Prop} {Q : Value → Shared → Prop}, Q (.ref hp.objs.size) ⟨hp.push o, g, d, tk, os⟩ → wpAny (model prog w) A' (pyIter v) Q E ⟨hp, g, d, tk, os⟩ :=
      fun q => b.iter prog w _ _ ⟨hp, g, d, tk, os⟩ _ h1 q
    wp_walk using it
    refine wpAny_stack_any fun st => wpAny_pure ?_
    split
    · rename_i c _ _ _ _ _
      cases (c == Value.type "enumerate") <;> (wp_walk using it; exact ⟨_, rfl, h⟩)
    · wp_walk using it
      exact ⟨_, rfl, h⟩
theorem enum_call {prog : Program} {w : World} {A : Around} {E : Value → Shared → Prop} {s : Shared} {v : Value} {o : Obj} {B : Heap → Prop} {Q : Value → Shared → Prop} (b : Begins v o B) (h1 : B s.heap)
    (h : ∀ h', IsEnum h' (s.heap.objs.size + 1) s.heap.objs.size 0 .none → h'.get? s.heap.objs.size = some o → h'.objs.size = s.heap.objs.size + 2 → (∀ b u, s.heap.get? b = some u → h'.get? b = some u) → Q (.ref (s.heap.objs.size + 1)) { s with heap := h' }) :
    wpAny (model prog w) A (call (.type "enumerate") [v]) Q E s := by
  refine callType_new F.called_enumerate (by decide) (F.typeCall_enumerate_1 _) (F.newCall_enumerate_1 _) (fun obj => F.args_object_init_2 obj _) F.entry_enumerate_new (enum_new b) ⟨h1, ?_⟩
  have z : (s.heap.push o).objs.size = s.heap.objs.size + 1 := Heap.size_push ..
  have at0 : (s.heap.push o).get? s.heap.objs.size = some o := Heap.get?_push_size _ b.free
  have at1 := Heap.get?_push_size (s.heap.push o) (o := { cls := .type "enumerate", data := .fields #[.none, .bool false, .ref s.heap.objs.size, rawInt 0, .none, .none] }) rfl
  rw [z] at at1
  show _ ∧ _
  rw [z]
  exact ⟨⟨_, at1, rfl⟩, h _ at1 (Heap.get?_push_of_some _ at0) (by rw [Heap.size_push, z]) fun c u e => Heap.get?_push_of_some _ (Heap.get?_push_of_some _ e)⟩
/-- the tuple at a, its items in new pairs -/
def IteT (K : PySem.W.Frag) (a : Addr) : L2.It :=
  ⟨fun i H => ∃ (xs : List V) (x : V), SqT K H a xs ∧ xs[i]? = some x, fun i H v H' => ∃ T x, v = .ref T ∧ H T = none ∧ H' = upd H T (.tup [.int (i : Nat), x]) ∧ ∀ xs, SqT K H a xs → xs[i]? = some x, fun i H => ∃ xs : List V, SqT K H a xs ∧ xs.length = i⟩
theorem turn_enT {P : Program} {w : World} {K : PySem.W.Frag} {elts : List Expr} {kk : Nat} {tpos : Pos} (a e it : Addr) (ne : a ≠ it) :
    Turn P w K (.Tuple elts kk tpos) (IteT K a) [e, it] e (fun i h => (∃ old, IsEnum h e it ((i : Nat) : Int) old) ∧ h.IsTupleIter it a i ∧ e ≠ it ∧ e ≠ a) where
  mem := by simp
  obj := fun i h st b hb => by
    obtain ⟨⟨old, he⟩, ⟨o, ho, hc, hd⟩, _⟩ := st
    rcases (show b = e ∨ b = it by simpa using hb) with z | z
    · subst z; exact ⟨_, he, fun v q => nomatch q⟩
    · subst z; exact ⟨o, ho, fun v q => by rw [hd] at q; cases q⟩
  keep := fun i h h' st k => let ⟨⟨old, he⟩, hi, q⟩ := st; ⟨⟨old, k e (by simp) _ he⟩, hi.at fun o q => k it (by simp) o q, q⟩
  item := by
    intro X hP hw hK hc i pins s σ H E I hf st hg
    subst hP hw hK
    obtain ⟨⟨old, he⟩, hit, hne, hea⟩ := st
    obtain ⟨xs, x, hq, hx⟩ := hg
    obtain ⟨its, rv, p, hz⟩ := I.tuple hq
    obtain ⟨u, hu, ru⟩ := rv.get hx
    have hel : e < s.heap.objs.size := Heap.lt_size he
    have hil : it < s.heap.objs.size := by obtain ⟨_, q, _⟩ := hit; exact Heap.lt_size q
    have lt : i < its.toArray.size := by
      rw [List.size_toArray]
      exact (List.getElem?_eq_some_iff.mp hu).1
    have hh : X.A.in1.handled = none := I.ok.hd hc
    refine wpAny_pyNext_enum_itemD (Draws.tuple hh it a ne its.toArray) he ⟨hit, p⟩ lt hne (by simp [hne, hea]) fun x' h' tk hP ho hst hT hsz hk => ?_
    have ex : x' = u := by
      have q : its.toArray[i]? = some u := by simpa using hu
      have hP : its.toArray[i]? = some x' := hP
      rw [q] at hP
      exact (Option.some.inj hP).symm
    subst ex
    refine ⟨_, rfl, wpAny_letOwnedTupleGo_enum (s := { s with heap := h', toks := tk + 1 }) ho fun h'' he' sb => ?_⟩
    have hT2 : h''.get? s.heap.objs.size = some { cls := .type "tuple", data := .seq #[.int i tk, x'] } := (sb.2 _ (Nat.ne_of_gt hel)).trans hT
    have new : ObjOk X.prog X.w (upd H s.heap.objs.size (.tup [.int (i : Nat), x])) h'' s.heap.objs.size (.tup [.int (i : Nat), x]) :=
      ⟨by show 2 ≤ sizeLine; decide, [.int i tk, x'], .cons ⟨_, rfl⟩ (.cons ru .nil), ⟨_, hT2, rfl, _, rfl⟩⟩
    have I1 : Inv X pins σ (upd H s.heap.objs.size (.tup [.int (i : Nat), x])) { s with heap := h'', toks := tk + 1 } :=
      I.turnedNew (ch := [e, it]) (fun b ob hb q => (sb.2 b (fun z => hb (by simp [z]))).trans (hk b ob (fun z => hb (by simp [z])) (fun z => hb (by simp [z])) q)) hf (Nat.le_refl _) new
    refine ⟨.ref s.heap.objs.size, _, I1, rfl, ⟨_, x, rfl, I.hok.fresh (Nat.le_refl _), rfl, fun ys hy => by rw [I.tuple_inj hy hq]; exact hx⟩, ⟨⟨x', ?_⟩, hst.1.at fun o q => (sb.2 it (Ne.symm hne)).trans q, hne, hea⟩, fun b hb => ?_⟩
    · have e1 : ((i + 1 : Nat) : Int) = (i : Int) + 1 := by omega
      rw [e1]; exact he'
    · have hb' : b < s.heap.objs.size := by
        rcases (show b = e ∨ b = it by simpa using hb) with z | z
        · rw [z]; exact hel
        · rw [z]; exact hil
      rw [upd_ne (Nat.ne_of_lt hb')]
      exact (hf b hb).1
  done := by
    intro X hP hw hK hc i pins s σ H E I hf st hg
    subst hP hw hK
    obtain ⟨⟨old, he⟩, hit, hne, hea⟩ := st
    obtain ⟨xs, hq, hx⟩ := hg
    obtain ⟨its, rv, p, hz⟩ := I.tuple hq
    obtain ⟨f0, f1, f2, f3, f4, f5⟩ := hf it (by simp)
    have hl := rv.length
    have hh : X.A.in1.handled = none := I.ok.hd hc
    have eq : i = its.toArray.size := by rw [List.size_toArray, ← hl]; exact hx.symm
    subst eq
    exact wpAny_pyNext_enum_endD (Draws.tuple hh it a ne its.toArray) he ⟨hit, p⟩ fun h' eb => ⟨rfl, I.turned (t' := s.toks) (fun b o hb q => eb b o hb q) f0 f1 f3 f4 f5⟩
  self := fun A i s Q E st h => let ⟨⟨_, he⟩, _⟩ := st; wpAny_pyIter_enum he h
def iEnT (K : PySem.W.Frag) (ta : TA) : TI := fun σ H R => ta σ H fun vs H1 => ∃ a xs, vs = [.ref a] ∧ ((SqL K H1 a xs ∧ R (Ite K a) H1) ∨ (SqT K H1 a xs ∧ R (IteT K a) H1))
theorem pi_enT {X : Cx} {e : Expr} {ta : TA} {p pos tpos : Pos} {elts : List Expr} {kk : Nat} (hg : Gl X "enumerate") (hm : X.mg "enumerate" = none) (ha : PA X [e] ta) (hs : starEach [e] X.env = [(false, eval e X.env)]) :
    PI X (.Tuple elts kk tpos) (.Call (.Name "enumerate" p) [e] [] pos) (iEnT X.K ta) := by
  refine ⟨fun pins s σ H R I h => ?_⟩
  refine Call_ (ld_blt I hg hm boot_enumerate (callWith_type1 (thn (ha.run pos pins s σ H _ I h) fun us s1 ⟨vs, H1, I1, r1, q1⟩ => ?_) hs rfl))
  obtain ⟨a, xs, ex, q⟩ := q1
  subst ex
  cases r1 with
  | cons r rr =>
    cases rr
    cases r
    have fps : ∀ b ∈ [s1.heap.objs.size + 1, s1.heap.objs.size], s1.heap.objs.size ≤ b := fun b hb => by
      rcases (show b = s1.heap.objs.size + 1 ∨ b = s1.heap.objs.size by simpa using hb) with z | z
      · rw [z]; exact Nat.le_add_right _ _
      · rw [z]; exact Nat.le_refl _
    rcases q with ⟨hq, q⟩ | ⟨hq, q⟩
    · obtain ⟨its, rv, p', hz⟩ := I1.list hq
      refine call_enumerate_list p'.isList fun h' he hit hsz hk => wpAny_pyIter_enum he ?_
      have I2 : Inv X pins σ H1 { s1 with heap := h' } := I1.kept (t' := s1.toks) hk
      exact ⟨s1.heap.objs.size + 1, [s1.heap.objs.size + 1, s1.heap.objs.size], _, _, H1, rfl, I2, turn_enum a (s1.heap.objs.size + 1) s1.heap.objs.size, ⟨⟨.none, he⟩, hit, Nat.succ_ne_self _⟩, fun b hb => I1.fpOk (fps b hb) (I1.hok.fresh (fps b hb)), q⟩
    · obtain ⟨its, rv, p', hz⟩ := I1.tuple hq
      have al : a < s1.heap.objs.size := by obtain ⟨_, e, _⟩ := p'; exact Heap.lt_size e
      refine enum_call (begins_tuple a its.toArray) p' fun h' he hit hsz hk => wpAny_pyIter_enum he ?_
      have I2 : Inv X pins σ H1 { s1 with heap := h' } := I1.kept (t' := s1.toks) hk
      exact ⟨s1.heap.objs.size + 1, [s1.heap.objs.size + 1, s1.heap.objs.size], _, _, H1, rfl, I2, turn_enT a (s1.heap.objs.size + 1) s1.heap.objs.size (Nat.ne_of_lt al), ⟨⟨.none, he⟩, ⟨_, hit, rfl, rfl⟩, Nat.succ_ne_self _, Nat.ne_of_gt (Nat.lt_succ_of_lt al)⟩, fun b hb => I1.fpOk (fps b hb) (I1.hok.fresh (fps b hb)), q⟩
end Vm
end
section
set_option Elab.async false
set_option linter.all false
set_option maxRecDepth 100000
set_option maxHeartbeats 4000000
namespace Vm
open PySem PySem.Spec PyProof.Rows L2
/-! ### tuple * n, n at most one -/
theorem mul_none (l : Addr) (items : Array Value) (n : Nat) (dd : Option Addr) (sl : Array (Option Value)) (x : Int) (u : Tok) (a0 : (decide (x < -(2 ^ 63)) || decide (x ≥ 2 ^ 63)) = false) (a1 : (items.isEmpty || x == 1) = false) (a2 : (decide (x ≤ 0) || items.isEmpty) = true) :
    Meets (Builtin.«tuple.__mul__» ⟨[.ref l, .int x u], []⟩) (fun _ R s => s.heap.get? l = some { cls := .type "tuple", dict := dd, data := .seq items n, slots := sl } ∧
      R (.ok (.ret (Value.ref s.heap.objs.size))) { s with heap := s.heap.push { cls := Value.type "tuple", data := Data.seq #[] }, toks := s.toks }) :=
  .of_wp fun prog w A R s h => by
    obtain ⟨hp, g, d, tk, os⟩ := s
    obtain ⟨look, h⟩ := h
    have f1 := AutoSeq1.idx_int
    wp_walk using wpAny_loadPart' look
    repeat (first
      | (refine wpAny_ite_false (decide_eq_false (by rw [a0]; exact Bool.false_ne_true)) ?_; wp_walk using wpAny_loadPart' look)
      | (refine wpAny_ite_false (decide_eq_false (by rw [a1]; exact Bool.false_ne_true)) ?_; wp_walk using wpAny_loadPart' look)
      | (refine wpAny_ite_true (decide_eq_true a2) ?_; wp_walk using wpAny_loadPart' look))
    exact ⟨_, rfl, h⟩
theorem mul_self (l : Addr) (items : Array Value) (n : Nat) (dd : Option Addr) (sl : Array (Option Value)) (x : Int) (u : Tok) (a0 : (decide (x < -(2 ^ 63)) || decide (x ≥ 2 ^ 63)) = false) (a1 : (items.isEmpty || x == 1) = true) :
    Meets (Builtin.«tuple.__mul__» ⟨[.ref l, .int x u], []⟩) (fun _ R s => s.heap.get? l = some { cls := .type "tuple", dict := dd, data := .seq items n, slots := sl } ∧
      R (.ok (.ret (Value.ref l))) s) :=
  .of_wp fun prog w A R s h => by
    obtain ⟨hp, g, d, tk, os⟩ := s
    obtain ⟨look, h⟩ := h
    have f1 := AutoSeq1.idx_int
    wp_walk using wpAny_loadPart' look
    repeat (first
      | (refine wpAny_ite_false (decide_eq_false (by rw [a0]; exact Bool.false_ne_true)) ?_; wp_walk using wpAny_loadPart' look)
      | (refine wpAny_ite_true (decide_eq_true a1) ?_; wp_walk using wpAny_loadPart' look))
    exact ⟨_, rfl, h⟩
def rRepA (K : PySem.W.Frag) : R2 := fun x y H Q => ∃ l k xs, x = .ref l ∧ y = .int k ∧ SqT K H l xs ∧ xs ≠ [] ∧ -1000000 < k ∧ k ≤ 1000 ∧ xs.length ≤ 1000 ∧ (k = 1 → Q (.ref l) H) ∧ (k ≠ 1 → ∀ p, H p = none → Q (.ref p) (upd H p (.tup (List.replicate k.toNat xs).flatten)))
theorem op_repA {X : Cx} : OpR X (binaryOp .Mult) (rRepA X.K) := by
  intro pins s σ H x y v u Q I rx ry h
  obtain ⟨l, k, xs, rfl, rfl, hT, hne, h1, h2, hz, q1, q2⟩ := h
  by_cases big : 2 ≤ k
  · exact op_repT pins s σ H _ _ v u Q I rx ry ⟨l, k, xs, rfl, rfl, hT, hne, big, h2, hz, q2 (by omega)⟩
  · cases rx
    obtain ⟨t, rfl⟩ := ry
    obtain ⟨its, r, ⟨⟨cls, dd, data, sl⟩, ho, hc, n, hd⟩, hs⟩ := I.tuple hT
    simp only at hc hd
    subst hc hd
    have hle : its.length = xs.length := r.length.symm
    have em : its.toArray.isEmpty = false := by
      cases its with
      | nil => exact absurd (List.eq_nil_of_length_eq_zero hle.symm) hne
      | cons a b => rfl
    have a0 : (decide (k < -(2 ^ 63)) || decide (k ≥ 2 ^ 63)) = false := by
      rw [decide_eq_false (by omega), decide_eq_false (by omega)]
      rfl
    have road : ∀ {R : Result → Shared → Prop}, True → True := fun _ => trivial
    by_cases one : k = 1
    · subst one
      exact wpAny_binaryOp_repeat_ref (T := "tuple") (U := "int") (by decide) ⟨_, ho, rfl⟩ (fun s' => typeIs_int s' 1 t) noFill_tuple_mul F.fills_int_mul F.slot_int_rmul repeat_tuple F.slot_int_index.lookup
        (call_meets F.slot_int_rmul (typeIs_int s 1 t) F.entry_int_rmul (F.args_int_rmul_2 _ _) (int_rmul_tuple 1 t l its.toArray n dd sl)
          ⟨ho, rfl, ⟨_, ho, rfl⟩, call_meets F.slot_tuple_mul ⟨_, ho, rfl⟩ F.entry_tuple_mul (F.args_tuple_mul_2 _ _) (mul_self l its.toArray n dd sl 1 t a0 (by rw [Bool.or_comm]; rfl)) ⟨ho, ⟨.ref l, H, I, rfl, q1 rfl⟩⟩⟩)
    · have z : k.toNat = 0 := by omega
      have nil : (List.replicate k.toNat xs).flatten = [] := by rw [z]; rfl
      have q3 := q2 one
      rw [nil] at q3
      refine wpAny_binaryOp_repeat_ref (T := "tuple") (U := "int") (by decide) ⟨_, ho, rfl⟩ (fun s' => typeIs_int s' k t) noFill_tuple_mul F.fills_int_mul F.slot_int_rmul repeat_tuple F.slot_int_index.lookup
        (call_meets F.slot_int_rmul (typeIs_int s k t) F.entry_int_rmul (F.args_int_rmul_2 _ _) (int_rmul_tuple k t l its.toArray n dd sl)
          ⟨ho, rfl, ⟨_, ho, rfl⟩, call_meets F.slot_tuple_mul ⟨_, ho, rfl⟩ F.entry_tuple_mul (F.args_tuple_mul_2 _ _) (mul_none l its.toArray n dd sl k t a0 (by rw [em, Bool.false_or]; exact beq_eq_false_iff_ne.mpr one) (by rw [em, Bool.or_false]; exact decide_eq_true (by omega))) ⟨ho, ?_⟩⟩)
      exact ⟨.ref s.heap.objs.size, _, I.laid (t' := s.toks) (o := .tup []) (fun b ob q => Heap.get?_push_of_some _ q) (Nat.le_refl _) ⟨by show 0 ≤ sizeLine; decide, [], .nil, IsTup.new _ _⟩, rfl, q3 _ (I.hok.fresh (Nat.le_refl _))⟩
/-! ### a tuple from its end -/
section
variable {prog : Program} {w : World} {A : Around} {E : Value → Shared → Prop} {s : Shared}
theorem applied_back {sl : Addr} {vl vu vs : Value} {n : Nat} {Q : Int × Int × Nat → Shared → Prop} (hs : s.heap.IsSliceOf sl vl vu vs) (pl : IsPart vl none) (pu : IsPart vu none) (ps : IsPart vs (some (-1)))
    (h : Q ((n : Int) - 1, -1, n) s) : wpAny (model prog w) A (Builtin.Slice.sliceApplied (.ref sl) (pure (n : Int))) Q E s := by
  obtain ⟨os, hos, hcs, hds⟩ := id hs
  unfold Builtin.Slice.sliceApplied Builtin.Slice.sliceFields
  refine wpAny_bind (wpAny_bind (wpAny_field hos hds (x := vl) rfl (wpAny_bind (wpAny_field hos hds (x := vu) rfl (wpAny_bind (wpAny_field hos hds (x := vs) rfl (wpAny_pure ?_)))))))
  refine wpAny_bind (HT.slicePart_ ps ?_)
  show wpAny _ _ (if ((-1 : Int) == 0) = true then _ else _) _ _ s
  rw [if_neg (by decide)]
  refine wpAny_bind (HT.slicePart_ pl (wpAny_bind (HT.slicePart_ pu (wpAny_bind (wpAny_pure ?_)))))
  have e : Builtin.Slice.slicePlaces ((n : Int) - 1) (-1) (-1) = n := by
    unfold Builtin.Slice.slicePlaces
    rw [if_neg (by decide)]
    by_cases z : (n : Int) - 1 > -1
    · rw [if_pos z, show (-(-1) : Int) = 1 by decide, Int.ediv_one]
      omega
    · rw [if_neg z]
      omega
  show wpAny _ _ (pure ((n : Int) - 1, (-1 : Int), Builtin.Slice.slicePlaces ((n : Int) - 1) (-1) (-1))) _ _ s
  rw [e]
  exact wpAny_pure h
theorem pick_back (xs : Array Value) : ((List.range xs.size).filterMap fun (m : Nat) => xs[((xs.size : Int) - 1 + (m : Int) * (-1)).toNat]?).toArray = xs.toList.reverse.toArray := by
  have e : (List.range xs.size).filterMap (fun (m : Nat) => xs[((xs.size : Int) - 1 + (m : Int) * (-1)).toNat]?) = ((List.range xs.size).map fun m => xs.size - 1 - m).filterMap (xs[·]?) := by
    rw [List.filterMap_map]
    have q : (fun (m : Nat) => xs[((xs.size : Int) - 1 + (m : Int) * (-1)).toNat]?) = (fun x => xs[x]?) ∘ fun m => xs.size - 1 - m := by
      funext m
      have q : ((xs.size : Int) - 1 + (m : Int) * (-1)).toNat = xs.size - 1 - m := by omega
      rw [q]
      rfl
    rw [q]
  rw [e, PySem.W.krv_range, List.filterMap_reverse, PySem.W.krv_all]
theorem item_back {t sl : Addr} {items : Array Value} {vl vu vs : Value} {Q : Value → Shared → Prop} (ht : IsTup s.heap t items) (hs : s.heap.IsSliceOf sl vl vu vs) (pl : IsPart vl none) (pu : IsPart vu none) (ps : IsPart vs (some (-1))) (hz : items.size ≤ sizeLine)
    (h : Q (.ref s.heap.objs.size) { s with heap := s.heap.push { cls := .type "tuple", data := .seq items.toList.reverse.toArray } }) : wpAny (model prog w) A (getItem (.ref t) (.ref sl)) Q E s := by
  have fits : sizeOk (.seq items.toList.reverse.toArray) := by
    show items.toList.reverse.toArray.size ≤ sizeLine
    rw [List.size_toArray, List.length_reverse, Array.length_toList]
    exact hz
  obtain ⟨os, hos, hcs, hds⟩ := id hs
  have isSl : s.TypeIs (.ref sl) "slice" := ⟨os, hos, hcs⟩
  unfold getItem
  try with_reducible refine wpAny_holding ?_
  first | refine wpAny_bind (wpAny_pure ?_) | skip
  refine wpAny_bind (wpAny_sequenceKey ht.typeIs (by decide) ?_)
  refine wpAny_bind (wpAny_callSpecial?_slot (name := Str.ofString "__getitem__") ht.typeIs PyProof.Rows.slot_tuple_getitem
    (wpAny_call_entry PyProof.Rows.slot_tuple_getitem ht.typeIs entry_tuple_getitem ?_ (args_tuple_getitem _ _)))
  show wpAny _ _ (Builtin.Tuple.tupleItemsOf (.ref t) >>= _) _ _ s
  refine wpAny_bind (tupleItemsOf_ ht ?_)
  refine wpAny_bind (wpAny_typeOf isSl ?_)
  rw [if_pos (by decide)]
  refine wpAny_bind (applied_back hs pl pu ps ?_)
  have no : ¬ (((items.size : Int) - 1 == 0 && (-1 : Int) == 1 && items.size == items.size) = true) := by
    intro q
    rw [Bool.and_eq_true, Bool.and_eq_true] at q
    exact absurd q.1.2 (by decide)
  show wpAny _ _ (if (((items.size : Int) - 1) == 0 && (-1 : Int) == 1 && items.size == items.size) = true then _ else _) _ _ s
  rw [if_neg no, pick_back]
  first
    | exact wpAny_bind (m := Builtin.Tuple.tupleExact _) (wpAny_newObj_type (wpAny_pure ⟨_, rfl, wpAny_pure h⟩) fits)
    | exact wpAny_bind (m := Builtin.Tuple.tupleExact _) (wpAny_newObj_type (wpAny_bind (wpAny_pure (wpAny_pure ⟨_, rfl, wpAny_pure h⟩))) fits)
    | exact wpAny_bind (wpAny_bind (m := Builtin.Tuple.tupleExact _) (wpAny_newObj_type (wpAny_pure (wpAny_pure ⟨_, rfl, wpAny_pure h⟩)) fits))
    | exact wpAny_bind (wpAny_bind (m := Builtin.Tuple.tupleExact _) (wpAny_newObj_type (wpAny_pure ⟨_, rfl, wpAny_pure h⟩) fits))
end
/-- e[::-1], a list or a tuple -/
def tRevA (K : PySem.W.Frag) (te : TE) : TE := fun σ H Q => te σ H fun x H1 => ∃ a xs, x = .ref a ∧ ((SqL K H1 a xs ∧ ∀ p, H1 p = none → Q (.ref p) (upd H1 p (.lst xs.reverse))) ∨ (SqT K H1 a xs ∧ ∀ p, H1 p = none → Q (.ref p) (upd H1 p (.tup xs.reverse))))
theorem pe_revA {X : Cx} {e : Expr} {te : TE} {k : Nat} {p1 p2 p3 pos : Pos} (he : PE X e te) : PE X (.Subscript e (.Slice none none (some (.UnaryOp .USub (.Constant (.int 1) k p1) p2)) p3) pos) (tRevA X.K te) := by
  refine ⟨fun pins s σ H Q I h => ?_⟩
  refine Subscript_ (thn (he.run pins s σ H _ I h) fun v s1 ⟨x, H1, I1, r1, q1⟩ => ?_)
  obtain ⟨a, xs, ex, q⟩ := q1
  subst ex
  cases r1
  have hst : PO X (some (.UnaryOp .USub (.Constant (.int 1) k p1) p2)) (tPart (tUn (rU fun i => .int (-i)) (tC (.int 1)))) := po_some (pe_un un_neg pe_int)
  refine wpAny_Slice (thn (po_none.run pins s1 σ H1 (fun o H2 => o = none ∧ H2 = H1) I1 ⟨rfl, rfl⟩) fun vl s2 ⟨l, H2, I2, pl, el, e2⟩ => ?_)
  subst el e2
  refine thn (po_none.run pins s2 σ H2 (fun o H3 => o = none ∧ H3 = H2) I2 ⟨rfl, rfl⟩) fun vu s3 ⟨u, H3, I3, pu, eu, e3⟩ => ?_
  subst eu e3
  refine thn (hst.run pins s3 σ H3 (fun o H4 => o = some (-1) ∧ H4 = H3) I3 ⟨1, rfl, -1, rfl, rfl, rfl⟩) fun vs s4 ⟨o, H4, I4, ps, eo, e4⟩ => ?_
  subst eo e4
  have I5 : Inv X pins σ H4 { s4 with heap := s4.heap.push { cls := .type "slice", data := .fields #[vl, vu, vs] } } := I4.kept (t' := s4.toks) fun b ob q => Heap.get?_push_of_some _ q
  rcases q with ⟨hx, q⟩ | ⟨hx, q⟩
  · obtain ⟨its, r, ht, hz⟩ := I5.list hx
    have hlen := r.length
    show wpAny (model X.prog X.w) X.A (subscriptTail e (.Slice none none (some (.UnaryOp .USub (.Constant (.int 1) k p1) p2)) p3) (.ref a) (.ref s4.heap.objs.size)) (EP X pins σ Q) X.xe { s4 with heap := s4.heap.push { cls := .type "slice", data := .fields #[vl, vu, vs] } }
    refine tail_any (ops := [.ref a, .ref s4.heap.objs.size]) ht.isList.typeIs (PySem.slot_list_getitem.lookup) ?_ (by with_unfolding_all rfl)
    refine wpAny_getItem_list_slice ht.isList (Heap.IsSliceOf.new _ vl vu vs) pl pu ps (by decide) ?_ (by rw [List.size_toArray]; omega)
    rw [PySem.W.krv_pick]
    exact ⟨.ref _, _, I5.laid (t' := s4.toks) (o := .lst xs.reverse) (fun b ob q => Heap.get?_push_of_some _ q) (Nat.le_refl _) ⟨by rw [List.length_reverse]; exact hz, _, 0, r.reverse, Heap.get?_push_size _ rfl⟩, rfl, q _ (I5.hok.fresh (Nat.le_refl _))⟩
  · obtain ⟨its, r, ht, hz⟩ := I5.tuple hx
    have hlen := r.length
    show wpAny (model X.prog X.w) X.A (subscriptTail e (.Slice none none (some (.UnaryOp .USub (.Constant (.int 1) k p1) p2)) p3) (.ref a) (.ref s4.heap.objs.size)) (EP X pins σ Q) X.xe { s4 with heap := s4.heap.push { cls := .type "slice", data := .fields #[vl, vu, vs] } }
    refine tail_any (ops := [.ref a, .ref s4.heap.objs.size]) ht.typeIs (PyProof.Rows.slot_tuple_getitem.lookup) ?_ (by with_unfolding_all rfl)
    refine item_back ht (Heap.IsSliceOf.new _ vl vu vs) pl pu ps (by rw [List.size_toArray]; omega) ?_
    exact ⟨.ref _, _, I5.laid (t' := s4.toks) (o := .tup xs.reverse) (fun b ob q => Heap.get?_push_of_some _ q) (Nat.le_refl _) ⟨by rw [List.length_reverse]; exact hz, _, r.reverse, IsTup.new _ _⟩, rfl, q _ (I5.hok.fresh (Nat.le_refl _))⟩
end Vm
end
section
set_option Elab.async false
set_option linter.all false
set_option maxRecDepth 100000
namespace Vm
open PySem PySem.Spec L2

/-! ### what a value is, in a heap -/
mutual
inductive Dn (K : PySem.W.Frag) (H : Hp) : V → D → Prop
  | non : Dn K H .non .non
  | bl (b : Bool) : Dn K H (.bl b) (.bl b)
  | int (i : Int) : Dn K H (.int i) (.int i)
  | str (x : Str) : Dn K H (.str x) (.str x)
  | lst {a : Addr} {xs : List V} {ds : List D} : H a = some (.lst xs) → DnA K H xs ds → Dn K H (.ref a) (.lst ds)
  | scr {a : Addr} {ns : List Int} : SqL K H a (ns.map V.int) → Dn K H (.ref a) (.scr ns)
  | tup {a : Addr} {xs : List V} {ds : List D} : SqT K H a xs → DnA K H xs ds → Dn K H (.ref a) (.tup ds)
inductive DnA (K : PySem.W.Frag) (H : Hp) : List V → List D → Prop
  | nil : DnA K H [] []
  | cons {v : V} {vs : List V} {d : D} {ds : List D} : Dn K H v d → DnA K H vs ds → DnA K H (v :: vs) (d :: ds)
end
theorem rd_sub {H H' : Hp} {a : Addr} {u : HO} (e : Same H H') (h : Rd H a u) : Rd H' a u := by
  rcases h with h | ⟨o, h⟩
  · exact .inl (e _ _ h)
  · exact .inr ⟨o, e _ _ h⟩
theorem sqT_sub {K : PySem.W.Frag} {H H' : Hp} {a : Addr} {xs : List V} (e : Same H H') (h : SqT K H a xs) : SqT K H' a xs := by
  rcases h with h | h
  · exact .inl (rd_sub e h)
  · exact .inr h
theorem sqL_sub {K : PySem.W.Frag} {H H' : Hp} {a : Addr} {xs : List V} (e : Same H H') (h : SqL K H a xs) : SqL K H' a xs := by
  rcases h with h | h
  · exact .inl (rd_sub e h)
  · exact .inr h
section
variable {K : PySem.W.Frag} {F H F' H' F2 H2 : Hp} {v : V} {d : D} {vs : List V} {ds : List D}
mutual
theorem Dn.mono (e : Same F F') : ∀ (d : D) (v : V), Dn K F v d → Dn K F' v d
  | .non, _, h => by cases h; exact .non
  | .bl b, _, h => by cases h; exact .bl b
  | .int i, _, h => by cases h; exact .int i
  | .str x, _, h => by cases h; exact .str x
  | .lst ds, _, h => by
    cases h with
    | lst h1 h2 => exact .lst (e _ _ h1) (DnA.mono e ds _ h2)
  | .tup ds, _, h => by
    cases h with
    | tup h1 h2 => exact .tup (sqT_sub e h1) (DnA.mono e ds _ h2)
  | .dic _, _, h => by cases h
  | .exc _ _, _, h => by cases h
  | .scr _, _, h => by
    cases h with
    | scr h1 => exact .scr (sqL_sub e h1)
theorem DnA.mono (e : Same F F') : ∀ (ds : List D) (vs : List V), DnA K F vs ds → DnA K F' vs ds
  | [], _, h => by cases h; exact .nil
  | d :: ds, _, h => by
    cases h with
    | cons h1 h2 => exact .cons (Dn.mono e d _ h1) (DnA.mono e ds _ h2)
end
theorem Dn.up (h : Dn K F v d) (e : Same F F') : Dn K F' v d := Dn.mono e d v h
theorem DnA.up (h : DnA K F vs ds) (e : Same F F') : DnA K F' vs ds := DnA.mono e ds vs h
theorem DnA.len : ∀ {vs : List V} {ds : List D}, DnA K F vs ds → vs.length = ds.length
  | _, _, .nil => rfl
  | _, _, .cons _ t => by rw [List.length_cons, List.length_cons, DnA.len t]
theorem DnA.get : ∀ {vs : List V} {ds : List D} {i : Nat} {v : V}, DnA K F vs ds → vs[i]? = some v → ∃ d, ds[i]? = some d ∧ Dn K F v d
  | _, _, _, _, .nil, e => by simp at e
  | _, _, 0, _, .cons r _, e => by simp at e; subst e; exact ⟨_, rfl, r⟩
  | _, _, i + 1, x, .cons _ t, e => by
    obtain ⟨u, h1, h2⟩ := DnA.get (i := i) (v := x) t (by simpa using e)
    exact ⟨u, by simpa using h1, h2⟩
theorem DnA.getD : ∀ {vs : List V} {ds : List D} {i : Nat} {d : D}, DnA K F vs ds → ds[i]? = some d → ∃ v, vs[i]? = some v ∧ Dn K F v d
  | _, _, _, _, .nil, e => by simp at e
  | _, _, 0, _, .cons r _, e => by simp at e; subst e; exact ⟨_, rfl, r⟩
  | _, _, i + 1, x, .cons _ t, e => by
    obtain ⟨u, h1, h2⟩ := DnA.getD (i := i) (d := x) t (by simpa using e)
    exact ⟨u, by simpa using h1, h2⟩
theorem DnA.app : ∀ {vs ws : List V} {ds es : List D}, DnA K F vs ds → DnA K F ws es → DnA K F (vs ++ ws) (ds ++ es)
  | _, _, _, _, .nil, h => h
  | _, _, _, _, .cons r t, h => .cons r (DnA.app t h)
theorem DnA.take : ∀ (n : Nat) {vs : List V} {ds : List D}, DnA K F vs ds → DnA K F (vs.take n) (ds.take n)
  | 0, _, _, _ => .nil
  | _ + 1, _, _, .nil => .nil
  | n + 1, _, _, .cons r t => .cons r (DnA.take n t)
theorem DnA.drop : ∀ (n : Nat) {vs : List V} {ds : List D}, DnA K F vs ds → DnA K F (vs.drop n) (ds.drop n)
  | 0, _, _, h => h
  | _ + 1, _, _, .nil => .nil
  | n + 1, _, _, .cons _ t => DnA.drop n t
theorem DnA.set {v : V} {d : D} (r : Dn K F v d) : ∀ (i : Nat) {vs : List V} {ds : List D}, DnA K F vs ds → DnA K F (vs.set i v) (ds.set i d)
  | _, _, _, .nil => .nil
  | 0, _, _, .cons _ t => .cons r t
  | i + 1, _, _, .cons q t => .cons q (DnA.set r i t)
theorem DnA.rep (h : DnA K F vs ds) : ∀ n : Nat, DnA K F (List.replicate n vs).flatten (List.replicate n ds).flatten
  | 0 => .nil
  | n + 1 => by
    rw [List.replicate_succ, List.replicate_succ, List.flatten_cons, List.flatten_cons]
    exact h.app (DnA.rep h n)
theorem DnA.rev : ∀ {vs : List V} {ds : List D}, DnA K F vs ds → DnA K F vs.reverse ds.reverse
  | _, _, .nil => .nil
  | _, _, .cons a t => by
    rw [List.reverse_cons, List.reverse_cons]
    exact (DnA.rev t).app (.cons a .nil)
mutual
theorem Dn.dp : ∀ (d : D) (v : V), d.plain = true → Dn K F v d → Dp K F v d.py
  | .non, _, _, h => by cases h; exact .non
  | .bl b, _, _, h => by cases h; exact .bl b
  | .int i, _, _, h => by cases h; exact .int i
  | .str x, _, _, h => by cases h; exact .str x
  | .lst ds, _, p, h => by
    cases h with
    | lst h1 h2 => exact .lst (SqL.of h1) (DnA.dp ds _ p h2)
  | .tup ds, _, p, h => by
    cases h with
    | tup h1 h2 => exact .tup h1 (DnA.dp ds _ p h2)
  | .dic _, _, _, h => by cases h
  | .exc _ _, _, _, h => by cases h
  | .scr _, _, p, _ => by cases p
theorem DnA.dp : ∀ (ds : List D) (vs : List V), D.plainAll ds = true → DnA K F vs ds → DpAll K F vs (D.pyAll ds)
  | [], _, _, h => by cases h; exact .nil
  | d :: ds, _, p, h => by
    cases h with
    | cons h1 h2 =>
      have p' := (Bool.and_eq_true _ _).mp p
      exact .cons (Dn.dp d _ p'.1 h1) (DnA.dp ds _ p'.2 h2)
end
mutual
theorem plain_lay : ∀ d : D, d.plain = true → d.py.canLay0 = true
  | .non, _ => rfl
  | .bl _, _ => rfl
  | .int _, _ => rfl
  | .str x, h => h
  | .lst ds, h => plain_layA ds h
  | .tup ds, h => plain_layA ds h
  | .dic _, h => by cases h
  | .exc _ _, h => by cases h
  | .scr _, h => by cases h
theorem plain_layA : ∀ ds : List D, D.plainAll ds = true → PyData.canLayAll0 (D.pyAll ds) = true
  | [], _ => rfl
  | d :: ds, h => by
    have p' := (Bool.and_eq_true _ _).mp h
    exact (Bool.and_eq_true _ _).mpr ⟨plain_lay d p'.1, plain_layA ds p'.2⟩
end
theorem okEq_shaped {d : D} (h : d.okEq = true) : d.plain = true ∧ SeqAt.shaped d.py = true := by
  have p := (Bool.and_eq_true _ _).mp h
  exact ⟨p.1, (Bool.and_eq_true _ _).mpr ⟨plain_lay d p.1, p.2⟩⟩
end

/-! ### states -/
def Own (σ : St) (en : En) (a : Addr) : Prop := ∃ (i : Nat) (l : List D), en[i]? = some (Slot.own l) ∧ σ[i]? = some (some (V.ref a))
structure Bs where
  F : Hp
  H : Hp
  P : Addr → Prop
  pin : Nat → Addr → Prop
structure Ok (B : Bs) (K : PySem.W.Frag) (F H : Hp) (σ : St) (en : En) : Prop where
  len : en.length = σ.length
  val : ∀ (i : Nat) (d : D), en[i]? = some (Slot.val d) → ∃ v, σ[i]? = some (some v) ∧ Dn K F v d
  own : ∀ (i : Nat) (l : List D), en[i]? = some (Slot.own l) → ∃ p us, σ[i]? = some (some (V.ref p)) ∧ H p = some (.lst us) ∧ DnA K F us l ∧ F p = none ∧ (B.P p ∨ B.H p = none)
  inj : ∀ (i j : Nat) (l m : List D) (p : Addr), en[i]? = some (Slot.own l) → en[j]? = some (Slot.own m) → σ[i]? = some (some (V.ref p)) → σ[j]? = some (some (V.ref p)) → i = j
  sub : Same F H
  bsub : Same B.F F
  bnew : ∀ a, B.F a = none → B.H a ≠ none → F a = none
  bkeep : ∀ a o, B.H a = some o → ¬ B.P a → H a = some o
  bdom : ∀ a, B.H a ≠ none → H a ≠ none
  pin : ∀ i p, B.pin i p → σ[i]? = some (some (V.ref p)) ∧ ownAt en i ≠ none
/-- what an expression may do: new things come, own lists may change -/
structure Go (σ : St) (F H : Hp) (en : En) (F' H' : Hp) (en' : En) : Prop where
  sub : Same F F'
  new : ∀ a, F a = none → H a ≠ none → F' a = none
  keep : ∀ a o, H a = some o → ¬ Own σ en a → H' a = some o
  dom : ∀ a, H a ≠ none → H' a ≠ none
  vals : ∀ i : Nat, ownAt en i = none → en'[i]? = en[i]?
  owns : ∀ i, ownAt en i ≠ none → ownAt en' i ≠ none
  len : en'.length = en.length
/-- new things alone -/
structure Px (F H F' H' : Hp) : Prop where
  sub : Same F F'
  hsub : Same H H'
  new : ∀ a, F a = none → H a ≠ none → F' a = none
  fh : Same F' H'
theorem ownAt_some {en : En} {i : Nat} {l : List D} : ownAt en i = some l ↔ en[i]? = some (Slot.own l) := by
  unfold ownAt
  split
  · rename_i m h; rw [h]; constructor
    · intro e; rw [Option.some.inj e]
    · intro e; injection e with e; injection e with e; rw [e]
  · rename_i h; constructor
    · intro e; cases e
    · intro e; exact absurd e (h l)
theorem valAt_some {en : En} {i : Nat} {d : D} : valAt en i = some d ↔ en[i]? = some (Slot.val d) := by
  unfold valAt
  split
  · rename_i m h; rw [h]; constructor
    · intro e; rw [Option.some.inj e]
    · intro e; injection e with e; injection e with e; rw [e]
  · rename_i h; constructor
    · intro e; cases e
    · intro e; exact absurd e (h d)
theorem own_iff {σ : St} {F H F' H' : Hp} {en en' : En} (g : Go σ F H en F' H' en') (a : Addr) : Own σ en' a ↔ Own σ en a := by
  constructor
  · rintro ⟨i, l, h1, h2⟩
    cases e : ownAt en i with
    | some m => exact ⟨i, m, ownAt_some.mp e, h2⟩
    | none =>
      rw [g.vals i e] at h1
      rw [ownAt_some.mpr h1] at e
      cases e
  · rintro ⟨i, l, h1, h2⟩
    have q := g.owns i (by rw [ownAt_some.mpr h1]; exact fun z => nomatch z)
    cases e : ownAt en' i with
    | some m => exact ⟨i, m, ownAt_some.mp e, h2⟩
    | none => exact absurd e q
theorem Go.refl {σ : St} {F H : Hp} {en : En} : Go σ F H en F H en :=
  ⟨Same.refl _, fun _ h _ => h, fun _ _ h _ => h, fun _ h => h, fun _ _ => rfl, fun _ h => h, rfl⟩
theorem Go.trans {σ : St} {F H F1 H1 F2 H2 : Hp} {en en1 en2 : En} (a : Go σ F H en F1 H1 en1) (b : Go σ F1 H1 en1 F2 H2 en2) : Go σ F H en F2 H2 en2 where
  sub := a.sub.trans b.sub
  new := fun x h h' => b.new x (a.new x h h') (a.dom x h')
  keep := fun x o h h' => b.keep x o (a.keep x o h h') fun z => h' ((own_iff a x).mp z)
  dom := fun x h => b.dom x (a.dom x h)
  vals := fun i h => by
    have e1 := a.vals i h
    have h1 : ownAt en1 i = none := by unfold ownAt at h ⊢; rw [e1]; exact h
    rw [b.vals i h1, e1]
  owns := fun i h => b.owns i (a.owns i h)
  len := b.len.trans a.len
theorem Px.refl {F H : Hp} (h : Same F H) : Px F H F H := ⟨Same.refl _, Same.refl _, fun _ h _ => h, h⟩
theorem some_ne {α : Type} {x : Option α} {o : α} (h : x = some o) : x ≠ none := fun z => by rw [h] at z; cases z
theorem ne_some {α : Type} {x : Option α} (h : x ≠ none) : ∃ o, x = some o := by
  cases x with
  | none => exact absurd rfl h
  | some o => exact ⟨o, rfl⟩
theorem Px.trans {F H F1 H1 F2 H2 : Hp} (a : Px F H F1 H1) (b : Px F1 H1 F2 H2) : Px F H F2 H2 where
  sub := a.sub.trans b.sub
  hsub := a.hsub.trans b.hsub
  new := fun x h h' => by
    obtain ⟨o, e⟩ := ne_some h'
    exact b.new x (a.new x h h') (some_ne (a.hsub _ _ e))
  fh := b.fh
theorem Px.go {σ : St} {F H F' H' : Hp} {en : En} (p : Px F H F' H') : Go σ F H en F' H' en :=
  ⟨p.sub, p.new, fun a o h _ => p.hsub a o h, fun a h => by
    obtain ⟨o, e⟩ := ne_some h
    exact some_ne (p.hsub _ _ e), fun _ _ => rfl, fun _ h => h, rfl⟩
theorem Ok.px {B : Bs} {K : PySem.W.Frag} {F H F' H' : Hp} {σ : St} {en : En} (k : Ok B K F H σ en) (p : Px F H F' H') : Ok B K F' H' σ en where
  len := k.len
  val := fun i d h => by
    obtain ⟨v, e, q⟩ := k.val i d h
    exact ⟨v, e, q.up p.sub⟩
  own := fun i l h => by
    obtain ⟨a, us, e, q, r, n, b⟩ := k.own i l h
    exact ⟨a, us, e, p.hsub _ _ q, r.up p.sub, p.new a n (some_ne q), b⟩
  inj := k.inj
  sub := p.fh
  bsub := k.bsub.trans p.sub
  bnew := fun a h h' => p.new a (k.bnew a h h') (k.bdom a h')
  bkeep := fun a o h h' => p.hsub _ _ (k.bkeep a o h h')
  bdom := fun a h => by
    obtain ⟨o, e⟩ := ne_some (k.bdom a h)
    exact some_ne (p.hsub _ _ e)
  pin := k.pin
/-- a new thing that never changes -/
theorem Px.add {F H : Hp} (h : Same F H) {p : Addr} {o : HO} (hp : H p = none) : Px F H (upd F p o) (upd H p o) := by
  have fp : F p = none := h.free hp
  refine ⟨fun b u e => ?_, fun b u e => ?_, fun a e e' => ?_, fun b u e => ?_⟩
  · rw [upd_ne (ne_of_none e fp)]; exact e
  · rw [upd_ne (ne_of_none e hp)]; exact e
  · have ne : a ≠ p := fun z => e' (by rw [z]; exact hp)
    rw [upd_ne ne]; exact e
  · by_cases z : b = p
    · subst z; rw [upd_same] at e ⊢; exact e
    · rw [upd_ne z] at e ⊢; exact h _ _ e
/-- a new thing that may change: not in F -/
theorem Px.addO {F H : Hp} (h : Same F H) {p : Addr} {o : HO} (hp : H p = none) : Px F H F (upd H p o) :=
  ⟨Same.refl _, fun b u e => by rw [upd_ne (ne_of_none e hp)]; exact e, fun _ e _ => e, fun b u e => by
    rw [upd_ne (ne_of_none (h _ _ e) hp)]; exact h _ _ e⟩

/-! ### operands -/
/-- an operand: a value, or an own list read where it stands -/
def DA (K : PySem.W.Frag) (F H : Hp) (v : V) (d : D) : Prop := Dn K F v d ∨ ∃ p us ds, v = .ref p ∧ d = .lst ds ∧ H p = some (.lst us) ∧ DnA K F us ds
theorem DA.lst {K : PySem.W.Frag} {F H : Hp} {v : V} {ds : List D} (h : DA K F H v (.lst ds)) (s : Same F H) : ∃ p us, v = .ref p ∧ H p = some (.lst us) ∧ DnA K F us ds := by
  rcases h with h | ⟨p, us, es, e1, e2, h1, h2⟩
  · cases h with
    | lst h1 h2 => exact ⟨_, _, rfl, s _ _ h1, h2⟩
  · cases e2
    exact ⟨p, us, e1, h1, h2⟩
theorem DA.tup {K : PySem.W.Frag} {F H : Hp} {v : V} {ds : List D} (h : DA K F H v (.tup ds)) (s : Same F H) : ∃ p us, v = .ref p ∧ SqT K H p us ∧ DnA K F us ds := by
  rcases h with h | ⟨p, us, es, e1, e2, h1, h2⟩
  · cases h with
    | tup h1 h2 => exact ⟨_, _, rfl, sqT_sub s h1, h2⟩
  · cases e2
theorem DA.int {K : PySem.W.Frag} {F H : Hp} {v : V} {i : Int} (h : DA K F H v (.int i)) : v = .int i := by
  rcases h with h | ⟨p, us, es, e1, e2, h1, h2⟩
  · cases h; rfl
  · cases e2
theorem DA.bl {K : PySem.W.Frag} {F H : Hp} {v : V} {i : Bool} (h : DA K F H v (.bl i)) : v = .bl i := by
  rcases h with h | ⟨p, us, es, e1, e2, h1, h2⟩
  · cases h; rfl
  · cases e2
theorem DA.str {K : PySem.W.Frag} {F H : Hp} {v : V} {i : Str} (h : DA K F H v (.str i)) : v = .str i := by
  rcases h with h | ⟨p, us, es, e1, e2, h1, h2⟩
  · cases h; rfl
  · cases e2
theorem DA.scr {K : PySem.W.Frag} {F H : Hp} {v : V} {ns : List Int} (h : DA K F H v (.scr ns)) (s : Same F H) : ∃ p, v = .ref p ∧ SqL K H p (ns.map V.int) := by
  rcases h with h | ⟨p, us, es, e1, e2, h1, h2⟩
  · cases h with
    | scr h1 => exact ⟨_, rfl, sqL_sub s h1⟩
  · cases e2
theorem DA.dn {K : PySem.W.Frag} {F H : Hp} {v : V} {d : D} (h : DA K F H v d) (s : Same F H) : Dn K H v d := by
  rcases h with h | ⟨p, us, es, e1, e2, h1, h2⟩
  · exact h.up s
  · subst e1; subst e2; exact .lst h1 (h2.up s)
inductive DAs (K : PySem.W.Frag) (F H : Hp) : List V → List D → Prop
  | nil : DAs K F H [] []
  | cons {v : V} {vs : List V} {d : D} {ds : List D} : DA K F H v d → DAs K F H vs ds → DAs K F H (v :: vs) (d :: ds)
inductive AvA (K : PySem.W.Frag) (F : Hp) (σ : St) : List AV → List V → Prop
  | nil : AvA K F σ [] []
  | d {v : V} {vs : List V} {d : D} {as : List AV} : Dn K F v d → AvA K F σ as vs → AvA K F σ (.d d :: as) (v :: vs)
  | b {v : V} {vs : List V} {i : Nat} {as : List AV} : σ[i]? = some (some v) → AvA K F σ as vs → AvA K F σ (.b i :: as) (v :: vs)
  | o {v : V} {vs : List V} {i : Nat} {as : List AV} : σ[i]? = some (some v) → AvA K F σ as vs → AvA K F σ (.o i :: as) (v :: vs)
theorem AvA.das {B : Bs} {K : PySem.W.Frag} {F H : Hp} {σ : St} {en : En} (k : Ok B K F H σ en) : ∀ {as : List AV} {vs : List V} {ds : List D}, AvA K F σ as vs → resolveD en as = some ds → DAs K F H vs ds
  | _, _, _, .nil, e => by cases e; exact .nil
  | _, _, _, .d (as := as) h t, e => by
    unfold resolveD at e
    cases r : resolveD en as with
    | none => rw [r] at e; cases e
    | some q =>
      rw [r] at e
      cases e
      exact .cons (.inl h) (AvA.das k t r)
  | _, _, _, .b (i := i) (as := as) h t, e => by
    unfold resolveD at e
    cases o : ownAt en i with
    | none => simp only [o] at e; cases e
    | some l =>
      simp only [o] at e
      cases r : resolveD en as with
      | none => rw [r] at e; cases e
      | some q =>
        rw [r] at e
        cases e
        obtain ⟨p, us, e1, h1, h2, _⟩ := k.own i l (ownAt_some.mp o)
        rw [h] at e1
        cases e1
        exact .cons (.inr ⟨p, us, l, rfl, rfl, h1, h2⟩) (AvA.das k t r)
  | _, _, _, .o _ _, e => by cases e
end Vm
end
section
set_option Elab.async false
set_option linter.all false
set_option maxRecDepth 100000
namespace Vm
open PySem PySem.Spec L2

/-! ### what a primitive asks, and that data answer it -/
def Qz (K : PySem.W.Frag) (F H : Hp) (d : D) (Q : VK) : Prop := ∀ v F' H', Px F H F' H' → Dn K F' v d → Q v H'
/-- a new list, which nobody else holds -/
def Qf (K : PySem.W.Frag) (F H : Hp) (ds : List D) (Q : VK) : Prop := ∀ p us F' H', Px F H F' H' → H p = none → F' p = none → H' p = some (.lst us) → DnA K F' us ds → Q (.ref p) H'
section
variable {K : PySem.W.Frag} {F H : Hp} {Q : VK} {d d1 d2 d3 : D} {ds es : List D} {x y z v : V} {vs : List V}
/-- frozen now -/
theorem Px.fz {F H F' H' : Hp} (p : Px F H F' H') {a : Addr} {o : HO} (h : H a = none) (f : F' a = none) (e : H' a = some o) : Px F H (upd F' a o) H' := by
  refine ⟨fun b u q => ?_, p.hsub, fun b q r => ?_, fun b u q => ?_⟩
  · rw [upd_ne (ne_of_none (p.sub _ _ q) f)]; exact p.sub _ _ q
  · rw [upd_ne (fun z => r (by rw [z]; exact h))]; exact p.new b q r
  · by_cases z : b = a
    · subst z; rw [upd_same] at q; cases q; exact e
    · rw [upd_ne z] at q; exact p.fh _ _ q
theorem Qz.f (q : Qz K F H (.lst ds) Q) : Qf K F H ds Q := fun p us F' H' px h f e a =>
  q (.ref p) (upd F' p (.lst us)) H' (px.fz h f e) (.lst upd_same (a.up (fun b u z => by rw [upd_ne (ne_of_none z f)]; exact z)))
theorem Qz.now (q : Qz K F H d Q) (s : Same F H) (h : Dn K F v d) : Q v H := q v F H (Px.refl s) h
theorem Qz.tup (q : Qz K F H (.tup ds) Q) (s : Same F H) (a : DnA K F vs ds) : ∀ p, H p = none → Q (.ref p) (upd H p (.tup vs)) := fun p hp =>
  q (.ref p) (upd F p (.tup vs)) (upd H p (.tup vs)) (Px.add s hp) (.tup (SqT.of upd_same) (a.up (Px.add s hp (o := .tup vs)).sub))
theorem Qf.lst (q : Qf K F H ds Q) (s : Same F H) (a : DnA K F vs ds) : ∀ p, H p = none → Q (.ref p) (upd H p (.lst vs)) := fun p hp =>
  q p vs F (upd H p (.lst vs)) (Px.addO s hp) hp (s.free hp) upd_same a
theorem line_of {n : Nat} (h : n ≤ lineN) : n ≤ sizeLine := Nat.le_trans h (by decide)

/-! the relations, one a primitive -/
abbrev RR := List V → Hp → VK → Prop
def r1 (r : V → Hp → VK → Prop) : RR := fun vs H Q => ∃ x, vs = [x] ∧ r x H Q
def r2 (r : R2) : RR := fun vs H Q => ∃ x y, vs = [x, y] ∧ r x y H Q
def rAddV (K : PySem.W.Frag) : R2 := fun x y H Q => rI0 (fun i j => .int (i + j)) x y H Q ∨ rCat x y H Q ∨ rCatA K x y H Q
def rMulV (K : PySem.W.Frag) : R2 := fun x y H Q => rI (fun i j => mulOk i j = true) (fun i j => .int (i * j)) x y H Q ∨ rRep x y H Q ∨ rRepA K x y H Q
def rEqP (K : PySem.W.Frag) : R2 := fun x y H Q => rEqD K x y H Q ∨ rEq x y H Q
def rNeP (K : PySem.W.Frag) : R2 := fun x y H Q => rNeD K x y H Q ∨ rNe x y H Q
theorem mulOk_ok {i j : Int} (h : mulOk i j = true) : IntMulOk i j := by
  have b : ∀ x : Int, Builtin.Int.intBits x ≤ x.natAbs.log2 + 1 := fun x => by
    unfold Builtin.Int.intBits
    split <;> omega
  have h3 : i.natAbs.log2 + j.natAbs.log2 ≤ 130000000 := of_decide_eq_true h
  intro z
  rw [Bool.and_eq_true] at z
  have z3 : (bitsLine : Int) < _ := of_decide_eq_true z.2
  have e : bitsLine = 134217728 := by decide
  rw [e] at z3
  have h1 := b i
  have h2 := b j
  omega
theorem op_mulV {X : Cx} : OpR X (binaryOp .Mult) (rMulV X.K) := OpR.or (opI fun _ _ _ _ _ _ _ hc q => PyProof.Rows.mul_int q (mulOk_ok hc)) (OpR.or op_rep op_repA)
theorem op_addV {X : Cx} : OpR X (binaryOp .Add) (rAddV X.K) := OpR.or op_add (OpR.or op_cat op_catA)
theorem op_fdivV {X : Cx} : OpR X (binaryOp .FloorDiv) (rI (fun _ j => divOk j = true) fun i j => .int (i / j)) := opI fun i j _ _ _ _ _ hc q => by
  have h := (Bool.and_eq_true _ _).mp hc
  have h1 : (0 : Int) < j := of_decide_eq_true h.1
  exact PyProof.Rows.floordiv_int (by omega) (by rw [Int.fdiv_eq_ediv_of_nonneg i (by omega)]; exact q) (.inl (PyProof.noPylong_of_log2 (of_decide_eq_true h.2)))
theorem op_powV {X : Cx} : OpR X (binaryOp .Pow) (rI (fun i j => powOk i j = true) fun i j => .int (i ^ j.toNat)) := opI fun i j _ _ _ _ _ hc q => by
  have h := (Bool.and_eq_true _ _).mp hc
  have h1 := (Bool.and_eq_true _ _).mp h.1
  exact PyProof.Rows.pow_int_small (of_decide_eq_true h1.1) (of_decide_eq_true h1.2) (of_decide_eq_true h.2) q

theorem DAs.two (h : DAs K F H [x, y] [d1, d2]) : DA K F H x d1 ∧ DA K F H y d2 := by
  cases h with
  | cons a t => cases t with
    | cons b t => exact ⟨a, b⟩
theorem DAs.inv1 {vs : List V} (h : DAs K F H vs [d1]) : ∃ x, vs = [x] ∧ DA K F H x d1 := by
  cases h with
  | cons a t => cases t with
    | nil => exact ⟨_, rfl, a⟩
theorem DAs.inv2 {vs : List V} (h : DAs K F H vs [d1, d2]) : ∃ x y, vs = [x, y] ∧ DA K F H x d1 ∧ DA K F H y d2 := by
  cases h with
  | cons a t =>
    obtain ⟨y, rfl, b⟩ := t.inv1
    exact ⟨_, y, rfl, a, b⟩
theorem DAs.inv3 {vs : List V} (h : DAs K F H vs [d1, d2, d3]) : ∃ x y z, vs = [x, y, z] ∧ DA K F H x d1 ∧ DA K F H y d2 ∧ DA K F H z d3 := by
  cases h with
  | cons a t =>
    obtain ⟨y, z, rfl, b, c⟩ := t.inv2
    exact ⟨_, y, z, rfl, a, b, c⟩
theorem R.ok_inj {α : Type} {a b : α} (h : R.ok a = R.ok b) : a = b := by cases h; rfl

theorem cut_dn {us : List V} (a : DnA K F us ds) (lo hi : Option Int) : DnA K F (cutV us lo hi) (cut ds lo hi) := by
  unfold cutV cut
  rw [a.len]
  exact (a.drop _).take _
theorem dnInts : ∀ ns : List Int, DnA K F (ns.map V.int) (ns.map D.int)
  | [] => .nil
  | n :: ns => .cons (.int n) (dnInts ns)
theorem intsD_dn : ∀ {ds : List D} {us : List V} {ns : List Int}, intsD ds = some ns → DnA K F us ds → us = ns.map V.int
  | [], _, _, h, .nil => by cases h; rfl
  | .int i :: ds, _, ns, h, .cons a t => by
    unfold intsD at h
    cases q : intsD ds with
    | none => rw [q] at h; cases h
    | some ms =>
      rw [q] at h
      cases h
      cases a
      rw [intsD_dn q t]
      rfl
  | .non :: _, _, _, h, _ => by cases h
  | .bl _ :: _, _, _, h, _ => by cases h
  | .str _ :: _, _, _, h, _ => by cases h
  | .tup _ :: _, _, _, h, _ => by cases h
  | .lst _ :: _, _, _, h, _ => by cases h
  | .dic _ :: _, _, _, h, _ => by cases h
  | .exc _ _ :: _, _, _, h, _ => by cases h
  | .scr _ :: _, _, _, h, _ => by cases h
theorem boolsD_dn : ∀ {ds : List D} {us : List V} {ns : List Bool}, boolsD ds = some ns → DnA K F us ds → us = ns.map V.bl
  | [], _, _, h, .nil => by cases h; rfl
  | .bl i :: ds, _, ns, h, .cons a t => by
    unfold boolsD at h
    cases q : boolsD ds with
    | none => rw [q] at h; cases h
    | some ms =>
      rw [q] at h
      cases h
      cases a
      rw [boolsD_dn q t]
      rfl
  | .non :: _, _, _, h, _ => by cases h
  | .int _ :: _, _, _, h, _ => by cases h
  | .str _ :: _, _, _, h, _ => by cases h
  | .tup _ :: _, _, _, h, _ => by cases h
  | .lst _ :: _, _, _, h, _ => by cases h
  | .dic _ :: _, _, _, h, _ => by cases h
  | .exc _ _ :: _, _, _, h, _ => by cases h
  | .scr _ :: _, _, _, h, _ => by cases h

/-! add -/
theorem add_ok (h : p_add [d1, d2] = .ok d) (a : DA K F H x d1) (b : DA K F H y d2) (s : Same F H) (q : Qz K F H d Q) : rAddV K x y H Q := by
  unfold p_add at h
  split at h <;> try cases h
  all_goals rename_i hd; cases hd
  · have e1 := a.int; have e2 := b.int
    subst e1; subst e2
    exact .inl ⟨_, _, rfl, rfl, q.now s (.int _)⟩
  · rename_i l m
    split at h
    · rename_i hz
      cases h
      obtain ⟨p, us, rfl, h1, a1⟩ := a.tup s
      obtain ⟨p2, us2, rfl, h2, a2⟩ := b.tup s
      refine .inr (.inr ⟨p, p2, us, us2, rfl, rfl, h1, h2, line_of (by rw [a1.len, a2.len]; exact hz), fun e => ?_, fun _ e => ?_, fun _ _ => q.tup s (a1.app a2)⟩)
      · subst e
        cases a1
        have b' : Dn K F (.ref p2) (.tup m) := by
          rcases b with b | ⟨_, _, _, _, z, _⟩
          · exact b
          · cases z
        exact q.now s b'
      · subst e
        cases a2
        have a' : Dn K F (.ref p) (.tup l) := by
          rcases a with b | ⟨_, _, _, _, z, _⟩
          · exact b
          · cases z
        rw [List.append_nil] at q
        exact q.now s a'
    · cases h
  · split at h
    · rename_i hz
      cases h
      obtain ⟨p, us, rfl, h1, a1⟩ := a.lst s
      obtain ⟨p2, us2, rfl, h2, a2⟩ := b.lst s
      exact .inr (.inl ⟨p, p2, us, us2, rfl, rfl, h1, h2, line_of (by rw [a1.len, a2.len]; exact hz), q.f.lst s (a1.app a2)⟩)
    · cases h
theorem add_okF {l m : List D} (hz : l.length + m.length ≤ lineN) (a : DA K F H x (.lst l)) (b : DA K F H y (.lst m)) (s : Same F H) (q : Qf K F H (l ++ m) Q) : rAddV K x y H Q := by
  obtain ⟨p, us, rfl, h1, a1⟩ := a.lst s
  obtain ⟨p2, us2, rfl, h2, a2⟩ := b.lst s
  exact .inr (.inl ⟨p, p2, us, us2, rfl, rfl, h1, h2, line_of (by rw [a1.len, a2.len]; exact hz), q.lst s (a1.app a2)⟩)
end
end Vm
end
section
set_option Elab.async false
set_option linter.all false
set_option maxRecDepth 100000
namespace Vm
open PySem PySem.Spec L2
section
variable {K : PySem.W.Frag} {F H : Hp} {Q : VK} {d d1 d2 d3 : D} {ds es : List D} {x y z v : V} {vs : List V}

theorem mul_okF {l : List D} {k : Int} (hz : (decide (k < 1000000) && decide (l.length * k.toNat ≤ lineN) && decide (-1000000 < k)) = true) (a : DA K F H x (.lst l)) (b : DA K F H y (.int k)) (s : Same F H)
    (q : Qf K F H (List.replicate k.toNat l).flatten Q) : rMulV K x y H Q := by
  have h := (Bool.and_eq_true _ _).mp hz
  have h1 := (Bool.and_eq_true _ _).mp h.1
  have e := b.int
  subst e
  obtain ⟨p, us, rfl, h2, a1⟩ := a.lst s
  have l1 : k < 1000000 := of_decide_eq_true h1.1
  have l2 : -1000000 < k := of_decide_eq_true h.2
  refine .inr (.inl ⟨p, k, us, rfl, rfl, h2, by omega, by omega, line_of (by rw [a1.len]; exact of_decide_eq_true h1.2), q.lst s (a1.rep _)⟩)
theorem flat1 (l : List D) : (List.replicate (1 : Int).toNat l).flatten = l := by
  show l ++ [] = l
  rw [List.append_nil]
theorem mul_ok (h : p_mul [d1, d2] = .ok d) (a : DA K F H x d1) (b : DA K F H y d2) (s : Same F H) (q : Qz K F H d Q) : rMulV K x y H Q := by
  unfold p_mul at h
  split at h <;> try cases h
  all_goals rename_i hd; cases hd
  · split at h
    · rename_i hz
      cases h
      have e1 := a.int; have e2 := b.int
      subst e1; subst e2
      exact .inl ⟨_, _, rfl, rfl, hz, q.now s (.int _)⟩
    · cases h
  · split at h
    · rename_i hz
      cases h
      exact mul_okF hz a b s q.f
    · cases h
  · split at h
    · rename_i hz
      cases h
      obtain ⟨z0, z4⟩ := (Bool.and_eq_true _ _).mp hz
      obtain ⟨z0, z3⟩ := (Bool.and_eq_true _ _).mp z0
      obtain ⟨z1, z2⟩ := (Bool.and_eq_true _ _).mp z0
      have e2 := b.int
      subst e2
      obtain ⟨p, us, rfl, sq, dn⟩ := a.tup s
      have ln := dn.len
      refine .inr (.inr ⟨p, _, us, rfl, rfl, sq, fun e => ?_, of_decide_eq_true z4, of_decide_eq_true z2, by rw [ln]; exact of_decide_eq_true z3, fun one => ?_, fun _ => q.tup s (dn.rep _)⟩)
      · rw [e] at ln
        have l0 := List.eq_nil_of_length_eq_zero ln.symm
        rw [l0] at z1
        cases z1
      · subst one
        rcases a with a | ⟨_, _, _, _, e3, _⟩
        · rw [flat1] at q
          exact q.now s a
        · cases e3
    · cases h
theorem sub_ok (h : p_sub [d1, d2] = .ok d) (a : DA K F H x d1) (b : DA K F H y d2) (s : Same F H) (q : Qz K F H d Q) : rI0 (fun i j => .int (i - j)) x y H Q := by
  unfold p_sub at h
  split at h <;> try cases h
  all_goals rename_i hd; cases hd
  have e1 := a.int; have e2 := b.int
  subst e1; subst e2
  exact ⟨_, _, rfl, rfl, q.now s (.int _)⟩
theorem fdiv_ok (h : p_fdiv [d1, d2] = .ok d) (a : DA K F H x d1) (b : DA K F H y d2) (s : Same F H) (q : Qz K F H d Q) : rI (fun _ j => divOk j = true) (fun i j => .int (i / j)) x y H Q := by
  unfold p_fdiv at h
  split at h <;> try cases h
  all_goals rename_i hd; cases hd
  split at h
  · rename_i hz
    cases h
    have e1 := a.int; have e2 := b.int
    subst e1; subst e2
    exact ⟨_, _, rfl, rfl, hz, q.now s (.int _)⟩
  · cases h
theorem mod_ok (h : p_mod [d1, d2] = .ok d) (a : DA K F H x d1) (b : DA K F H y d2) (s : Same F H) (q : Qz K F H d Q) : rI (fun _ j => j ≠ 0) (fun i j => .int (i.fmod j)) x y H Q := by
  unfold p_mod at h
  split at h <;> try cases h
  all_goals rename_i hd; cases hd
  split at h
  · rename_i hz
    cases h
    have e1 := a.int; have e2 := b.int
    subst e1; subst e2
    exact ⟨_, _, rfl, rfl, hz, q.now s (.int _)⟩
  · cases h
theorem pow_ok (h : p_pow [d1, d2] = .ok d) (a : DA K F H x d1) (b : DA K F H y d2) (s : Same F H) (q : Qz K F H d Q) : rI (fun i j => powOk i j = true) (fun i j => .int (i ^ j.toNat)) x y H Q := by
  unfold p_pow at h
  split at h <;> try cases h
  all_goals rename_i hd; cases hd
  split at h
  · rename_i hz
    cases h
    have e1 := a.int; have e2 := b.int
    subst e1; subst e2
    exact ⟨_, _, rfl, rfl, hz, q.now s (.int _)⟩
  · cases h
theorem eq_okD (h : (if d1.okEq && d2.okEq then R.ok (D.bl (d1.eqv d2)) else .bad) = .ok d) (a : DA K F H x d1) (b : DA K F H y d2) (s : Same F H) (q : Qz K F H d Q) : rEqD K x y H Q := by
  have h : (if (d1.okEq && d2.okEq) = true then R.ok (D.bl (d1.eqv d2)) else R.bad) = R.ok d := h
  split at h
  · rename_i hz
    cases h
    have g := (Bool.and_eq_true _ _).mp hz
    obtain ⟨p1, s1⟩ := okEq_shaped g.1
    obtain ⟨p2, s2⟩ := okEq_shaped g.2
    exact ⟨_, _, Dn.dp _ _ p1 (a.dn s), Dn.dp _ _ p2 (b.dn s), s1, s2, q.now s (.bl _)⟩
  · cases h
theorem ne_okD (h : (if d1.okEq && d2.okEq then R.ok (D.bl (!d1.eqv d2)) else .bad) = .ok d) (a : DA K F H x d1) (b : DA K F H y d2) (s : Same F H) (q : Qz K F H d Q) : rNeD K x y H Q := by
  have h : (if (d1.okEq && d2.okEq) = true then R.ok (D.bl (!d1.eqv d2)) else R.bad) = R.ok d := h
  split at h
  · rename_i hz
    cases h
    have g := (Bool.and_eq_true _ _).mp hz
    obtain ⟨p1, s1⟩ := okEq_shaped g.1
    obtain ⟨p2, s2⟩ := okEq_shaped g.2
    exact ⟨_, _, Dn.dp _ _ p1 (a.dn s), Dn.dp _ _ p2 (b.dn s), s1, s2, q.now s (.bl _)⟩
  · cases h
theorem str_dec {a b : Str} : decide (V.str a = V.str b) = decide (a = b) := by
  by_cases h : a = b
  · subst h; rw [decide_eq_true rfl, decide_eq_true rfl]
  · rw [decide_eq_false h, decide_eq_false (fun e => h (by cases e; rfl))]
theorem eq_ok (h : p_eq [d1, d2] = .ok d) (a : DA K F H x d1) (b : DA K F H y d2) (s : Same F H) (q : Qz K F H d Q) : rEqP K x y H Q := by
  unfold p_eq at h
  split at h
  · rename_i e
    cases e
    cases h
    have e1 := a.str; have e2 := b.str
    subst e1; subst e2
    exact .inr ⟨rfl, by rw [str_dec]; exact q.now s (.bl _)⟩
  · rename_i e
    cases e
    exact .inl (eq_okD h a b s q)
  · cases h
theorem ne_ok (h : p_ne [d1, d2] = .ok d) (a : DA K F H x d1) (b : DA K F H y d2) (s : Same F H) (q : Qz K F H d Q) : rNeP K x y H Q := by
  unfold p_ne at h
  split at h
  · rename_i e
    cases e
    cases h
    have e1 := a.str; have e2 := b.str
    subst e1; subst e2
    exact .inr ⟨rfl, by rw [str_dec]; exact q.now s (.bl _)⟩
  · rename_i e
    cases e
    exact .inl (ne_okD h a b s q)
  · cases h
theorem lt_ok (h : p_lt [d1, d2] = .ok d) (a : DA K F H x d1) (b : DA K F H y d2) (s : Same F H) (q : Qz K F H d Q) : rI0 (fun i j => .bl (decide (i < j))) x y H Q := by
  unfold p_lt at h
  split at h <;> try cases h
  all_goals rename_i hd; cases hd
  have e1 := a.int; have e2 := b.int
  subst e1; subst e2
  exact ⟨_, _, rfl, rfl, q.now s (.bl _)⟩
theorem le_ok (h : p_le [d1, d2] = .ok d) (a : DA K F H x d1) (b : DA K F H y d2) (s : Same F H) (q : Qz K F H d Q) : rI0 (fun i j => .bl (decide (i ≤ j))) x y H Q := by
  unfold p_le at h
  split at h <;> try cases h
  all_goals rename_i hd; cases hd
  have e1 := a.int; have e2 := b.int
  subst e1; subst e2
  exact ⟨_, _, rfl, rfl, q.now s (.bl _)⟩
theorem gt_ok (h : p_gt [d1, d2] = .ok d) (a : DA K F H x d1) (b : DA K F H y d2) (s : Same F H) (q : Qz K F H d Q) : rI0 (fun i j => .bl (decide (j < i))) x y H Q := by
  unfold p_gt at h
  split at h <;> try cases h
  all_goals rename_i hd; cases hd
  have e1 := a.int; have e2 := b.int
  subst e1; subst e2
  exact ⟨_, _, rfl, rfl, q.now s (.bl _)⟩
theorem ge_ok (h : p_ge [d1, d2] = .ok d) (a : DA K F H x d1) (b : DA K F H y d2) (s : Same F H) (q : Qz K F H d Q) : rI0 (fun i j => .bl (decide (j ≤ i))) x y H Q := by
  unfold p_ge at h
  split at h <;> try cases h
  all_goals rename_i hd; cases hd
  have e1 := a.int; have e2 := b.int
  subst e1; subst e2
  exact ⟨_, _, rfl, rfl, q.now s (.bl _)⟩
theorem neg_ok (h : p_neg [d1] = .ok d) (a : DA K F H x d1) (s : Same F H) (q : Qz K F H d Q) : rU (fun i => .int (-i)) x H Q := by
  unfold p_neg at h
  split at h <;> try cases h
  all_goals rename_i hd; cases hd
  have e1 := a.int
  subst e1
  exact ⟨_, rfl, q.now s (.int _)⟩
theorem not_ok (h : p_not [d1] = .ok d) (a : DA K F H x d1) (s : Same F H) (q : Qz K F H d Q) : ∃ c, x = .bl c ∧ Q (.bl (!c)) H := by
  unfold p_not at h
  split at h <;> try cases h
  all_goals rename_i hd; cases hd
  have e1 := a.bl
  subst e1
  exact ⟨_, rfl, q.now s (.bl _)⟩
theorem da_non (a : DA K F H x d1) : x = .non ↔ d1 = .non := by
  constructor
  · intro e
    subst e
    rcases a with a | ⟨p, us, es, e1, _⟩
    · cases a; rfl
    · cases e1
  · intro e
    subst e
    rcases a with a | ⟨p, us, es, e1, e2, _⟩
    · cases a; rfl
    · cases e2
theorem isn_ok (h : p_isn [d1] = .ok d) (a : DA K F H x d1) (s : Same F H) (q : Qz K F H d Q) : Q (.bl (decide (x = .non))) H := by
  unfold p_isn at h
  split at h <;> try cases h
  · rename_i hd
    cases hd
    rw [decide_eq_true ((da_non a).mpr rfl)]
    exact q.now s (.bl _)
  · rename_i n hd
    cases hd
    rw [decide_eq_false (fun z => n (by rw [(da_non a).mp z]))]
    exact q.now s (.bl _)
theorem nisn_ok (h : p_nisn [d1] = .ok d) (a : DA K F H x d1) (s : Same F H) (q : Qz K F H d Q) : Q (.bl (!decide (x = .non))) H := by
  unfold p_nisn at h
  split at h <;> try cases h
  · rename_i hd
    cases hd
    rw [decide_eq_true ((da_non a).mpr rfl)]
    exact q.now s (.bl _)
  · rename_i n hd
    cases hd
    rw [decide_eq_false (fun z => n (by rw [(da_non a).mp z]))]
    exact q.now s (.bl _)
theorem ixL_ok {l : List D} {us : List V} {i : Int} (h : ixL l i = .ok d) (a : DnA K F us l) : ∃ v, atI us i = some v ∧ Dn K F v d := by
  unfold ixL at h
  cases e : ixN l.length i with
  | none => rw [e] at h; cases h
  | some j =>
    rw [e] at h
    simp only at h
    cases e2 : l[j]? with
    | none => rw [e2] at h; cases h
    | some d' =>
      rw [e2] at h
      cases h
      obtain ⟨v, hv, dv⟩ := a.getD e2
      refine ⟨v, ?_, dv⟩
      unfold atI
      rw [a.len, e]
      exact hv
theorem ix_ok (h : p_ix [d1, d2] = .ok d) (a : DA K F H x d1) (b : DA K F H y d2) (s : Same F H) (q : Qz K F H d Q) : rIx K x y H Q := by
  unfold p_ix at h
  split at h <;> try cases h
  all_goals rename_i hd; cases hd
  · have e := b.int
    subst e
    obtain ⟨p, us, rfl, h1, a1⟩ := a.tup s
    obtain ⟨v, h2, dv⟩ := ixL_ok h a1
    exact .inr (.inl ⟨p, us, _, v, rfl, rfl, h1, h2, q.now s dv⟩)
  · have e := b.int
    subst e
    obtain ⟨p, us, rfl, h1, a1⟩ := a.lst s
    obtain ⟨v, h2, dv⟩ := ixL_ok h a1
    exact .inl ⟨p, us, _, v, rfl, rfl, SqL.of h1, h2, q.now s dv⟩
/-! slices -/
def rSl (K : PySem.W.Frag) : V → Option Int → Option Int → Hp → VK → Prop := fun x lo hi H Q => rSlL K x lo hi H Q ∨ rSlA K x lo hi H Q
theorem sl_V {X : Cx} : SlR X (rSl X.K) := SlR.or sl_list sl_tupA
theorem cut_scr (ns : List Int) (lo hi : Option Int) : DnA K F (cutV (ns.map V.int) lo hi) (cut (ns.map D.int) lo hi) := cut_dn (dnInts ns) lo hi
theorem cut_whole {l : List D} {lo hi : Option Int} (h : HT.sIx l.length 0 lo = 0 ∧ HT.sIx l.length l.length hi = l.length) : cut l lo hi = l := by
  unfold cut
  rw [h.1, h.2, List.drop_zero, Nat.sub_zero, List.take_length]
theorem slL_okF {lo hi : Option Int} (a : DA K F H x (.lst ds)) (s : Same F H) (q : Qf K F H (cut ds lo hi) Q) : rSl K x lo hi H Q := by
  obtain ⟨p, us, rfl, h1, a1⟩ := a.lst s
  exact .inl ⟨p, us, rfl, SqL.of h1, q.lst s (cut_dn a1 lo hi)⟩
theorem slS_okF {ns : List Int} {lo hi : Option Int} (a : DA K F H x (.scr ns)) (s : Same F H) (q : Qf K F H (cut (ns.map D.int) lo hi) Q) : rSl K x lo hi H Q := by
  obtain ⟨p, rfl, h1⟩ := a.scr s
  exact .inl ⟨p, _, rfl, h1, q.lst s (cut_scr ns lo hi)⟩
theorem slT_ok {lo hi : Option Int} (a : DA K F H x (.tup ds)) (s : Same F H) (q : Qz K F H (.tup (cut ds lo hi)) Q) : rSl K x lo hi H Q := by
  have a' : Dn K F x (.tup ds) := by
    rcases a with b | ⟨_, _, _, _, z, _⟩
    · exact b
    · cases z
  obtain ⟨p, us, rfl, h1, a1⟩ := a.tup s
  refine .inr ⟨p, us, rfl, h1, fun w => ?_, fun _ => q.tup s (cut_dn a1 lo hi)⟩
  rw [a1.len] at w
  rw [cut_whole w] at q
  exact q.now s a'
/-! calls -/
def rLenV (K : PySem.W.Frag) : RR := fun xs H Q => ∃ p ys, xs = [.ref p] ∧ (SqL K H p ys ∨ SqT K H p ys) ∧ Q (.int ys.length) H
theorem len_ok (h : p_len [d1] = .ok d) (a : DA K F H x d1) (s : Same F H) (q : Qz K F H d Q) : rLenV K [x] H Q := by
  unfold p_len at h
  split at h <;> try cases h
  all_goals rename_i hd; cases hd
  · obtain ⟨p, us, rfl, h1, a1⟩ := a.tup s
    exact ⟨p, us, rfl, .inr h1, by rw [a1.len]; exact q.now s (.int _)⟩
  · obtain ⟨p, us, rfl, h1, a1⟩ := a.lst s
    exact ⟨p, us, rfl, .inl (SqL.of h1), by rw [a1.len]; exact q.now s (.int _)⟩
def rAbsV : RR := fun xs H Q => ∃ i, xs = [.int i] ∧ Q (.int (if i < 0 then -i else i)) H
theorem abs_ok (h : p_abs [d1] = .ok d) (a : DA K F H x d1) (s : Same F H) (q : Qz K F H d Q) : rAbsV [x] H Q := by
  unfold p_abs at h
  split at h <;> try cases h
  all_goals rename_i hd; cases hd
  have e1 := a.int
  subst e1
  exact ⟨_, rfl, q.now s (.int _)⟩
def rMax2V : RR := fun xs H Q => ∃ i j, xs = [.int i, .int j] ∧ Q (.int (if j > i then j else i)) H
def rMin2V : RR := fun xs H Q => ∃ i j, xs = [.int i, .int j] ∧ Q (.int (if j < i then j else i)) H
theorem max2_ok (h : p_max2 [d1, d2] = .ok d) (a : DA K F H x d1) (b : DA K F H y d2) (s : Same F H) (q : Qz K F H d Q) : rMax2V [x, y] H Q := by
  unfold p_max2 at h
  split at h <;> try cases h
  all_goals rename_i hd; cases hd
  have e1 := a.int; have e2 := b.int
  subst e1; subst e2
  exact ⟨_, _, rfl, q.now s (.int _)⟩
theorem min2_ok (h : p_min2 [d1, d2] = .ok d) (a : DA K F H x d1) (b : DA K F H y d2) (s : Same F H) (q : Qz K F H d Q) : rMin2V [x, y] H Q := by
  unfold p_min2 at h
  split at h <;> try cases h
  all_goals rename_i hd; cases hd
  have e1 := a.int; have e2 := b.int
  subst e1; subst e2
  exact ⟨_, _, rfl, q.now s (.int _)⟩
def rIntV : RR := fun xs H Q => (∃ i, xs = [.int i] ∧ Q (.int i) H) ∨ ∃ k, xs = [.bl k] ∧ Q (.int (if k then 1 else 0)) H
theorem int_ok (h : p_int [d1] = .ok d) (a : DA K F H x d1) (s : Same F H) (q : Qz K F H d Q) : rIntV [x] H Q := by
  unfold p_int at h
  split at h <;> try cases h
  all_goals rename_i hd; cases hd
  · have e1 := a.int
    subst e1
    exact .inl ⟨_, rfl, q.now s (.int _)⟩
  · have e1 := a.bl
    subst e1
    exact .inr ⟨_, rfl, q.now s (.int _)⟩
def rListV (K : PySem.W.Frag) : RR := fun xs H Q => ∃ p ys, xs = [.ref p] ∧ (SqL K H p ys ∨ SqT K H p ys) ∧ ∀ l, H l = none → Q (.ref l) (upd H l (.lst ys))
theorem list_okF (h : p_list [d1] = .ok (.lst ds)) (a : DA K F H x d1) (s : Same F H) (q : Qf K F H ds Q) : rListV K [x] H Q := by
  unfold p_list at h
  split at h <;> try cases h
  all_goals rename_i hd; cases hd
  · obtain ⟨p, us, rfl, h1, a1⟩ := a.tup s
    exact ⟨p, us, rfl, .inr h1, q.lst s a1⟩
  · obtain ⟨p, us, rfl, h1, a1⟩ := a.lst s
    exact ⟨p, us, rfl, .inl (SqL.of h1), q.lst s a1⟩
def rTupV (K : PySem.W.Frag) : RR := fun xs H Q => ∃ p ys, xs = [.ref p] ∧ ((SqL K H p ys ∧ ∀ l, H l = none → Q (.ref l) (upd H l (.tup ys))) ∨ (SqT K H p ys ∧ Q (.ref p) H))
theorem tuple_ok (h : p_tuple [d1] = .ok d) (a : DA K F H x d1) (s : Same F H) (q : Qz K F H d Q) : rTupV K [x] H Q := by
  unfold p_tuple at h
  split at h <;> try cases h
  all_goals rename_i hd; cases hd
  · obtain ⟨p, us, rfl, h1, a1⟩ := a.lst s
    exact ⟨p, us, rfl, .inl ⟨SqL.of h1, q.tup s a1⟩⟩
  · rename_i l
    have a' : Dn K F x (.tup l) := by
      rcases a with b | ⟨_, _, _, _, z, _⟩
      · exact b
      · cases z
    obtain ⟨p, us, rfl, h1, a1⟩ := a.tup s
    exact ⟨p, us, rfl, .inr ⟨h1, q.now s a'⟩⟩
theorem sum_ok (h : p_sum [d1] = .ok d) (a : DA K F H x d1) (s : Same F H) (q : Qz K F H d Q) : rSum K [x] H Q := by
  unfold p_sum at h
  split at h <;> try cases h
  all_goals rename_i hd; cases hd
  obtain ⟨p, us, rfl, h1, a1⟩ := a.lst s
  split at h
  · rename_i ns e
    cases h
    have e2 := intsD_dn e a1
    subst e2
    exact ⟨p, ns, rfl, SqL.of h1, q.now s (.int _)⟩
  · cases h
theorem all_ok (h : p_all [d1] = .ok d) (a : DA K F H x d1) (s : Same F H) (q : Qz K F H d Q) : rAll K [x] H Q := by
  unfold p_all at h
  split at h <;> try cases h
  all_goals rename_i hd; cases hd
  obtain ⟨p, us, rfl, h1, a1⟩ := a.lst s
  split at h
  · rename_i ns e
    cases h
    have e2 := boolsD_dn e a1
    subst e2
    exact ⟨p, ns, rfl, SqL.of h1, q.now s (.bl _)⟩
  · cases h
theorem any_ok (h : p_any [d1] = .ok d) (a : DA K F H x d1) (s : Same F H) (q : Qz K F H d Q) : rAny K [x] H Q := by
  unfold p_any at h
  split at h <;> try cases h
  all_goals rename_i hd; cases hd
  obtain ⟨p, us, rfl, h1, a1⟩ := a.lst s
  split at h
  · rename_i ns e
    cases h
    have e2 := boolsD_dn e a1
    subst e2
    exact ⟨p, ns, rfl, SqL.of h1, q.now s (.bl _)⟩
  · cases h
/-! repr -/
def rReprV (K : PySem.W.Frag) : RR := fun xs H Q => ∃ x d, xs = [x] ∧ Dn K H x d ∧ d.okShow = true ∧ Q (.str d.py.shown) H
theorem repr_ok (h : p_repr [d1] = .ok d) (a : DA K F H x d1) (s : Same F H) (q : Qz K F H d Q) : rReprV K [x] H Q := by
  have h : (if d1.okShow = true then R.ok (D.str d1.py.shown) else R.bad) = R.ok d := h
  split at h
  · rename_i hz
    cases h
    exact ⟨_, _, rfl, a.dn s, hz, q.now s (.str _)⟩
  · cases h
theorem call_reprV {X : Cx} {k : Nat} (hg : X.A.guards = some []) (hr : Room k X.A) : CallR X (.builtin "repr") (rReprV X.K) := by
  intro pins s σ H xs us Q I r h
  obtain ⟨x, d, rfl, dn, hz, q⟩ := h
  obtain ⟨u, rfl, ru⟩ := vals1 r
  have h3 := (Bool.and_eq_true _ _).mp hz
  have h2 := (Bool.and_eq_true _ _).mp h3.1
  have h1 := (Bool.and_eq_true _ _).mp h2.1
  have pl := h1.1
  have dep : d.py.depth ≤ 64 := of_decide_eq_true h1.2
  have len : d.py.shown.length ≤ sizeLine := of_decide_eq_true h3.2
  have show_ := h2.2
  have un : X.A.units + 66 < cLine := by have := hr.un; omega
  cases dn with
  | non =>
    obtain rfl : u = Value.none := ru
    exact PySem.P.repr_of_none ⟨.str _, H, I.tok _, ⟨_, rfl⟩, q⟩
  | bl b =>
    obtain rfl : u = Value.bool b := ru
    exact PySem.P.repr_of_bool ⟨.str _, H, I.tok _, ⟨_, rfl⟩, q⟩
  | int i =>
    obtain ⟨t, rfl⟩ := ru
    exact PySem.P.repr_of_int (of_decide_eq_true show_) ⟨.str _, H, I.tok _, ⟨_, rfl⟩, q⟩
  | str y =>
    obtain ⟨t, rfl⟩ := ru
    exact PySem.P.repr_of_str ⟨.str _, H, I.tok _, ⟨_, rfl⟩, q⟩ len
  | lst e1 e2 =>
    rename_i a vs ds
    obtain rfl : u = Value.ref a := ru
    obtain ⟨as, rd⟩ := Dp.reads I _ _ _ (Dn.dp (.lst ds) _ pl (.lst e1 e2)) rfl
    have nd : (D.py (.lst ds)).hasDict = false := PyData.hasDict_of_canLay _ (plain_lay _ pl)
    refine repr_of_reads' rd show_ (fun z => by rw [nd] at z; cases z) hg (by omega) (fun _ _ z => z) (fun h' t tk hk => ⟨.str _, H, I.kept hk, ⟨_, rfl⟩, q⟩) len
  | tup e1 e2 =>
    rename_i a vs ds
    obtain rfl : u = Value.ref a := ru
    obtain ⟨as, rd⟩ := Dp.reads I _ _ _ (Dn.dp (.tup ds) _ pl (.tup e1 e2)) rfl
    have nd : (D.py (.tup ds)).hasDict = false := PyData.hasDict_of_canLay _ (plain_lay _ pl)
    refine repr_of_reads' rd show_ (fun z => by rw [nd] at z; cases z) hg (by omega) (fun _ _ z => z) (fun h' t tk hk => ⟨.str _, H, I.kept hk, ⟨_, rfl⟩, q⟩) len
  | scr _ => cases pl
/-! isinstance -/
theorem isa_kit {t : Ty} {d : D} {b : Bool} (h : isa t d = some b) : (∃ n, (d = .non ∧ n = "NoneType" ∨ (∃ z, d = .bl z) ∧ n = "bool" ∨ (∃ z, d = .int z) ∧ n = "int" ∨ (∃ z, d = .str z) ∧ n = "str" ∨ (∃ z, d = .tup z) ∧ n = "tuple" ∨ (∃ z, d = .lst z) ∧ n = "list") ∧ kitB n t.name = some b) := by
  cases d with
  | non => exact ⟨"NoneType", .inl ⟨rfl, rfl⟩, by cases t <;> cases h <;> decide +kernel⟩
  | bl z => exact ⟨"bool", .inr (.inl ⟨⟨z, rfl⟩, rfl⟩), by cases t <;> cases h <;> decide +kernel⟩
  | int z => exact ⟨"int", .inr (.inr (.inl ⟨⟨z, rfl⟩, rfl⟩)), by cases t <;> cases h <;> decide +kernel⟩
  | str z => exact ⟨"str", .inr (.inr (.inr (.inl ⟨⟨z, rfl⟩, rfl⟩))), by cases t <;> cases h <;> decide +kernel⟩
  | tup z => exact ⟨"tuple", .inr (.inr (.inr (.inr (.inl ⟨⟨z, rfl⟩, rfl⟩)))), by cases t <;> cases h <;> decide +kernel⟩
  | lst z => exact ⟨"list", .inr (.inr (.inr (.inr (.inr ⟨⟨z, rfl⟩, rfl⟩)))), by cases t <;> cases h <;> decide +kernel⟩
  | dic z => cases t <;> cases h
  | exc _ _ => cases t <;> cases h
  | scr _ => cases t <;> cases h
theorem isi_ok {t : Ty} (h : p_isi t [d1] = .ok d) (a : DA K F H x d1) (s : Same F H) (q : Qz K F H d Q) : rIsi K [x, .ty t.name] H Q := by
  have h : (match isa t d1 with
    | some b => R.ok (D.bl b)
    | none => R.bad) = R.ok d := h
  split at h
  · rename_i b e
    cases h
    obtain ⟨n, c, k⟩ := isa_kit e
    have dn := a.dn s
    refine ⟨x, .ty t.name, .type n, .type t.name, b, rfl, .ty _, ?_, kit_ty k, q.now s (.bl _)⟩
    rcases c with ⟨rfl, rfl⟩ | ⟨⟨z, rfl⟩, rfl⟩ | ⟨⟨z, rfl⟩, rfl⟩ | ⟨⟨z, rfl⟩, rfl⟩ | ⟨⟨z, rfl⟩, rfl⟩ | ⟨⟨z, rfl⟩, rfl⟩
    · cases dn; exact .base .non
    · cases dn; exact .base (.bl _)
    · cases dn; exact .base (.int _)
    · cases dn; exact .base (.str _)
    · cases dn with
      | tup e1 e2 =>
        rcases e1 with (e1 | ⟨o, e1⟩) | ⟨o, its, n, e1, e3, _⟩
        · exact .base (.tup e1)
        · exact .fTuple e1
        · exact .kTuple e1 e3
    · cases dn with
      | lst e1 e2 => exact .base (.lst e1)
  · cases h
end
end Vm
end
section
set_option Elab.async false
set_option linter.all false
set_option maxRecDepth 100000
namespace Vm
open PySem PySem.Spec L2

/-! ### readings of codes -/
structure Bk (B : Bs) (F H : Hp) : Prop where
  sub : Same F H
  bsub : Same B.F F
  bnew : ∀ a, B.F a = none → B.H a ≠ none → F a = none
  bkeep : ∀ a o, B.H a = some o → ¬ B.P a → H a = some o
  bdom : ∀ a, B.H a ≠ none → H a ≠ none
abbrev XI := Str → List D → Value → Option Addr → Hp → Hp → Prop
structure Cg where
  T : Tab
  K : PySem.W.Frag
  B : Bs
  W : WX
  xi : XI
section
variable {C : Cg} {X : Cx} {n : Nat} {σ : St} {F H F' H' F1 H1 F2 H2 : Hp} {en en' en1 en2 : En} {Q : VK} {d : D} {v : V}
def Wish (C : Cg) (σ : St) (F : Hp) (c : Str) (l : List D) : Prop := ∀ cls dx F' H', Same F F' → Bk C.B F' H' → C.xi c l cls dx F' H' → C.W cls dx σ H'
/-- what follows a value, from the state (F, H, en) -/
def Nxt (C : Cg) (σ : St) (F H : Hp) (en en' : En) (d : D) (Q : VK) : Prop := ∀ v F' H', Go σ F H en F' H' en' → Ok C.B C.K F' H' σ en' → Dn C.K F' v d → Q v H'
def NxtF (C : Cg) (σ : St) (F H : Hp) (en en' : En) (ds : List D) (Q : VK) : Prop := ∀ p us F' H', Go σ F H en F' H' en' → Ok C.B C.K F' H' σ en' → H p = none → F' p = none → H' p = some (.lst us) → DnA C.K F' us ds → (∀ (i : Nat) (l : List D), en'[i]? = some (Slot.own l) → σ[i]? ≠ some (some (V.ref p))) → Q (.ref p) H'
def Res (C : Cg) (σ : St) (F H : Hp) (en : En) (r : R (D × En)) (Q : VK) : Prop := match r with
  | .ok p => Nxt C σ F H en p.2 p.1 Q
  | .ex c l => Wish C σ F c l
  | .bad => False
def ResF (C : Cg) (σ : St) (F H : Hp) (en : En) (r : R (D × En)) (Q : VK) : Prop := match r with
  | .ok p => ∃ ds, p.1 = .lst ds ∧ NxtF C σ F H en p.2 ds Q
  | .ex c l => Wish C σ F c l
  | .bad => False
def tE (C : Cg) (n : Nat) (e : E) : TE := fun σ H Q => ∃ F en, Ok C.B C.K F H σ en ∧ Res C σ F H en (evE C.T n e en) Q
def tF (C : Cg) (n : Nat) (e : E) : TE := fun σ H Q => ∃ F en, Ok C.B C.K F H σ en ∧ ResF C σ F H en (evE C.T n e en) Q
def ResT (C : Cg) (σ : St) (F H : Hp) (en : En) (r : R (D × En)) (Q : Bool → Hp → Prop) : Prop := match r with
  | .ok p => ∃ b, p.1 = .bl b ∧ ∀ F' H', Go σ F H en F' H' p.2 → Ok C.B C.K F' H' σ p.2 → Q b H'
  | .ex c l => Wish C σ F c l
  | .bad => False
def tT (C : Cg) (n : Nat) (e : E) : TT := fun σ H Q => ∃ F en, Ok C.B C.K F H σ en ∧ ResT C σ F H en (evE C.T n e en) Q
def tO (C : Cg) (n : Nat) : E → TE
  | .bw i => tVar i
  | .io i => tVar i
  | e => tE C n e
def tA (C : Cg) (n : Nat) : List E → TA
  | [] => tNil
  | e :: es => tCons (tO C n e) (tA C n es)
theorem Ok.bk {B : Bs} {K : PySem.W.Frag} (k : Ok B K F H σ en) : Bk B F H := ⟨k.sub, k.bsub, k.bnew, k.bkeep, k.bdom⟩
theorem PE.imp {a : Expr} {t t' : TE} (h : PE X a t) (i : ∀ σ H Q, t' σ H Q → t σ H Q) : PE X a t' := ⟨fun pins s σ H Q I q => h.run pins s σ H Q I (i σ H Q q)⟩
theorem PT.imp {a : Expr} {t t' : TT} (h : PT X a t) (i : ∀ σ H Q, t' σ H Q → t σ H Q) : PT X a t' := ⟨fun pins s σ H Q I q => h.run pins s σ H Q I (i σ H Q q)⟩
theorem Wish.mono {c : Str} {l : List D} (w : Wish C σ F c l) (s : Same F F1) : Wish C σ F1 c l := fun cls dx F' H' a b c' => w cls dx F' H' (s.trans a) b c'
theorem Nxt.z (q : Nxt C σ F H en en1 d Q) (g : Go σ F H en F1 H1 en1) (k : Ok C.B C.K F1 H1 σ en1) : Qz C.K F1 H1 d Q := fun v F' H' p a => q v F' H' (g.trans p.go) (k.px p) a
theorem NxtF.z {ds : List D} (q : NxtF C σ F H en en1 ds Q) (g : Go σ F H en F1 H1 en1) (k : Ok C.B C.K F1 H1 σ en1) : Qf C.K F1 H1 ds Q := by
  intro p us F' H' px h f e a
  refine q p us F' H' (g.trans px.go) (k.px px) ?_ f e a fun i l ho hs => ?_
  · cases z : H p with
    | none => rfl
    | some o => exact absurd h (g.dom p (some_ne z))
  · obtain ⟨p', us', e1, e2, _⟩ := k.own i l ho
    rw [hs] at e1
    cases e1
    rw [h] at e2
    cases e2
/-- arguments, from the left -/
def ResA (C : Cg) (σ : St) (F H : Hp) (en : En) (r : R (List AV × En)) (Q : List V → Hp → Prop) : Prop := match r with
  | .ok p => ∀ vs F' H', Go σ F H en F' H' p.2 → Ok C.B C.K F' H' σ p.2 → AvA C.K F' σ p.1 vs → Q vs H'
  | .ex c l => Wish C σ F c l
  | .bad => False
theorem AvA.up {K : PySem.W.Frag} (s : Same F F') : ∀ {as : List AV} {vs : List V}, AvA K F σ as vs → AvA K F' σ as vs
  | _, _, .nil => .nil
  | _, _, .d h t => .d (h.up s) (AvA.up s t)
  | _, _, .b h t => .b h (AvA.up s t)
  | _, _, .o h t => .o h (AvA.up s t)
theorem args_run : ∀ (l : List E) {F H : Hp} {en : En} {Q : List V → Hp → Prop}, Ok C.B C.K F H σ en → ResA C σ F H en (evArgs (evE C.T n) l en) Q → tA C n l σ H Q
  | [], F, H, en, Q, k, h => h [] F H Go.refl k .nil
  | e :: es, F, H, en, Q, k, h => by
    have gen : ∀ f : E, (tO C n f = tE C n f) → (evArgs (evE C.T n) (f :: es) en = (evE C.T n f en).bind fun p => (evArgs (evE C.T n) es p.2).bind fun q => .ok (.d p.1 :: q.1, q.2)) → ResA C σ F H en (evArgs (evE C.T n) (f :: es) en) Q →
        tO C n f σ H fun x H1 => tA C n es σ H1 fun xs H2 => Q (x :: xs) H2 := by
      intro f e1 e2 h
      rw [e1]
      rw [e2] at h
      refine ⟨F, en, k, ?_⟩
      cases r : evE C.T n f en with
      | bad => rw [r] at h; exact h
      | ex c l => rw [r] at h; exact h
      | ok p =>
        rw [r] at h
        intro v F1 H1 g1 k1 a1
        refine args_run es k1 ?_
        show ResA C σ F1 H1 p.2 (evArgs (evE C.T n) es p.2) _
        have h : ResA C σ F H en ((evArgs (evE C.T n) es p.2).bind fun q => .ok (.d p.1 :: q.1, q.2)) Q := h
        cases r2 : evArgs (evE C.T n) es p.2 with
        | bad => rw [r2] at h; exact h
        | ex c l => rw [r2] at h; exact Wish.mono h g1.sub
        | ok q =>
          rw [r2] at h
          intro vs F2 H2 g2 k2 a2
          exact h (v :: vs) F2 H2 (g1.trans g2) k2 (.d (a1.up g2.sub) a2)
    have own : ∀ i : Nat, ∀ mk : Nat → AV, (∀ {K : PySem.W.Frag} {F : Hp} {as : List AV} {v : V} {vs : List V}, σ[i]? = some (some v) → AvA K F σ as vs → AvA K F σ (mk i :: as) (v :: vs)) →
        ResA C σ F H en (if (ownAt en i).isSome then (evArgs (evE C.T n) es en).bind fun q => .ok (mk i :: q.1, q.2) else .bad) Q → tVar i σ H fun x H1 => tA C n es σ H1 fun xs H2 => Q (x :: xs) H2 := by
      intro i mk hm h
      cases o : ownAt en i with
      | none => rw [o] at h; exact h.elim
      | some l =>
        rw [o] at h
        obtain ⟨p, us, e1, _⟩ := k.own i l (ownAt_some.mp o)
        refine ⟨.ref p, e1, args_run es k ?_⟩
        have h : ResA C σ F H en ((evArgs (evE C.T n) es en).bind fun q => .ok (mk i :: q.1, q.2)) Q := h
        cases r2 : evArgs (evE C.T n) es en with
        | bad => rw [r2] at h; exact h
        | ex c l => rw [r2] at h; exact h
        | ok q =>
          rw [r2] at h
          intro vs F2 H2 g2 k2 a2
          exact h (.ref p :: vs) F2 H2 g2 k2 (hm e1 a2)
    cases e with
    | bw i => exact own i .b (fun a b => .b a b) h
    | io i => exact own i .o (fun a b => .o a b) h
    | c _ => exact gen _ rfl rfl h
    | g _ => exact gen _ rfl rfl h
    | v _ => exact gen _ rfl rfl h
    | pr _ _ => exact gen _ rfl rfl h
    | and_ _ _ => exact gen _ rfl rfl h
    | or_ _ _ => exact gen _ rfl rfl h
    | ite _ _ _ => exact gen _ rfl rfl h
    | ch _ _ _ _ _ => exact gen _ rfl rfl h
    | call _ _ _ => exact gen _ rfl rfl h
    | lc _ _ _ _ _ _ => exact gen _ rfl rfl h
/-- a primitive's operands -/
theorem prim_run {p : Pr} {l : List E} {R : List V → Hp → Prop} (k : Ok C.B C.K F H σ en) (h : Res C σ F H en (evE C.T (n + 1) (.pr p l) en) Q)
    (hr : ∀ vs ds d F1 H1, DAs C.K F1 H1 vs ds → prim p ds = .ok d → Same F1 H1 → Qz C.K F1 H1 d Q → R vs H1) (hx : ∀ ds c m, prim p ds ≠ .ex c m) : tA C n l σ H R := by
  refine args_run l k ?_
  have h : Res C σ F H en ((evArgs (evE C.T n) l en).bind fun q => match resolveD q.2 q.1 with
      | none => .bad
      | some ds => (prim p ds).bind fun d => .ok (d, q.2)) Q := h
  cases r : evArgs (evE C.T n) l en with
  | bad => rw [r] at h; exact h
  | ex c l => rw [r] at h; exact h
  | ok q =>
    rw [r] at h
    intro vs F1 H1 g1 k1 a1
    have h : Res C σ F H en (match resolveD q.2 q.1 with
      | none => .bad
      | some ds => (prim p ds).bind fun d => .ok (d, q.2)) Q := h
    cases e : resolveD q.2 q.1 with
    | none => rw [e] at h; exact h.elim
    | some ds =>
      rw [e] at h
      have h : Res C σ F H en ((prim p ds).bind fun d => .ok (d, q.2)) Q := h
      cases e2 : prim p ds with
      | bad => rw [e2] at h; exact h.elim
      | ex c m => exact absurd e2 (hx ds c m)
      | ok d =>
        rw [e2] at h
        exact hr vs ds d F1 H1 (a1.das k1 e) e2 k1.sub (Nxt.z h g1 k1)
theorem prim_runF {p : Pr} {l : List E} {R : List V → Hp → Prop} (k : Ok C.B C.K F H σ en) (h : ResF C σ F H en (evE C.T (n + 1) (.pr p l) en) Q)
    (hr : ∀ vs ds es F1 H1, DAs C.K F1 H1 vs ds → prim p ds = .ok (.lst es) → Same F1 H1 → Qf C.K F1 H1 es Q → R vs H1) (hx : ∀ ds c m, prim p ds ≠ .ex c m) : tA C n l σ H R := by
  refine args_run l k ?_
  have h : ResF C σ F H en ((evArgs (evE C.T n) l en).bind fun q => match resolveD q.2 q.1 with
      | none => .bad
      | some ds => (prim p ds).bind fun d => .ok (d, q.2)) Q := h
  cases r : evArgs (evE C.T n) l en with
  | bad => rw [r] at h; exact h
  | ex c l => rw [r] at h; exact h
  | ok q =>
    rw [r] at h
    intro vs F1 H1 g1 k1 a1
    have h : ResF C σ F H en (match resolveD q.2 q.1 with
      | none => .bad
      | some ds => (prim p ds).bind fun d => .ok (d, q.2)) Q := h
    cases e : resolveD q.2 q.1 with
    | none => rw [e] at h; exact h.elim
    | some ds =>
      rw [e] at h
      have h : ResF C σ F H en ((prim p ds).bind fun d => .ok (d, q.2)) Q := h
      cases e2 : prim p ds with
      | bad => rw [e2] at h; exact h.elim
      | ex c m => exact absurd e2 (hx ds c m)
      | ok d =>
        rw [e2] at h
        obtain ⟨es, e3, h⟩ := h
        have e3 : d = .lst es := e3
        subst e3
        exact hr vs ds es F1 H1 (a1.das k1 e) e2 k1.sub (NxtF.z h g1 k1)
/-- a new list frozen -/
theorem Ok.fz {B : Bs} {K : PySem.W.Frag} {q : Addr} {us : List V} (k0 : Ok B K F H σ en) (g : Go σ F H en F' H' en') (k : Ok B K F' H' σ en') (hp : H q = none) (f : F' q = none) (hq : H' q = some (.lst us))
    (no : ∀ (i : Nat) (l : List D), en'[i]? = some (Slot.own l) → σ[i]? ≠ some (some (V.ref q))) : Same F' (upd F' q (.lst us)) ∧ Ok B K (upd F' q (.lst us)) H' σ en' ∧ Go σ F H en (upd F' q (.lst us)) H' en' := by
  have sF : Same F' (upd F' q (.lst us)) := fun b u z => by rw [upd_ne (ne_of_none z f)]; exact z
  have bq : B.H q = none := by
    cases z : B.H q with
    | none => rfl
    | some o => exact absurd hp (k0.bdom q (some_ne z))
  refine ⟨sF, ⟨k.len, fun i d h => ?_, fun i l h => ?_, k.inj, fun b u z => ?_, k.bsub.trans sF, fun b z z' => ?_, k.bkeep, k.bdom, k.pin⟩, ⟨g.sub.trans sF, fun a z z' => ?_, g.keep, g.dom, g.vals, g.owns, g.len⟩⟩
  · obtain ⟨v, e1, e2⟩ := k.val i d h
    exact ⟨v, e1, e2.up sF⟩
  · obtain ⟨b, vs, e1, e2, e3, e4, e5⟩ := k.own i l h
    refine ⟨b, vs, e1, e2, e3.up sF, ?_, e5⟩
    rw [upd_ne (fun z => by subst z; exact no i l h e1)]
    exact e4
  · by_cases w : b = q
    · subst w; rw [upd_same] at z; cases z; exact hq
    · rw [upd_ne w] at z; exact k.sub _ _ z
  · rw [upd_ne (fun w => by subst w; exact z' bq)]
    exact k.bnew b z z'
  · rw [upd_ne (fun w => by subst w; exact z' hp)]
    exact g.new a z z'
theorem ResF.of {r : R (D × En)} (k0 : Ok C.B C.K F H σ en) (h : Res C σ F H en r Q) (hl : ∀ p, r = .ok p → ∃ ds, p.1 = .lst ds) : ResF C σ F H en r Q := by
  cases r with
  | bad => exact h
  | ex c l => exact h
  | ok p =>
    obtain ⟨ds, e⟩ := hl p rfl
    refine ⟨ds, e, ?_⟩
    intro q us F' H' g k hp f hq a no
    obtain ⟨sF, k2, g2⟩ := k0.fz g k hp f hq no
    have h : Nxt C σ F H en p.2 p.1 Q := h
    rw [e] at h
    exact h (.ref q) _ H' g2 k2 (.lst upd_same (a.up sF))
end
end Vm
end
section
set_option Elab.async false
set_option linter.all false
set_option maxRecDepth 100000
namespace Vm
open PySem PySem.Spec L2

/-! ### what a def promises -/
inductive ArgsOk (K : PySem.W.Frag) (F H : Hp) : List V → List Slot → Option Addr → Prop
  | nil {o : Option Addr} : o = none → ArgsOk K F H [] [] o
  | val {v : V} {vs : List V} {d : D} {ss : List Slot} {o : Option Addr} : Dn K F v d → ArgsOk K F H vs ss o → ArgsOk K F H (v :: vs) (.val d :: ss) o
  | own {p : Addr} {us : List V} {l : List D} {vs : List V} {ss : List Slot} : H p = some (.lst us) → DnA K F us l → F p = none → ArgsOk K F H vs ss none → ArgsOk K F H (.ref p :: vs) (.own l :: ss) (some p)
def OutOk (K : PySem.W.Frag) (F' H' : Hp) : Option Addr → Option (List D) → Prop
  | none, none => True
  | some p, some l => F' p = none ∧ ∃ us, H' p = some (.lst us) ∧ DnA K F' us l
  | _, _ => False
def RetOk (fr : Bool) (K : PySem.W.Frag) (F' H H' : Hp) (v : V) (d : D) : Prop :=
  if fr then ∃ p us ds, v = .ref p ∧ d = .lst ds ∧ H p = none ∧ F' p = none ∧ H' p = some (.lst us) ∧ DnA K F' us ds else Dn K F' v d
def SpOf (K : PySem.W.Frag) (xi : XI) (fr : Bool) (res : List Slot → R (D × Option (List D))) : Sp := fun vs H Q E => ∃ F o ss, Same F H ∧ ArgsOk K F H vs ss o ∧
  match res ss with
  | .ok r => ∀ v F' H', Bk ⟨F, H, fun a => o = some a, fun _ _ => False⟩ F' H' → OutOk K F' H' o r.2 → RetOk fr K F' H H' v r.1 → Q v H'
  | .ex c l => ∀ cls dx F' H', Bk ⟨F, H, fun a => o = some a, fun _ _ => False⟩ F' H' → xi c l cls dx F' H' → E cls dx H'
  | .bad => False
/-- FnOk where no repr is under way -/
structure FnG (P : Program) (w : World) (K : PySem.W.Frag) (mg : Str → Option Value) (base : Heap) (k : Nat) (f : Addr) (fd : FuncData) (ps : List Str) (sp : Sp) : Prop where
  len : ∀ vs H Q E, sp vs H Q E → vs.length = ps.length
  run : ∀ (A : Around) (outer : List PySem.Env) (s : Shared) (H : Hp) (args : Args) (us : List Value) (vs : List V) (Q : VK) (E : XK), A.guards = some [] → Room k A → Env0 P w K mg base A outer s H → BindsTo s fd args (ps.zip us) → Vals vs us → sp vs H Q E →
    codeAny (model P w) A (.call (.ref f) args) (CR (L2.CX P w) outer P w H s Q E) s
/-- a call from a body -/
theorem run_G {X : Cx} {k : Nat} {f : Addr} {fd : FuncData} {ps : List Str} {sp : Sp} {dvs : List V} {ds : List Value} {E : XK} {pins : List (Addr × Obj)} {σ : St} {H : Hp} {s : Shared} {Q : VK} {us : List Value} {vs : List V}
    (G : FnG X.prog X.w X.K X.mg X.base k f fd ps sp) (hg : X.A.guards = some []) (hr : Room k X.A) (hb : Binds X.K fd ps ds) (hd : Vals dvs ds) (hx : PassesAt (L2.CX X.prog X.w) X σ E) (I : Inv X pins σ H s) (r : Vals vs us) (h : sp (vs ++ dvs) H Q E) :
    wpAny (model X.prog X.w) X.A (call (.ref f) us) (EP X pins σ Q) X.xe s := by
  have all := r.append hd
  have same : (us ++ ds).length = ps.length := by
    rw [← all.length]
    exact G.len _ _ _ _ h
  have body := G.run X.A X.stack s H ⟨us, []⟩ _ _ Q E hg hr I.env0 (hb s us I.kIn same) all h
  refine wpAny_call (codeAny_mono body fun out s' end_ => ?_)
  match out, end_ with
  | .error e, z => exact hx pins H s e s' I z
  | .ok (.ret u), z => exact I.after z
  | .ok .next, z => exact z.elim
  | .ok .brk, z => exact z.elim
  | .ok .cont, z => exact z.elim
def tG (sp : Sp) (dvs : List V) (E : St → XK) (t : TA) : TE := fun σ H Q => t σ H fun vs H1 => sp (vs ++ dvs) H1 Q (E σ)
theorem pe_G {X : Cx} {k : Nat} {f : Addr} {fd : FuncData} {ps : List Str} {sp : Sp} {dvs : List V} {ds : List Value} {E : St → XK} {x : Str} {p pos : Pos} {e : Expr} {es : List Expr} {t : TA}
    (G : FnG X.prog X.w X.K X.mg X.base k f fd ps sp) (hg : X.A.guards = some []) (hr : Room k X.A) (gl : Gl X x) (hm : X.mg x = some (.ref f)) (hk : PySem.W.keepIn X.K (.ref f) = true) (hb : Binds X.K fd ps ds) (hd : Vals dvs ds)
    (hx : ∀ σ, PassesAt (L2.CX X.prog X.w) X σ (E σ)) (ha : PA X (e :: es) t) (hdb : (x == ("__debug__" : Str)) = false) (he : starEach (e :: es) X.env = (false, eval e X.env) :: starEach es X.env) (hpl : (backTo pos (starEach es X.env)).any (·.1) = false) :
    PE X (.Call (.Name x p) (e :: es) [] pos) (tG sp dvs E t) := by
  constructor
  intro pins s σ H Q I h
  refine wpAny_Call_Name_kw (ld_glob I gl hm ?_ hdb)
  have args := ha.run pos pins s σ H _ I h
  refine PySem.W.callWith_K (h₀ := X.base) I.ok.mod.kin hk (thn args ?_) he hpl
  rintro us s1 ⟨vs, H1, I1, r, q⟩
  exact ⟨I1.kIn, run_G G hg hr hb hd (hx σ) I1 r q⟩

/-! ### the caller's side -/
section
variable {K : PySem.W.Frag} {F H F' H' : Hp} {σ : St} {en : En} {as : List AV} {vs : List V} {ss : List Slot}
def Bw (σ : St) (as : List AV) (a : Addr) : Prop := ∃ i, AV.b i ∈ as ∧ σ[i]? = some (some (V.ref a))
noncomputable def addB (F H : Hp) (σ : St) (as : List AV) : Hp := fun a => by
  classical
  exact if Bw σ as a then H a else F a
noncomputable def subB (F : Hp) (σ : St) (as : List AV) : Hp := fun a => by
  classical
  exact if Bw σ as a then none else F a
theorem addB_in {a : Addr} (h : Bw σ as a) : addB F H σ as a = H a := by
  unfold addB
  exact if_pos h
theorem addB_out {a : Addr} (h : ¬ Bw σ as a) : addB F H σ as a = F a := by
  unfold addB
  exact if_neg h
theorem subB_in {a : Addr} (h : Bw σ as a) : subB F σ as a = none := by
  unfold subB
  exact if_pos h
theorem subB_out {a : Addr} (h : ¬ Bw σ as a) : subB F σ as a = F a := by
  unfold subB
  exact if_neg h
theorem hasB_of {i : Nat} : ∀ {as : List AV}, AV.b i ∈ as → hasB as = true
  | .b _ :: _, _ => rfl
  | .d _ :: as, h => by
    rcases List.mem_cons.mp h with e | e
    · cases e
    · exact (hasB_of (as := as) e :)
  | .o _ :: as, h => by
    rcases List.mem_cons.mp h with e | e
    · cases e
    · exact (hasB_of (as := as) e :)
mutual
theorem Dn.subB (hF : ∀ a, Bw σ as a → ∃ us, F a = some (.lst us)) : ∀ (d : D) (v : V), d.nol = true → Dn K F v d → Dn K (Vm.subB F σ as) v d
  | .non, _, _, h => by cases h; exact .non
  | .bl _, _, _, h => by cases h; exact .bl _
  | .int _, _, _, h => by cases h; exact .int _
  | .str _, _, _, h => by cases h; exact .str _
  | .tup ds, _, n, h => by
    cases h with
    | tup h1 h2 =>
      refine .tup ?_ (DnA.subB hF ds _ n h2)
      rcases h1 with (h1 | ⟨o, h1⟩) | h1
      · refine .inl (.inl ?_)
        rw [subB_out (fun z => by obtain ⟨us, e⟩ := hF _ z; rw [h1] at e; cases e)]
        exact h1
      · refine .inl (.inr ⟨o, ?_⟩)
        rw [subB_out (fun z => by obtain ⟨us, e⟩ := hF _ z; rw [h1] at e; cases e)]
        exact h1
      · exact .inr h1
  | .lst _, _, n, _ => by cases n
  | .dic _, _, n, _ => by cases n
  | .exc _ _, _, n, _ => by cases n
  | .scr _, _, n, _ => by cases n
theorem DnA.subB (hF : ∀ a, Bw σ as a → ∃ us, F a = some (.lst us)) : ∀ (ds : List D) (vs : List V), D.nolAll ds = true → DnA K F vs ds → DnA K (Vm.subB F σ as) vs ds
  | [], _, _, h => by cases h; exact .nil
  | d :: ds, _, n, h => by
    cases h with
    | cons h1 h2 =>
      have n' := (Bool.and_eq_true _ _).mp n
      exact .cons (Dn.subB hF d _ n'.1 h1) (DnA.subB hF ds _ n'.2 h2)
end
/-- the one own argument's address -/
def ioAddr (σ : St) (as : List AV) : Option Addr := match ioOf as with
  | none => none
  | some i => (match σ[i]? with
    | some (some (.ref p)) => some p
    | _ => none)
theorem ioOf_none {as : List AV} (h : ioCount as = 0) : ioOf as = none := by
  induction as with
  | nil => rfl
  | cons a as ih =>
    cases a with
    | d _ => exact ih h
    | b _ => exact ih h
    | o _ => cases h
theorem argsOk {B : Bs} (k : Ok B K F H σ en) {G : Hp} (hG : Same F G) (hB : ∀ i l p us, en[i]? = some (Slot.own l) → σ[i]? = some (some (V.ref p)) → AV.b i ∈ as → H p = some (.lst us) → G p = some (.lst us))
    (hO : ∀ p, ioAddr σ as = some p → G p = none) : ∀ {bs : List AV} {vs : List V} {ss : List Slot}, AvA K F σ bs vs → resolve en bs = some ss → (∀ a ∈ bs, a ∈ as) → ioCount bs ≤ 1 → (ioOf bs = none ∨ ioOf bs = ioOf as) → ArgsOk K G H vs ss (ioAddr σ bs)
  | _, _, _, .nil, e, _, _, _ => by cases e; exact .nil rfl
  | _, _, _, .d (as := bs) h t, e, sub, c, io => by
    unfold resolve at e
    cases r : resolve en bs with
    | none => rw [r] at e; cases e
    | some q =>
      rw [r] at e
      cases e
      exact .val (h.up hG) (argsOk (bs := bs) k hG hB hO t r (fun a z => sub a (List.mem_cons_of_mem _ z)) c io)
  | _, _, _, .b (i := i) (as := bs) h t, e, sub, c, io => by
    unfold resolve at e
    cases o : ownAt en i with
    | none => simp only [o] at e; cases e
    | some l =>
      simp only [o] at e
      cases r : resolve en bs with
      | none => rw [r] at e; cases e
      | some q =>
        rw [r] at e
        cases e
        obtain ⟨p, us, e1, h1, h2, _⟩ := k.own i l (ownAt_some.mp o)
        rw [h] at e1
        cases e1
        exact .val (.lst (hB i l p us (ownAt_some.mp o) h (sub _ List.mem_cons_self) h1) (h2.up hG)) (argsOk (bs := bs) k hG hB hO t r (fun a z => sub a (List.mem_cons_of_mem _ z)) c io)
  | _, _, _, .o (i := i) (as := bs) h t, e, sub, c, io => by
    unfold resolve at e
    cases o : ownAt en i with
    | none => simp only [o] at e; cases e
    | some l =>
      simp only [o] at e
      cases r : resolve en bs with
      | none => rw [r] at e; cases e
      | some q =>
        rw [r] at e
        cases e
        obtain ⟨p, us, e1, h1, h2, h3, _⟩ := k.own i l (ownAt_some.mp o)
        rw [h] at e1
        cases e1
        have c0 : ioCount bs = 0 := by
          have c' : ioCount bs + 1 ≤ 1 := c
          omega
        have n0 := ioOf_none c0
        have tail : ArgsOk K G H _ _ (ioAddr σ bs) := argsOk (bs := bs) k hG hB hO t r (fun a z => sub a (List.mem_cons_of_mem _ z)) (by omega) (.inl n0)
        have e2 : ioAddr σ bs = none := by unfold ioAddr; rw [n0]
        rw [e2] at tail
        have e3 : ioAddr σ (.o i :: bs) = some p := by
          show (match σ[i]? with
            | some (some (.ref p)) => some p
            | _ => none) = some p
          rw [h]
        rw [e3]
        have io' : ioOf as = some i := by
          rcases io with z | z
          · cases z
          · exact z.symm
        have gp : G p = none := hO p (by unfold ioAddr; simp only [io', h])
        exact .own h1 (h2.up hG) gp tail
theorem bAt_of {i : Nat} : ∀ {as : List AV}, AV.b i ∈ as → bAt i as = true
  | .b j :: as, h => by
    rcases List.mem_cons.mp h with e | e
    · cases e
      show (decide (i = i) || _) = true
      rw [decide_eq_true rfl]
      rfl
    · show (decide (i = j) || bAt i as) = true
      rw [(bAt_of (as := as) e : bAt i as = true), Bool.or_true]
  | .d _ :: as, h => by
    rcases List.mem_cons.mp h with e | e
    · cases e
    · exact (bAt_of (as := as) e :)
  | .o _ :: as, h => by
    rcases List.mem_cons.mp h with e | e
    · cases e
    · exact (bAt_of (as := as) e :)
theorem resolve_b {i : Nat} : ∀ {as : List AV} {ss : List Slot}, resolve en as = some ss → AV.b i ∈ as → ∃ l, ownAt en i = some l
  | .b j :: as, ss, e, h => by
    unfold resolve at e
    cases o : ownAt en j with
    | none => simp only [o] at e; cases e
    | some l =>
      simp only [o] at e
      cases r : resolve en as with
      | none => rw [r] at e; cases e
      | some q =>
        rcases List.mem_cons.mp h with z | z
        · cases z
          exact ⟨l, o⟩
        · exact resolve_b (as := as) r z
  | .d _ :: as, ss, e, h => by
    unfold resolve at e
    cases r : resolve en as with
    | none => rw [r] at e; cases e
    | some q =>
      rcases List.mem_cons.mp h with z | z
      · cases z
      · exact resolve_b (as := as) r z
  | .o j :: as, ss, e, h => by
    unfold resolve at e
    cases o : ownAt en j with
    | none => simp only [o] at e; cases e
    | some l =>
      simp only [o] at e
      cases r : resolve en as with
      | none => rw [r] at e; cases e
      | some q =>
        rcases List.mem_cons.mp h with z | z
        · cases z
        · exact resolve_b (as := as) r z
theorem resolve_o {i : Nat} : ∀ {as : List AV} {ss : List Slot}, resolve en as = some ss → ioOf as = some i → ∃ l, ownAt en i = some l
  | .b j :: as, ss, e, h => by
    unfold resolve at e
    cases o : ownAt en j with
    | none => simp only [o] at e; cases e
    | some l =>
      simp only [o] at e
      cases r : resolve en as with
      | none => rw [r] at e; cases e
      | some q => exact resolve_o (as := as) r h
  | .d _ :: as, ss, e, h => by
    unfold resolve at e
    cases r : resolve en as with
    | none => rw [r] at e; cases e
    | some q => exact resolve_o (as := as) r h
  | .o j :: as, ss, e, h => by
    cases h
    unfold resolve at e
    cases o : ownAt en i with
    | none => simp only [o] at e; cases e
    | some l => exact ⟨l, rfl⟩
theorem bw_own {B : Bs} (k : Ok B K F H σ en) (rs : resolve en as = some ss) {a : Addr} (h : Bw σ as a) : ∃ i l us, AV.b i ∈ as ∧ en[i]? = some (Slot.own l) ∧ σ[i]? = some (some (V.ref a)) ∧ H a = some (.lst us) ∧ F a = none := by
  obtain ⟨i, hi, hs⟩ := h
  obtain ⟨l, o⟩ := resolve_b rs hi
  obtain ⟨p, us, e1, h1, _, h3, _⟩ := k.own i l (ownAt_some.mp o)
  rw [hs] at e1
  cases e1
  exact ⟨i, l, us, hi, ownAt_some.mp o, hs, h1, h3⟩
theorem io_own {B : Bs} (k : Ok B K F H σ en) (rs : resolve en as = some ss) {a : Addr} (h : ioAddr σ as = some a) : ∃ i l us, ioOf as = some i ∧ en[i]? = some (Slot.own l) ∧ σ[i]? = some (some (V.ref a)) ∧ H a = some (.lst us) ∧ F a = none ∧ (B.P a ∨ B.H a = none) := by
  unfold ioAddr at h
  cases e : ioOf as with
  | none => rw [e] at h; cases h
  | some i =>
    simp only [e] at h
    obtain ⟨l, o⟩ := resolve_o rs e
    obtain ⟨p, us, e1, h1, _, h3, h4⟩ := k.own i l (ownAt_some.mp o)
    simp only [e1] at h
    cases h
    exact ⟨i, l, us, rfl, ownAt_some.mp o, e1, h1, h3, h4⟩
theorem io_bw {B : Bs} (k : Ok B K F H σ en) (rs : resolve en as = some ss) (fine : ioFine as = true) {a : Addr} (h : ioAddr σ as = some a) : ¬ Bw σ as a := fun b => by
  obtain ⟨i, l, us, e1, e2, e3, _⟩ := io_own k rs h
  obtain ⟨j, m, us2, f1, f2, f3, _⟩ := bw_own k rs b
  have e := k.inj i j l m a e2 f2 e3 f3
  subst e
  have fine := ((Bool.and_eq_true _ _).mp fine).2
  rw [e1] at fine
  have q := bAt_of f1
  simp only [q] at fine
  cases fine
theorem subB_of {F : Hp} (h : hasB as = false) : subB F σ as = F := by
  funext a
  by_cases z : Bw σ as a
  · obtain ⟨i, hi, _⟩ := z
    rw [hasB_of hi] at h
    cases h
  · exact subB_out z
theorem call_back {B : Bs} {F1 H1 F' H' : Hp} {en1 en2 : En} {w : Option (List D)} (k : Ok B K F1 H1 σ en1) (rs : resolve en1 as = some ss) (fine : ioFine as = true)
    (bk : Bk ⟨addB F1 H1 σ as, H1, fun a => ioAddr σ as = some a, fun _ _ => False⟩ F' H') (out : OutOk K F' H' (ioAddr σ as) w) (safe : hasB as = false ∨ ∀ l, w = some l → D.nolAll l = true) (pb : putBack as w en1 = .ok en2) :
    Go σ F1 H1 en1 (subB F' σ as) H' en2 ∧ Ok B K (subB F' σ as) H' σ en2 := by
  have bwF : ∀ a, Bw σ as a → ∃ us, F' a = some (.lst us) ∧ H' a = some (.lst us) ∧ F1 a = none := fun a h => by
    obtain ⟨i, l, us, _, _, _, h1, h2⟩ := bw_own k rs h
    have e : F' a = some (.lst us) := bk.bsub a _ (by show addB F1 H1 σ as a = _; rw [addB_in h]; exact h1)
    exact ⟨us, e, bk.sub _ _ e, h2⟩
  have sub : Same F1 (subB F' σ as) := fun a o h => by
    have nb : ¬ Bw σ as a := fun z => by
      obtain ⟨_, _, _, q⟩ := bwF a z
      rw [q] at h; cases h
    rw [subB_out nb]
    exact bk.bsub a _ (by show addB F1 H1 σ as a = _; rw [addB_out nb]; exact h)
  have new : ∀ a, F1 a = none → H1 a ≠ none → subB F' σ as a = none := fun a h h' => by
    by_cases z : Bw σ as a
    · exact subB_in z
    · rw [subB_out z]
      exact bk.bnew a (by show addB F1 H1 σ as a = _; rw [addB_out z]; exact h) h'
  have keep : ∀ a o, H1 a = some o → ioAddr σ as ≠ some a → H' a = some o := fun a o h h' => bk.bkeep a o h h'
  -- the environment behind
  have cases_ : (∃ i l p, ioOf as = some i ∧ w = some l ∧ en2 = en1.set i (.own l) ∧ ioAddr σ as = some p ∧ σ[i]? = some (some (V.ref p)) ∧ ∃ m, en1[i]? = some (Slot.own m)) ∨ (en2 = en1 ∧ ioAddr σ as = none) := by
    unfold putBack at pb
    cases e : ioOf as with
    | none =>
      rw [e] at pb
      cases w with
      | none => cases pb; exact .inr ⟨rfl, by unfold ioAddr; simp only [e]⟩
      | some l => cases pb
    | some i =>
      rw [e] at pb
      cases w with
      | none => cases pb
      | some l =>
        cases pb
        obtain ⟨m, o⟩ := resolve_o rs e
        obtain ⟨p, us, e1, _⟩ := k.own i m (ownAt_some.mp o)
        exact .inl ⟨i, l, p, rfl, rfl, rfl, by unfold ioAddr; simp only [e, e1], e1, m, ownAt_some.mp o⟩
  have owns : ∀ i : Nat, ownAt en1 i ≠ none → ownAt en2 i ≠ none := fun i h => by
    rcases cases_ with ⟨j, l, p, _, _, e, _, _, m, hm⟩ | ⟨e, _⟩
    · subst e
      by_cases z : i = j
      · subst z
        have lt := (List.getElem?_eq_some_iff.mp hm).1
        have q : (en1.set i (.own l))[i]? = some (Slot.own l) := by rw [List.getElem?_set_self lt]
        rw [ownAt_some.mpr q]
        exact fun z => nomatch z
      · have q : (en1.set j (.own l))[i]? = en1[i]? := List.getElem?_set_ne (Ne.symm z)
        unfold ownAt at h ⊢
        rw [q]
        exact h
    · rw [e]; exact h
  have vals : ∀ i : Nat, ownAt en1 i = none → en2[i]? = en1[i]? := fun i h => by
    rcases cases_ with ⟨j, l, p, _, _, e, _, _, m, hm⟩ | ⟨e, _⟩
    · subst e
      have z : i ≠ j := fun z => by subst z; rw [ownAt_some.mpr hm] at h; cases h
      exact List.getElem?_set_ne (Ne.symm z)
    · rw [e]
  have ioP : ∀ a, ioAddr σ as = some a → Own σ en1 a := fun a h => by
    obtain ⟨i, l, us, _, e2, e3, _⟩ := io_own k rs h
    exact ⟨i, l, e2, e3⟩
  have len : en2.length = en1.length := by
    rcases cases_ with ⟨j, l, p, _, _, e, _⟩ | ⟨e, _⟩
    · rw [e, List.length_set]
    · rw [e]
  have go : Go σ F1 H1 en1 (subB F' σ as) H' en2 := ⟨sub, new, fun a o h h' => keep a o h fun z => h' (ioP a z), bk.bdom, vals, owns, len⟩
  refine ⟨go, ⟨len.trans k.len, fun i d h => ?_, fun i l h => ?_, fun i j l m p h1 h2 h3 h4 => ?_, fun a o h => ?_, k.bsub.trans sub, fun a h h' => new a (k.bnew a h h') (k.bdom a h'), fun a o h h' => ?_, fun a h => bk.bdom a (k.bdom a h), fun i p h => ⟨(k.pin i p h).1, owns i (k.pin i p h).2⟩⟩⟩
  · have e : en1[i]? = some (Slot.val d) := by
      cases o : ownAt en1 i with
      | none => rw [← vals i o]; exact h
      | some m =>
        have q := owns i (by rw [o]; exact fun z => nomatch z)
        unfold ownAt at q
        rw [h] at q
        exact absurd rfl q
    obtain ⟨v, e1, e2⟩ := k.val i d e
    exact ⟨v, e1, e2.up sub⟩
  · -- an own slot
    have old : ∀ m, en1[i]? = some (Slot.own m) → (m = l) → (∀ p, σ[i]? = some (some (V.ref p)) → ioAddr σ as ≠ some p) → ∃ p us, σ[i]? = some (some (.ref p)) ∧ H' p = some (.lst us) ∧ DnA K (subB F' σ as) us l ∧ subB F' σ as p = none ∧ (B.P p ∨ B.H p = none) := fun m hm e nio => by
      subst e
      obtain ⟨p, us, e1, e2, e3, e4, e5⟩ := k.own i m hm
      exact ⟨p, us, e1, keep p _ e2 (nio p e1), e3.up sub, new p e4 (some_ne e2), e5⟩
    rcases cases_ with ⟨j, l', p, ej, ew, e, ea, es, m, hm⟩ | ⟨e, ea⟩
    · subst e
      by_cases z : i = j
      · subst z
        have lt := (List.getElem?_eq_some_iff.mp hm).1
        rw [List.getElem?_set_self lt] at h
        cases h
        obtain ⟨p2, us, e1, _, _, _, e5⟩ := k.own i m hm
        rw [es] at e1
        cases e1
        rw [ea, ew] at out
        obtain ⟨o1, us', o2, o3⟩ := out
        refine ⟨p, us', es, o2, ?_, ?_, e5⟩
        · rcases safe with s | s
          · rw [subB_of s]; exact o3
          · exact DnA.subB (fun a z => let ⟨us, q, _⟩ := bwF a z; ⟨us, q⟩) _ _ (s _ ew) o3
        · by_cases z : Bw σ as p
          · exact subB_in z
          · rw [subB_out z]; exact o1
      · have h' : (en1.set j (.own l'))[i]? = some (Slot.own l) := h
        rw [List.getElem?_set_ne (Ne.symm z)] at h'
        refine old l h' rfl fun p' q1 q2 => ?_
        rw [ea] at q2
        cases q2
        exact z (k.inj i j l m p h' hm q1 es)
    · subst e
      exact old l h rfl fun p q1 q2 => by rw [ea] at q2; cases q2
  · have back : ∀ i l, en2[i]? = some (Slot.own l) → ∃ m, en1[i]? = some (Slot.own m) := fun i l h => by
      cases o : ownAt en1 i with
      | some m => exact ⟨m, ownAt_some.mp o⟩
      | none =>
        rw [vals i o] at h
        rw [ownAt_some.mpr h] at o
        cases o
    obtain ⟨l1, q1⟩ := back i l h1
    obtain ⟨m1, q2⟩ := back j m h2
    exact k.inj i j l1 m1 p q1 q2 h3 h4
  · by_cases z : Bw σ as a
    · rw [subB_in z] at h; cases h
    · rw [subB_out z] at h; exact bk.sub _ _ h
  · refine keep a o (k.bkeep a o h h') fun z => ?_
    obtain ⟨_, _, _, _, _, _, _, _, q⟩ := io_own k rs z
    rcases q with q | q
    · exact h' q
    · rw [q] at h; cases h
end
end Vm
end
section
set_option Elab.async false
set_option linter.all false
set_option maxRecDepth 100000
namespace Vm
open PySem PySem.Spec L2

/-! ### does a code say what the text says -/
def visB (sc : Scope) (x : Str) : Bool := match sc.names.lookup x with
  | some .local => true
  | some .cell => true
  | some .free => true
  | _ => false
def locB (sc : Scope) (x : Str) : Bool := match sc.names.lookup x with
  | some .local => true
  | some .cell => true
  | _ => false
def glbB (sc : Scope) (x : Str) : Bool := decide (sc.names.lookup x = some .globalImplicit)
def okName (x : Str) : Bool := !(x == ("__debug__" : Str)) && !(x == ("__classdict__" : Str))
def dSame : D → D → Bool
  | .non, .non => true
  | .bl a, .bl b => a == b
  | .int a, .int b => decide (a = b)
  | .str a, .str b => decide (a = b)
  | _, _ => false
def lSame : List D → List D → Bool
  | [], [] => true
  | a :: l, b :: m => dSame a b && lSame l m
  | _, _ => false
def blts : List Str := ["len", "abs", "max", "min", "int", "repr", "list", "tuple", "sorted", "sum", "all", "any", "isinstance", "range", "enumerate", "zip", "bool", "str", "dict", "ValueError"]
def tyB (t : Ty) (x : Str) : Bool := match t with
  | .int => decide (x = "int")
  | .bool => decide (x = "bool")
  | .str => decide (x = "str")
  | .tuple => decide (x = "tuple")
  | .list => decide (x = "list")
def constB : D → Const → Bool
  | .non, .none => true
  | .bl a, .bool b => a == b
  | .int a, .int b => decide (a = b)
  | .str a, .str b => decide (a = b)
  | _, _ => false
def binB : Pr → Operator → Bool
  | .add, .Add => true
  | .sub, .Sub => true
  | .mul, .Mult => true
  | .fdiv, .FloorDiv => true
  | .mod, .Mod => true
  | .pow, .Pow => true
  | _, _ => false
def cmpB : Pr → CmpOp → Bool
  | .eq, .Eq => true
  | .ne, .NotEq => true
  | .lt, .Lt => true
  | .le, .LtE => true
  | .gt, .Gt => true
  | .ge, .GtE => true
  | _, _ => false
/-- built-ins of one argument, by name -/
def call1B : Pr → Str → Bool
  | .len, x => decide (x = "len")
  | .abs, x => decide (x = "abs")
  | .int, x => decide (x = "int")
  | .repr, x => decide (x = "repr")
  | .list, x => decide (x = "list")
  | .tuple, x => decide (x = "tuple")
  | .sum, x => decide (x = "sum")
  | .all, x => decide (x = "all")
  | .any, x => decide (x = "any")
  | _, _ => false
def call2B : Pr → Str → Bool
  | .max2, x => decide (x = "max")
  | .min2, x => decide (x = "min")
  | _, _ => false
def still : E → Bool
  | .c _ => true
  | .v _ => true
  | _ => false
def isSlice : Expr → Bool
  | .Slice _ _ _ _ => true
  | _ => false
def varB (N : List Str) (sc : Scope) (i : Nat) : Expr → Bool
  | .Name x _ => decide (N[i]? = some x) && visB sc x && okName x
  | _ => false
def matO (f : E → Expr → Bool) (N : List Str) (sc : Scope) (c : E) (a : Expr) : Bool := match c with
  | .bw i => varB N sc i a
  | .io i => varB N sc i a
  | c => f c a
def noBw : E → Bool
  | .bw _ => false
  | .io _ => false
  | _ => true
def matL (f : E → Expr → Bool) : List E → List Expr → Bool
  | [], [] => true
  | c :: cs, a :: as => f c a && matL f cs as
  | _, _ => false
def nameB (N : List Str) (sc : Scope) (i : Nat) : Expr → Bool
  | .Name x _ => decide (N[i]? = some x) && locB sc x
  | _ => false
def namesB (N : List Str) (sc : Scope) : List Nat → List Expr → Bool
  | [], [] => true
  | i :: is, a :: as => nameB N sc i a && namesB N sc is as
  | _, _ => false
def matT (N : List Str) (sc : Scope) : Tg → Expr → Bool
  | .n i, a => nameB N sc i a
  | .t is, .Tuple es _ _ => namesB N sc is es
  | _, _ => false
def tgIn (vs : List Nat) : Tg → Bool
  | .n i => vs.contains i
  | .t is => is.all fun i => vs.contains i
def tupT : Tg → Bool
  | .t _ => true
  | _ => false
def matI (f : E → Expr → Bool) (sc : Scope) (tg : Tg) (k : Ik) (l : List E) (a : Expr) : Bool := match k, l with
  | .seq, [c] => f c a
  | .rng1, l => (match a with
    | .Call (.Name x _) es [] _ => decide (x = "range") && glbB sc x && decide (es.length = 1) && matL f l es
    | _ => false)
  | .rng2, l => (match a with
    | .Call (.Name x _) es [] _ => decide (x = "range") && glbB sc x && decide (es.length = 2) && matL f l es
    | _ => false)
  | .enum, l => (match a with
    | .Call (.Name x _) es [] _ => decide (x = "enumerate") && glbB sc x && decide (es.length = 1) && tupT tg && matL f l es
    | _ => false)
  | .zip, l => (match a with
    | .Call (.Name x _) es [] _ => decide (x = "zip") && glbB sc x && decide (es.length = 2) && tupT tg && matL f l es
    | _ => false)
  | _, _ => false
def ownL (N : List Str) (vs : List Nat) : List (Str × Nat) := vs.map fun v => (N.getD v "", v)
def matE : Nat → (Str → List D) → List Str → Scope → E → Expr → Bool
  | 0, _, _, _, _, _ => false
  | n + 1, df, N, sc, c, a => match c with
    | .c d => (match a with
      | .Constant k _ _ => constB d k
      | _ => false)
    | .g x => (match a with
      | .Name y _ => decide (x = y) && glbB sc x && okName x
      | _ => false)
    | .v i => varB N sc i a
    | .bw _ => false
    | .io _ => false
    | .pr p l => (match a, l with
      | .Tuple es _ _, l => decide (p = .tup) && l.all noBw && matL (matE n df N sc) l es
      | .List es _, l => decide (p = .lst) && l.all noBw && matL (matE n df N sc) l es
      | .UnaryOp .Not x _, [c] => decide (p = .not) && matE n df N sc c x
      | .UnaryOp .USub x _, [c] => decide (p = .neg) && matE n df N sc c x
      | .BinOp x o y _, [c, d] => binB p o && matO (matE n df N sc) N sc c x && matO (matE n df N sc) N sc d y
      | .Compare x [.Is] [.Constant .none _ _] _, [c] => decide (p = .isn) && matO (matE n df N sc) N sc c x
      | .Compare x [.IsNot] [.Constant .none _ _] _, [c] => decide (p = .nisn) && matO (matE n df N sc) N sc c x
      | .Compare x [o] [y] _, [c, d] => cmpB p o && matO (matE n df N sc) N sc c x && matO (matE n df N sc) N sc d y
      | .Subscript x (.Slice none (some z) none _) _, [c, d] => decide (p = .slA) && matO (matE n df N sc) N sc c x && matE n df N sc d z
      | .Subscript x (.Slice (some y) none none _) _, [c, d] => decide (p = .slB) && matO (matE n df N sc) N sc c x && matE n df N sc d y
      | .Subscript x (.Slice (some y) (some z) none _) _, [c, d, e] => decide (p = .slC) && still e && matO (matE n df N sc) N sc c x && matE n df N sc d y && matE n df N sc e z
      | .Subscript x (.Slice none none (some (.UnaryOp .USub (.Constant (.int 1) _ _) _)) _) _, [c] => decide (p = .rev) && matO (matE n df N sc) N sc c x
      | .Subscript x y _, [c, d] => decide (p = .ix) && !isSlice y && matO (matE n df N sc) N sc c x && matO (matE n df N sc) N sc d y
      | .Call (.Name x _) [y] [] _, [c] => call1B p x && glbB sc x && matO (matE n df N sc) N sc c y
      | .Call (.Name x _) [y, .Name z _] [] _, [c] => (match p with
        | .isi t => decide (x = "isinstance") && glbB sc x && tyB t z && glbB sc z && matO (matE n df N sc) N sc c y
        | _ => false)
      | .Call (.Name x _) [y, z] [] _, [c, d] => call2B p x && glbB sc x && matO (matE n df N sc) N sc c y && matO (matE n df N sc) N sc d z
      | _, _ => false)
    | .and_ c d => (match a with
      | .BoolOp .And (x :: y :: r) pos => matE n df N sc c x && (match r with
        | [] => matE n df N sc d y
        | _ :: _ => matE n df N sc d (.BoolOp .And (y :: r) pos))
      | _ => false)
    | .or_ c d => (match a with
      | .BoolOp .Or (x :: y :: r) pos => matE n df N sc c x && (match r with
        | [] => matE n df N sc d y
        | _ :: _ => matE n df N sc d (.BoolOp .Or (y :: r) pos))
      | _ => false)
    | .ite t c d => (match a with
      | .IfExp x y z _ => matE n df N sc t x && matE n df N sc c y && matE n df N sc d z
      | _ => false)
    | .ch o p c d e => (match a with
      | .Compare x [oo, pp] [y, z] _ => cmpB o oo && cmpB p pp && matE n df N sc c x && matE n df N sc d y && matE n df N sc e z
      | _ => false)
    | .call f l dl => (match a with
      | .Call (.Name x _) (y :: ys) [] _ => decide (x = f) && glbB sc x && okName x && (dl.isEmpty || lSame (df f) dl) && matL (matO (matE n df N sc) N sc) l (y :: ys)
      | _ => false)
    | .lc elt tg k l cond vs => (match a with
      | .ListComp x [g] scope _ => decide (g.is_async = 0) && matI (matE n df N sc) sc tg k l g.iter && matT N scope tg g.target && tgIn vs tg && matE n df N (relS scope sc) elt x && blkC N sc scope (ownL N vs) &&
        (match cond, g.ifs with
          | none, [] => true
          | some c, [y] => matE n df N (relS scope sc) c y
          | _, _ => false)
      | _ => false)

/-! ### the context of a body -/
def CallOk (X : Cx) (C : Cg) (f : Str) : Prop := ∃ (k : Nat) (fa : Addr) (fd : FuncData) (ps : List Str), X.mg f = some (.ref fa) ∧ PySem.W.keepIn X.K (.ref fa) = true ∧ Room k X.A ∧
  FnG X.prog X.w X.K X.mg X.base k fa fd ps (SpOf X.K C.xi (C.T.fresh f) (C.T.call f)) ∧
  ∀ dl : List D, (dl.isEmpty || lSame (C.T.dflt f) dl) = true → ∃ ds dvs, Binds X.K fd ps ds ∧ Vals dvs ds ∧ ∀ F, DnA X.K F dvs dl
structure Gd (C : Cg) (X : Cx) (N : List Str) (sc : Scope) : Prop where
  hK : X.K = C.K
  hN : X.N = N
  hs : X.env.scope = sc
  calm : X.calm = true
  guards : X.A.guards = some []
  room : Room 1 X.A
  nd : X.N.Nodup
  glob : ∀ x d, C.T.glob x = some d → ∃ v u, X.mg x = some u ∧ RelV v u ∧ ∀ F, Dn X.K F v d
  blt : ∀ x ∈ blts, X.mg x = none
  call : ∀ f, C.T.has f = true → CallOk X C f
  xif : ∀ c l cls dx F F' H, C.xi c l cls dx F H → C.xi c l cls dx F' H
  pass : ∀ σ, PassesAt (L2.CX X.prog X.w) X σ (WE C.W σ)

/-! ### small facts of the text -/
theorem vis_of {X : Cx} {sc : Scope} {x : Str} (hs : X.env.scope = sc) (h : visB sc x = true) : Vis X.env.scope x := by
  unfold visB at h
  rw [hs]
  unfold Vis
  split at h <;> first
    | (rename_i e; rw [e]; simp)
    | cases h
theorem loc_of {X : Cx} {sc : Scope} {x : Str} (hs : X.env.scope = sc) (h : locB sc x = true) : L2.Loc X.env.scope x := by
  unfold locB at h
  rw [hs]
  unfold L2.Loc
  split at h <;> first
    | (rename_i e; rw [e]; simp)
    | cases h
theorem glb_of {X : Cx} {sc : Scope} {x : Str} (hs : X.env.scope = sc) (h : glbB sc x = true) : Gl X x := by
  unfold Gl PySem.Env.kindOf
  rw [hs]
  exact of_decide_eq_true h
theorem okName_of {x : Str} (h : okName x = true) : (x == ("__debug__" : Str)) = false ∧ (x == ("__classdict__" : Str)) = false := by
  have q := (Bool.and_eq_true _ _).mp h
  refine ⟨?_, ?_⟩
  · cases z : (x == ("__debug__" : Str)) with
    | false => rfl
    | true => rw [z] at q; cases q.1
  · cases z : (x == ("__classdict__" : Str)) with
    | false => rfl
    | true => rw [z] at q; cases q.2
theorem and2 {a b : Bool} (h : (a && b) = true) : a = true ∧ b = true := (Bool.and_eq_true _ _).mp h
theorem ev_ok {n : Nat} {df : Str → List D} {N : List Str} {sc : Scope} {c : E} {a : Expr} (h : matE n df N sc c a = true) : (∀ env as, starEach (a :: as) env = (false, eval a env) :: starEach as env) ∧ (∀ env x, foldedSetIterable a env x = pure x) := by
  cases n with
  | zero => cases h
  | succ n =>
    cases a <;> first
      | exact ⟨fun _ _ => rfl, fun _ _ => rfl⟩
      | (exfalso; unfold matE at h; cases c <;> first | cases h | (simp only at h; first | cases h | (split at h <;> first | cases h | simp_all)))
end Vm
end
section
set_option Elab.async false
set_option linter.all false
set_option maxRecDepth 100000
namespace Vm
open PySem PySem.Spec L2
section
variable {C : Cg} {X : Cx} {N : List Str} {sc : Scope} {n : Nat}
abbrev Sx (C : Cg) (X : Cx) (n : Nat) (df : Str → List D) (N : List Str) (sc : Scope) : Prop := ∀ (c : E) (a : Expr), matE n df N sc c a = true → PE X a (tE C n c) ∧ PT X a (tT C n c)
theorem of_test {c : E} {σ : St} {H : Hp} {Q : Bool → Hp → Prop} (h : tT C n c σ H Q) : tE C n c σ H fun x H1 => ∃ b, x = .bl b ∧ Q b H1 := by
  obtain ⟨F, en, k, h⟩ := h
  refine ⟨F, en, k, ?_⟩
  cases r : evE C.T n c en with
  | bad => rw [r] at h; exact h
  | ex c l => rw [r] at h; exact h
  | ok p =>
    rw [r] at h
    obtain ⟨b, e, h⟩ := h
    intro v F' H' g k' dn
    rw [e] at dn
    cases dn
    exact ⟨b, rfl, h F' H' g k'⟩
/-- a test by its value -/
theorem pt_of {c : E} {a : Expr} (h : PE X a (tE C n c)) (he : ∀ whole, isTrue a X.env whole = (do let v ← whole; standAt a.pos; holding [v] (truthy v))) : PT X a (tT C n c) :=
  PT.imp (pt_val h he) fun σ H Q q => of_test q
/-- operands -/
theorem pe_O {df : Str → List D} (G : Gd C X N sc) (ih : Sx C X n df N sc) {c : E} {a : Expr} (h : matO (matE n df N sc) N sc c a = true) : PE X a (tO C n c) := by
  have own : ∀ i : Nat, varB N sc i a = true → PE X a (tVar i) := fun i h => by
    unfold varB at h
    split at h
    · obtain ⟨h1, h3⟩ := and2 h
      obtain ⟨h1, h2⟩ := and2 h1
      obtain ⟨e1, e2⟩ := okName_of h3
      exact pe_var (by rw [G.hN]; exact of_decide_eq_true h1) (vis_of G.hs h2) e1 e2
    · cases h
  cases c with
  | bw i => exact own i h
  | io i => exact own i h
  | c _ => exact (ih _ _ h).1
  | g _ => exact (ih _ _ h).1
  | v _ => exact (ih _ _ h).1
  | pr _ _ => exact (ih _ _ h).1
  | and_ _ _ => exact (ih _ _ h).1
  | or_ _ _ => exact (ih _ _ h).1
  | ite _ _ _ => exact (ih _ _ h).1
  | ch _ _ _ _ _ => exact (ih _ _ h).1
  | call _ _ _ => exact (ih _ _ h).1
  | lc _ _ _ _ _ _ => exact (ih _ _ h).1
theorem matO_star {df : Str → List D} {c : E} {a : Expr} (h : matO (matE n df N sc) N sc c a = true) : ∀ env as, starEach (a :: as) env = (false, eval a env) :: starEach as env := by
  have own : ∀ i : Nat, varB N sc i a = true → ∀ env as, starEach (a :: as) env = (false, eval a env) :: starEach as env := fun i h => by
    unfold varB at h
    split at h
    · exact fun _ _ => rfl
    · cases h
  cases c with
  | bw i => exact own i h
  | io i => exact own i h
  | c _ => exact (ev_ok h).1
  | g _ => exact (ev_ok h).1
  | v _ => exact (ev_ok h).1
  | pr _ _ => exact (ev_ok h).1
  | and_ _ _ => exact (ev_ok h).1
  | or_ _ _ => exact (ev_ok h).1
  | ite _ _ _ => exact (ev_ok h).1
  | ch _ _ _ _ _ => exact (ev_ok h).1
  | call _ _ _ => exact (ev_ok h).1
  | lc _ _ _ _ _ _ => exact (ev_ok h).1
theorem pa_O {df : Str → List D} (G : Gd C X N sc) (ih : Sx C X n df N sc) : ∀ {l : List E} {es : List Expr}, matL (matO (matE n df N sc) N sc) l es = true → PA X es (tA C n l)
  | [], [], _ => pa_nil
  | c :: cs, a :: as, h => by
    obtain ⟨h1, h2⟩ := and2 h
    exact pa_cons (pe_O G ih h1) (pa_O G ih h2) (matO_star h1 _ _)
  | [], _ :: _, h => by cases h
  | _ :: _, [], h => by cases h
theorem star_any {df : Str → List D} {pos : Pos} : ∀ {l : List E} {es : List Expr} {env : PySem.Env}, matL (matO (matE n df N sc) N sc) l es = true → (starEach es env).any (·.1) = false
  | [], [], _, _ => rfl
  | c :: cs, a :: as, env, h => by
    obtain ⟨h1, h2⟩ := and2 h
    rw [matO_star h1, List.any_cons, star_any (pos := pos) h2]
    rfl
  | [], _ :: _, _, h => by cases h
  | _ :: _, [], _, h => by cases h
theorem tO_strict {c : E} (h : noBw c = true) : tO C n c = tE C n c := by
  cases c <;> first | rfl | cases h
theorem matO_strict {f : E → Expr → Bool} {c : E} {a : Expr} (h : noBw c = true) : matO f N sc c a = f c a := by
  cases c <;> first | rfl | cases h
theorem matL_O {f : E → Expr → Bool} : ∀ {l : List E} {es : List Expr}, l.all noBw = true → matL f l es = true → matL (matO f N sc) l es = true
  | [], [], _, _ => rfl
  | c :: cs, a :: as, hb, h => by
    rw [List.all_cons] at hb
    obtain ⟨b1, b2⟩ := and2 hb
    obtain ⟨h1, h2⟩ := and2 h
    exact (Bool.and_eq_true _ _).mpr ⟨by rw [matO_strict b1]; exact h1, matL_O b2 h2⟩
  | [], _ :: _, _, h => by cases h
  | _ :: _, [], _, h => by cases h
theorem das_dna {K : PySem.W.Frag} {F H : Hp} : ∀ {vs : List V} {ds : List D}, DAs K F H vs ds → Same F H → DnA K H vs ds
  | _, _, .nil, _ => .nil
  | _, _, .cons a t, s => .cons (a.dn s) (das_dna t s)
/-- prim never raises -/
theorem prim_noex (p : Pr) (ds : List D) (c : Str) (m : List D) : prim p ds ≠ .ex c m := by
  intro h
  cases p <;> simp only [prim] at h <;> first
    | cases h
    | (simp only [p_tup, p_lst] at h; split at h <;> cases h)
    | (unfold p_ix at h; split at h <;> first
        | cases h
        | (unfold ixL at h; split at h <;> first | cases h | (split at h <;> cases h)))
    | (unfold p_not at h; split at h <;> cases h)
    | (unfold p_neg at h; split at h <;> cases h)
    | (unfold p_add at h; split at h <;> first | cases h | (split at h <;> cases h))
    | (unfold p_sub at h; split at h <;> cases h)
    | (unfold p_mul at h; split at h <;> first | cases h | (split at h <;> cases h))
    | (unfold p_fdiv at h; split at h <;> first | cases h | (split at h <;> cases h))
    | (unfold p_mod at h; split at h <;> first | cases h | (split at h <;> cases h))
    | (unfold p_pow at h; split at h <;> first | cases h | (split at h <;> cases h))
    | (unfold p_eq at h; split at h <;> first | cases h | (split at h <;> cases h))
    | (unfold p_ne at h; split at h <;> first | cases h | (split at h <;> cases h))
    | (unfold p_lt at h; split at h <;> cases h)
    | (unfold p_le at h; split at h <;> cases h)
    | (unfold p_gt at h; split at h <;> cases h)
    | (unfold p_ge at h; split at h <;> cases h)
    | (unfold p_isn at h; split at h <;> cases h)
    | (unfold p_nisn at h; split at h <;> cases h)
    | (unfold p_slA at h; split at h <;> cases h)
    | (unfold p_slB at h; split at h <;> cases h)
    | (unfold p_slC at h; split at h <;> cases h)
    | (unfold p_len at h; split at h <;> cases h)
    | (unfold p_rev at h; split at h <;> cases h)
    | (unfold p_abs at h; split at h <;> cases h)
    | (unfold p_max2 at h; split at h <;> cases h)
    | (unfold p_min2 at h; split at h <;> cases h)
    | (unfold p_int at h; split at h <;> cases h)
    | (unfold p_repr at h; split at h <;> first | cases h | (split at h <;> cases h))
    | (unfold p_list at h; split at h <;> cases h)
    | (unfold p_tuple at h; split at h <;> cases h)
    | (unfold p_sum at h; split at h <;> first | cases h | (split at h <;> cases h))
    | (unfold p_all at h; split at h <;> first | cases h | (split at h <;> cases h))
    | (unfold p_any at h; split at h <;> first | cases h | (split at h <;> cases h))
    | (unfold p_isi at h; split at h <;> first | cases h | (split at h <;> cases h))
/-! one or two operands -/
theorem op1 {p : Pr} {c : E} {σ : St} {H : Hp} {Q : VK} {r : V → Hp → VK → Prop} (hr : ∀ {F H : Hp} {Q : VK} {d d1 : D} {x : V}, prim p [d1] = .ok d → DA C.K F H x d1 → Same F H → Qz C.K F H d Q → r x H Q) (hn : ∀ ds d, prim p ds = .ok d → ds.length = 1)
    (h : tE C (n + 1) (.pr p [c]) σ H Q) : tO C n c σ H fun x H1 => r x H1 Q := by
  obtain ⟨F, en, k, h⟩ := h
  have q := prim_run (R := fun vs H1 => ∃ x, vs = [x] ∧ r x H1 Q) k h (fun vs ds d F1 H1 a e s q => by
    have l := hn ds d e
    match ds, l with
    | [d1], _ =>
      obtain ⟨x, rfl, a1⟩ := a.inv1
      exact ⟨x, rfl, hr e a1 s q⟩) (prim_noex p)
  have q : tO C n c σ H fun x H1 => ∃ y, [x] = [y] ∧ r y H1 Q := q
  have e : (fun (x : V) (H1 : Hp) => ∃ y, [x] = [y] ∧ r y H1 Q) = fun x H1 => r x H1 Q := by
    funext x H1
    exact propext ⟨fun ⟨y, e, q⟩ => by cases e; exact q, fun q => ⟨x, rfl, q⟩⟩
  rw [e] at q
  exact q
theorem op2 {p : Pr} {c c2 : E} {σ : St} {H : Hp} {Q : VK} {r : R2} (hr : ∀ {F H : Hp} {Q : VK} {d d1 d2 : D} {x y : V}, prim p [d1, d2] = .ok d → DA C.K F H x d1 → DA C.K F H y d2 → Same F H → Qz C.K F H d Q → r x y H Q) (hn : ∀ ds d, prim p ds = .ok d → ds.length = 2)
    (h : tE C (n + 1) (.pr p [c, c2]) σ H Q) : tOp r (tO C n c) (tO C n c2) σ H Q := by
  obtain ⟨F, en, k, h⟩ := h
  have q := prim_run (R := fun vs H1 => ∃ x y, vs = [x, y] ∧ r x y H1 Q) k h (fun vs ds d F1 H1 a e s q => by
    have l := hn ds d e
    match ds, l with
    | [d1, d2], _ =>
      obtain ⟨x, y, rfl, a1, a2⟩ := a.inv2
      exact ⟨x, y, rfl, hr e a1 a2 s q⟩) (prim_noex p)
  have q : tO C n c σ H fun x H1 => tO C n c2 σ H1 fun y H2 => ∃ x' y', [x, y] = [x', y'] ∧ r x' y' H2 Q := q
  have e : (fun (x : V) (H1 : Hp) => tO C n c2 σ H1 fun y H2 => ∃ x' y', [x, y] = [x', y'] ∧ r x' y' H2 Q) = fun x H1 => tO C n c2 σ H1 fun y H2 => r x y H2 Q := by
    funext x H1
    congr 1
    funext y H2
    exact propext ⟨fun ⟨x', y', e, q⟩ => by cases e; exact q, fun q => ⟨x, y, rfl, q⟩⟩
  rw [e] at q
  exact q
end
end Vm
end
section
set_option Elab.async false
set_option linter.all false
set_option maxRecDepth 100000
namespace Vm
open PySem PySem.Spec L2
theorem prim_len1 {p : Pr} (hp : p = .not ∨ p = .neg ∨ p = .isn ∨ p = .nisn ∨ p = .len ∨ p = .abs ∨ p = .int ∨ p = .repr ∨ p = .list ∨ p = .tuple ∨ p = .sum ∨ p = .all ∨ p = .any ∨ p = .rev ∨ ∃ t, p = .isi t) (ds : List D) (d : D) (h : prim p ds = .ok d) : ds.length = 1 := by
  match ds with
  | [] => rcases hp with rfl | rfl | rfl | rfl | rfl | rfl | rfl | rfl | rfl | rfl | rfl | rfl | rfl | rfl | ⟨t, rfl⟩ <;> cases h
  | [_] => rfl
  | x :: y :: _ => rcases hp with rfl | rfl | rfl | rfl | rfl | rfl | rfl | rfl | rfl | rfl | rfl | rfl | rfl | rfl | ⟨t, rfl⟩ <;> first | cases h | (cases x <;> cases h)
theorem prim_len2 {p : Pr} (hp : p = .add ∨ p = .sub ∨ p = .mul ∨ p = .fdiv ∨ p = .mod ∨ p = .pow ∨ p = .eq ∨ p = .ne ∨ p = .lt ∨ p = .le ∨ p = .gt ∨ p = .ge ∨ p = .ix ∨ p = .slA ∨ p = .slB ∨ p = .max2 ∨ p = .min2) (ds : List D) (d : D) (h : prim p ds = .ok d) : ds.length = 2 := by
  match ds with
  | [] => rcases hp with rfl | rfl | rfl | rfl | rfl | rfl | rfl | rfl | rfl | rfl | rfl | rfl | rfl | rfl | rfl | rfl | rfl <;> cases h
  | [x] => rcases hp with rfl | rfl | rfl | rfl | rfl | rfl | rfl | rfl | rfl | rfl | rfl | rfl | rfl | rfl | rfl | rfl | rfl <;> first | cases h | (cases x <;> cases h)
  | [_, _] => rfl
  | x :: y :: _ :: _ => rcases hp with rfl | rfl | rfl | rfl | rfl | rfl | rfl | rfl | rfl | rfl | rfl | rfl | rfl | rfl | rfl | rfl | rfl <;> first | cases h | (cases x <;> first | cases h | (cases y <;> cases h))
section
variable {C : Cg} {X : Cx} {N : List Str} {sc : Scope} {n : Nat}
/-- constants -/
theorem pe_const {d : D} {k : Const} {kk : Nat} {pos : Pos} (h : constB d k = true) (G : Gd C X N sc) : PE X (.Constant k kk pos) (tE C (n + 1) (.c d)) := by
  have fin : ∀ v, (∀ F, Dn C.K F v d) → PE X (.Constant k kk pos) (tC v) → PE X (.Constant k kk pos) (tE C (n + 1) (.c d)) := fun v dn p =>
    PE.imp p fun σ H Q ⟨F, en, ok, q⟩ => q v F H Go.refl ok (dn F)
  unfold constB at h
  split at h
  · exact fin .non (fun _ => .non) pe_non
  · have e := eq_of_beq h
    subst e
    exact fin (.bl _) (fun _ => .bl _) pe_bl
  · have e := of_decide_eq_true h
    subst e
    exact fin (.int _) (fun _ => .int _) pe_int
  · have e := of_decide_eq_true h
    subst e
    exact fin (.str _) (fun _ => .str _) pe_str
  · cases h
theorem pe_slot {i : Nat} {a : Expr} (h : varB N sc i a = true) (G : Gd C X N sc) : PE X a (tE C (n + 1) (.v i)) := by
  unfold varB at h
  split at h
  · obtain ⟨h1, h3⟩ := and2 h
    obtain ⟨h1, h2⟩ := and2 h1
    obtain ⟨e1, e2⟩ := okName_of h3
    refine PE.imp (pe_var (i := i) (by rw [G.hN]; exact of_decide_eq_true h1) (vis_of G.hs h2) e1 e2) fun σ H Q ⟨F, en, ok, q⟩ => ?_
    have q : Res C σ F H en (match valAt en i with
      | some d => .ok (d, en)
      | none => .bad) Q := q
    cases e : valAt en i with
    | none => rw [e] at q; exact q.elim
    | some d =>
      rw [e] at q
      obtain ⟨v, ev, dn⟩ := ok.val i d (valAt_some.mp e)
      exact ⟨v, ev, q v F H Go.refl ok dn⟩
  · cases h
theorem pe_globE {x : Str} {pos : Pos} (h : (glbB sc x && okName x) = true) (G : Gd C X N sc) : PE X (.Name x pos) (tE C (n + 1) (.g x)) := by
  obtain ⟨h1, h2⟩ := and2 h
  cases e : C.T.glob x with
  | none =>
    refine ⟨fun pins s σ H Q I ⟨F, en, ok, q⟩ => ?_⟩
    have q : Res C σ F H en (match C.T.glob x with
      | some d => .ok (d, en)
      | none => .bad) Q := q
    rw [e] at q
    exact q.elim
  | some d =>
    obtain ⟨v, u, hm, r, dn⟩ := G.glob x d e
    refine PE.imp (pe_glob (glb_of G.hs h1) hm r (okName_of h2).1) fun σ H Q ⟨F, en, ok, q⟩ => ?_
    have q : Res C σ F H en (match C.T.glob x with
      | some d => .ok (d, en)
      | none => .bad) Q := q
    rw [e] at q
    exact q v F H Go.refl ok (by rw [← G.hK]; exact dn F)
/-! and, or, if -/
def brR (f : D → En → R (D × En)) (r : R (D × En)) : R (D × En) := r.bind fun p => f p.1 p.2
theorem test_bind {σ : St} {H : Hp} {t : E} {f : D → En → R (D × En)} {Q : VK} {K : Bool → Hp → Prop} (hf : ∀ d en, (∀ b, d ≠ .bl b) → f d en = .bad)
    (h : ∃ F en, Ok C.B C.K F H σ en ∧ Res C σ F H en ((evE C.T n t en).bind fun p => f p.1 p.2) Q)
    (k : ∀ b F1 H1 en1, Ok C.B C.K F1 H1 σ en1 → Res C σ F1 H1 en1 (f (.bl b) en1) Q → K b H1) : tT C n t σ H K := by
  obtain ⟨F, en, ok, h⟩ := h
  refine ⟨F, en, ok, ?_⟩
  cases r : evE C.T n t en with
  | bad => rw [r] at h; exact h
  | ex c l => rw [r] at h; exact h
  | ok p =>
    rw [r] at h
    have h : Res C σ F H en (f p.1 p.2) Q := h
    cases e : p.1 with
    | bl b =>
      refine ⟨b, e, fun F1 H1 g1 k1 => k b F1 H1 p.2 k1 ?_⟩
      rw [e] at h
      cases r2 : f (.bl b) p.2 with
      | bad => rw [r2] at h; exact h
      | ex c l => rw [r2] at h; exact Wish.mono h g1.sub
      | ok q =>
        rw [r2] at h
        intro v F2 H2 g2 k2 dn
        exact h v F2 H2 (g1.trans g2) k2 dn
    | non => rw [hf p.1 p.2 (fun b z => by rw [e] at z; cases z)] at h; exact h.elim
    | int _ => rw [hf p.1 p.2 (fun b z => by rw [e] at z; cases z)] at h; exact h.elim
    | str _ => rw [hf p.1 p.2 (fun b z => by rw [e] at z; cases z)] at h; exact h.elim
    | tup _ => rw [hf p.1 p.2 (fun b z => by rw [e] at z; cases z)] at h; exact h.elim
    | lst _ => rw [hf p.1 p.2 (fun b z => by rw [e] at z; cases z)] at h; exact h.elim
    | dic _ => rw [hf p.1 p.2 (fun b z => by rw [e] at z; cases z)] at h; exact h.elim
    | exc _ _ => rw [hf p.1 p.2 (fun b z => by rw [e] at z; cases z)] at h; exact h.elim
    | scr _ => rw [hf p.1 p.2 (fun b z => by rw [e] at z; cases z)] at h; exact h.elim
theorem test_val {σ : St} {H : Hp} {t : E} {Q : VK} (h : tT C n t σ H fun b H1 => Q (.bl b) H1) : tE C n t σ H fun x H1 => ∃ c, x = .bl c ∧ Q (.bl c) H1 := of_test h
/-- the same, to a test -/
theorem test_bindT {σ : St} {H : Hp} {t : E} {f : D → En → R (D × En)} {Q : Bool → Hp → Prop} {K : Bool → Hp → Prop} (hf : ∀ d en, (∀ b, d ≠ .bl b) → f d en = .bad)
    (h : ∃ F en, Ok C.B C.K F H σ en ∧ ResT C σ F H en ((evE C.T n t en).bind fun p => f p.1 p.2) Q)
    (k : ∀ b F1 H1 en1, Ok C.B C.K F1 H1 σ en1 → ResT C σ F1 H1 en1 (f (.bl b) en1) Q → K b H1) : tT C n t σ H K := by
  obtain ⟨F, en, ok, h⟩ := h
  refine ⟨F, en, ok, ?_⟩
  cases r : evE C.T n t en with
  | bad => rw [r] at h; exact h
  | ex c l => rw [r] at h; exact h
  | ok p =>
    rw [r] at h
    have h : ResT C σ F H en (f p.1 p.2) Q := h
    cases e : p.1 with
    | bl b =>
      refine ⟨b, e, fun F1 H1 g1 k1 => k b F1 H1 p.2 k1 ?_⟩
      rw [e] at h
      cases r2 : f (.bl b) p.2 with
      | bad => rw [r2] at h; exact h
      | ex c l => rw [r2] at h; exact Wish.mono h g1.sub
      | ok q =>
        rw [r2] at h
        obtain ⟨b2, e2, h⟩ := h
        exact ⟨b2, e2, fun F2 H2 g2 k2 => h F2 H2 (g1.trans g2) k2⟩
    | non => rw [hf p.1 p.2 (fun b z => by rw [e] at z; cases z)] at h; exact h.elim
    | int _ => rw [hf p.1 p.2 (fun b z => by rw [e] at z; cases z)] at h; exact h.elim
    | str _ => rw [hf p.1 p.2 (fun b z => by rw [e] at z; cases z)] at h; exact h.elim
    | tup _ => rw [hf p.1 p.2 (fun b z => by rw [e] at z; cases z)] at h; exact h.elim
    | lst _ => rw [hf p.1 p.2 (fun b z => by rw [e] at z; cases z)] at h; exact h.elim
    | dic _ => rw [hf p.1 p.2 (fun b z => by rw [e] at z; cases z)] at h; exact h.elim
    | exc _ _ => rw [hf p.1 p.2 (fun b z => by rw [e] at z; cases z)] at h; exact h.elim
    | scr _ => rw [hf p.1 p.2 (fun b z => by rw [e] at z; cases z)] at h; exact h.elim
def fAnd (T : Tab) (n : Nat) (b : E) : D → En → R (D × En) := fun d en => match d with
  | .bl true => evE T n b en
  | .bl false => .ok (.bl false, en)
  | _ => .bad
def fOr (T : Tab) (n : Nat) (b : E) : D → En → R (D × En) := fun d en => match d with
  | .bl true => .ok (.bl true, en)
  | .bl false => evE T n b en
  | _ => .bad
def fIte (T : Tab) (n : Nat) (a b : E) : D → En → R (D × En) := fun d en => match d with
  | .bl true => evE T n a en
  | .bl false => evE T n b en
  | _ => .bad
theorem fAnd_bad {T : Tab} {b : E} : ∀ d en, (∀ z, d ≠ .bl z) → fAnd T n b d en = .bad := fun d en h => by
  cases d <;> first | rfl | (rename_i z; exact absurd rfl (h z))
theorem fOr_bad {T : Tab} {b : E} : ∀ d en, (∀ z, d ≠ .bl z) → fOr T n b d en = .bad := fun d en h => by
  cases d <;> first | rfl | (rename_i z; exact absurd rfl (h z))
theorem fIte_bad {T : Tab} {a b : E} : ∀ d en, (∀ z, d ≠ .bl z) → fIte T n a b d en = .bad := fun d en h => by
  cases d <;> first | rfl | (rename_i z; exact absurd rfl (h z))
theorem pe_andE {a b : E} {x y : Expr} {r : List Expr} {pos : Pos} (ha : PE X x (tE C n a)) (hb : PE X (.BoolOp .And (y :: r) pos) (tE C n b)) : PE X (.BoolOp .And (x :: y :: r) pos) (tE C (n + 1) (.and_ a b)) := by
  refine PE.imp (pe_and ha hb) fun σ H Q h => ?_
  refine of_test (n := n) (Q := fun c H1 => if c = true then tE C n b σ H1 Q else Q (.bl false) H1) (test_bind (f := fAnd C.T n b) fAnd_bad h fun c F1 H1 en1 k1 h1 => ?_)
  cases c with
  | true => exact iteT ⟨F1, en1, k1, h1⟩
  | false => exact iteF (h1 (.bl false) F1 H1 Go.refl k1 (.bl _))
theorem pe_orE {a b : E} {x y : Expr} {r : List Expr} {pos : Pos} (ha : PE X x (tE C n a)) (hb : PE X (.BoolOp .Or (y :: r) pos) (tE C n b)) : PE X (.BoolOp .Or (x :: y :: r) pos) (tE C (n + 1) (.or_ a b)) := by
  refine PE.imp (pe_or ha hb) fun σ H Q h => ?_
  refine of_test (n := n) (Q := fun c H1 => if c = true then Q (.bl true) H1 else tE C n b σ H1 Q) (test_bind (f := fOr C.T n b) fOr_bad h fun c F1 H1 en1 k1 h1 => ?_)
  cases c with
  | false => exact iteF ⟨F1, en1, k1, h1⟩
  | true => exact iteT (h1 (.bl true) F1 H1 Go.refl k1 (.bl _))
theorem pt_andE {a b : E} {x y : Expr} {r : List Expr} {pos : Pos} (ha : PT X x (tT C n a)) (hb : PW X (.BoolOp .And (y :: r) pos) (tT C n b)) : PW X (.BoolOp .And (x :: y :: r) pos) (tT C (n + 1) (.and_ a b)) := by
  refine ⟨fun wh pins s σ H Q I h => (pw_and ha hb).run wh pins s σ H Q I ?_⟩
  refine test_bindT (f := fAnd C.T n b) fAnd_bad h fun c F1 H1 en1 k1 h1 => ?_
  cases c with
  | true => exact iteT ⟨F1, en1, k1, h1⟩
  | false =>
    obtain ⟨b, e, q⟩ := h1
    cases e
    exact iteF (q F1 H1 Go.refl k1)
theorem pt_orE {a b : E} {x y : Expr} {r : List Expr} {pos : Pos} (ha : PT X x (tT C n a)) (hb : PW X (.BoolOp .Or (y :: r) pos) (tT C n b)) : PW X (.BoolOp .Or (x :: y :: r) pos) (tT C (n + 1) (.or_ a b)) := by
  refine ⟨fun wh pins s σ H Q I h => (pw_or ha hb).run wh pins s σ H Q I ?_⟩
  refine test_bindT (f := fOr C.T n b) fOr_bad h fun c F1 H1 en1 k1 h1 => ?_
  cases c with
  | false => exact iteF ⟨F1, en1, k1, h1⟩
  | true =>
    obtain ⟨b, e, q⟩ := h1
    cases e
    exact iteT (q F1 H1 Go.refl k1)
theorem pe_iteE {t a b : E} {x y z : Expr} {pos : Pos} (ht : PT X x (tT C n t)) (ha : PE X y (tE C n a)) (hb : PE X z (tE C n b)) : PE X (.IfExp x y z pos) (tE C (n + 1) (.ite t a b)) := by
  refine PE.imp (pe_ifExp ht ha hb) fun σ H Q h => ?_
  refine test_bind (f := fIte C.T n a b) fIte_bad h fun c F1 H1 en1 k1 h1 => ?_
  cases c with
  | true => exact iteT ⟨F1, en1, k1, h1⟩
  | false => exact iteF ⟨F1, en1, k1, h1⟩
end
end Vm
end
section
set_option Elab.async false
set_option linter.all false
set_option maxRecDepth 100000
namespace Vm
open PySem PySem.Spec L2
section
variable {C : Cg} {X : Cx} {N : List Str} {sc : Scope} {n : Nat}
/-! ### strict lists of codes -/
def tLs (C : Cg) (n : Nat) : List E → TA
  | [] => tNil
  | e :: es => tCons (tE C n e) (tLs C n es)
def ResL (C : Cg) (σ : St) (F H : Hp) (en : En) (r : R (List D × En)) (Q : List V → Hp → Prop) : Prop := match r with
  | .ok p => ∀ vs F' H', Go σ F H en F' H' p.2 → Ok C.B C.K F' H' σ p.2 → DnA C.K F' vs p.1 → Q vs H'
  | .ex c l => Wish C σ F c l
  | .bad => False
theorem list_run {σ : St} : ∀ (l : List E) {F H : Hp} {en : En} {Q : List V → Hp → Prop}, Ok C.B C.K F H σ en → ResL C σ F H en (evList (evE C.T n) l en) Q → tLs C n l σ H Q
  | [], F, H, en, Q, k, h => h [] F H Go.refl k .nil
  | e :: es, F, H, en, Q, k, h => by
    refine ⟨F, en, k, ?_⟩
    have h : ResL C σ F H en ((evE C.T n e en).bind fun p => (evList (evE C.T n) es p.2).bind fun q => .ok (p.1 :: q.1, q.2)) Q := h
    cases r : evE C.T n e en with
    | bad => rw [r] at h; exact h
    | ex c l => rw [r] at h; exact h
    | ok p =>
      rw [r] at h
      intro v F1 H1 g1 k1 a1
      refine list_run es k1 ?_
      have h : ResL C σ F H en ((evList (evE C.T n) es p.2).bind fun q => .ok (p.1 :: q.1, q.2)) Q := h
      cases r2 : evList (evE C.T n) es p.2 with
      | bad => rw [r2] at h; exact h
      | ex c l => rw [r2] at h; exact Wish.mono h g1.sub
      | ok q =>
        rw [r2] at h
        intro vs F2 H2 g2 k2 a2
        exact h (v :: vs) F2 H2 (g1.trans g2) k2 (.cons (a1.up g2.sub) a2)
theorem pa_L {df : Str → List D} (ih : Sx C X n df N sc) : ∀ {l : List E} {es : List Expr}, matL (matE n df N sc) l es = true → PA X es (tLs C n l)
  | [], [], _ => pa_nil
  | c :: cs, a :: as, h => by
    obtain ⟨h1, h2⟩ := and2 h
    exact pa_cons (ih _ _ h1).1 (pa_L ih h2) ((ev_ok h1).1 _ _)
  | [], _ :: _, h => by cases h
  | _ :: _, [], h => by cases h
/-! ### what is walked -/
def Wk (K : PySem.W.Frag) (F : Hp) (J : L2.It) (xs : List D) : Prop := ∀ (i : Nat) (F' H' : Hp), Same F F' → Same F' H' →
  (∀ d, xs[i]? = some d → J.go i H' ∧ ∀ x H'', J.yld i H' x H'' → ∃ F'', Px F' H' F'' H'' ∧ Dn K F'' x d) ∧ (xs.length = i → J.stop i H')
theorem wk_list {K : PySem.W.Frag} {F : Hp} {a : Addr} {us : List V} {ds : List D} (h : F a = some (.lst us)) (dn : DnA K F us ds) : Wk K F (Itl K a) ds := fun i F' H' s s' => by
  have hs : SqL K H' a us := SqL.of (s' _ _ (s _ _ h))
  refine ⟨fun d e => ?_, fun e => ⟨us, hs, by rw [dn.len]; exact Nat.le_of_eq e⟩⟩
  obtain ⟨v, hv, dv⟩ := dn.getD e
  refine ⟨⟨us, v, hs, hv⟩, fun x H'' y => ?_⟩
  obtain ⟨e1, y⟩ := y
  subst e1
  have e2 := y us hs
  rw [hv] at e2
  cases e2
  exact ⟨F', Px.refl s', dv.up s⟩
theorem wk_tup {K : PySem.W.Frag} {F : Hp} {a : Addr} {us : List V} {ds : List D} (h : SqT K F a us) (dn : DnA K F us ds) : Wk K F (Itt K a) ds := fun i F' H' s s' => by
  have hs : SqT K H' a us := sqT_sub s' (sqT_sub s h)
  refine ⟨fun d e => ?_, fun e => ⟨us, hs, by rw [dn.len]; exact Nat.le_of_eq e⟩⟩
  obtain ⟨v, hv, dv⟩ := dn.getD e
  refine ⟨⟨us, v, hs, hv⟩, fun x H'' y => ?_⟩
  obtain ⟨e1, y⟩ := y
  subst e1
  have e2 := y us hs
  rw [hv] at e2
  cases e2
  exact ⟨F', Px.refl s', dv.up s⟩
theorem rngD_get {lo : Int} {m i : Nat} {d : D} (h : (rngD lo m)[i]? = some d) : i < m ∧ d = .int (lo + i) := by
  unfold rngD at h
  rw [List.getElem?_map] at h
  obtain ⟨j, h1, h2⟩ := Option.map_eq_some_iff.mp h
  obtain ⟨h3, h4⟩ := List.getElem?_eq_some_iff.mp h1
  rw [List.length_range] at h3
  rw [List.getElem_range] at h4
  subst h4
  exact ⟨h3, h2.symm⟩
theorem rngD_len (lo : Int) (m : Nat) : (rngD lo m).length = m := by unfold rngD; rw [List.length_map, List.length_range]
theorem wk_rng {K : PySem.W.Frag} {F : Hp} {lo : Int} {m : Nat} : Wk K F (Itr lo m) (rngD lo m) := fun i F' H' s s' => by
  refine ⟨fun d e => ?_, fun e => by rw [rngD_len] at e; exact Nat.le_of_eq e⟩
  obtain ⟨h1, h2⟩ := rngD_get e
  refine ⟨h1, fun x H'' y => ?_⟩
  obtain ⟨e1, e2⟩ := y
  subst e1; subst e2; subst h2
  exact ⟨F', Px.refl s', .int _⟩
theorem enumD_get : ∀ (ds : List D) (k i : Nat), (enumD k ds)[i]? = (ds[i]?).map fun d => .tup [.int ((k + i : Nat) : Int), d]
  | [], k, i => by unfold enumD; simp
  | d :: ds, k, 0 => by unfold enumD; simp
  | d :: ds, k, i + 1 => by
    unfold enumD
    rw [List.getElem?_cons_succ, List.getElem?_cons_succ, enumD_get ds (k + 1) i, show k + 1 + i = k + (i + 1) by omega]
theorem enumD_len : ∀ (ds : List D) (k : Nat), (enumD k ds).length = ds.length
  | [], _ => rfl
  | d :: ds, k => by unfold enumD; rw [List.length_cons, List.length_cons, enumD_len ds]
theorem wk_enum {K : PySem.W.Frag} {F : Hp} {a : Addr} {us : List V} {ds : List D} (h : F a = some (.lst us)) (dn : DnA K F us ds) : Wk K F (Ite K a) (enumD 0 ds) := fun i F' H' s s' => by
  have hs : SqL K H' a us := SqL.of (s' _ _ (s _ _ h))
  refine ⟨fun d e => ?_, fun e => ⟨us, hs, by rw [enumD_len] at e; rw [dn.len]; exact Nat.le_of_eq e⟩⟩
  rw [enumD_get] at e
  obtain ⟨d0, e0, e1⟩ := Option.map_eq_some_iff.mp e
  obtain ⟨v, hv, dv⟩ := dn.getD e0
  refine ⟨⟨us, v, hs, hv⟩, fun x H'' y => ?_⟩
  obtain ⟨T, x', rfl, hT, rfl, y⟩ := y
  have e2 := y us hs
  rw [hv] at e2
  cases e2
  subst e1
  refine ⟨upd F' T (.tup [.int i, v]), Px.add s' hT, .tup (SqT.of upd_same) (.cons ?_ (.cons ((dv.up s).up (Px.add s' hT (o := .tup [.int i, v])).sub) .nil))⟩
  rw [Nat.zero_add]
  exact .int _
theorem wk_enumT {K : PySem.W.Frag} {F : Hp} {a : Addr} {us : List V} {ds : List D} (h : SqT K F a us) (dn : DnA K F us ds) : Wk K F (IteT K a) (enumD 0 ds) := fun i F' H' s s' => by
  have hs : SqT K H' a us := sqT_sub s' (sqT_sub s h)
  refine ⟨fun d e => ?_, fun e => ⟨us, hs, by rw [enumD_len] at e; rw [dn.len]; exact e⟩⟩
  rw [enumD_get] at e
  obtain ⟨d0, e0, e1⟩ := Option.map_eq_some_iff.mp e
  obtain ⟨v, hv, dv⟩ := dn.getD e0
  refine ⟨⟨us, v, hs, hv⟩, fun x H'' y => ?_⟩
  obtain ⟨T, x', rfl, hT, rfl, y⟩ := y
  have e2 := y us hs
  rw [hv] at e2
  cases e2
  subst e1
  refine ⟨upd F' T (.tup [.int i, v]), Px.add s' hT, .tup (SqT.of upd_same) (.cons ?_ (.cons ((dv.up s).up (Px.add s' hT (o := .tup [.int i, v])).sub) .nil))⟩
  rw [Nat.zero_add]
  exact .int _
theorem zipD_get : ∀ (l m : List D) (i : Nat) (d : D), (zipD l m)[i]? = some d → ∃ a b, l[i]? = some a ∧ m[i]? = some b ∧ d = .tup [a, b]
  | [], _, _, _, h => by unfold zipD at h; simp at h
  | _ :: _, [], _, _, h => by unfold zipD at h; simp at h
  | a :: l, b :: m, 0, d, h => by
    unfold zipD at h
    exact ⟨a, b, rfl, rfl, (Option.some.inj h).symm⟩
  | a :: l, b :: m, i + 1, d, h => by
    unfold zipD at h
    exact zipD_get l m i d (by simpa using h)
theorem zipD_len : ∀ l m : List D, (zipD l m).length = min l.length m.length
  | [], _ => by unfold zipD; simp
  | _ :: _, [] => by unfold zipD; simp
  | a :: l, b :: m => by unfold zipD; rw [List.length_cons, zipD_len l m, List.length_cons, List.length_cons]; omega
theorem wk_zipL {K : PySem.W.Frag} {F : Hp} {a b : Addr} {us vs : List V} {ds es : List D} (h : F a = some (.lst us)) (dn : DnA K F us ds) (h2 : F b = some (.lst vs)) (dn2 : DnA K F vs es) : Wk K F (Itz K a b) (zipD ds es) := fun i F' H' s s' => by
  have hs : SqL K H' a us := SqL.of (s' _ _ (s _ _ h))
  have hs2 : SqL K H' b vs := SqL.of (s' _ _ (s _ _ h2))
  refine ⟨fun d e => ?_, fun e => ⟨us, vs, hs, hs2, by rw [zipD_len] at e; rw [dn.len, dn2.len]; omega⟩⟩
  obtain ⟨d1, d2, e1, e2, rfl⟩ := zipD_get ds es i d e
  obtain ⟨v, hv, dv⟩ := dn.getD e1
  obtain ⟨v2, hv2, dv2⟩ := dn2.getD e2
  refine ⟨⟨us, vs, v, v2, hs, hs2, hv, hv2⟩, fun x H'' y => ?_⟩
  obtain ⟨T, x1, x2, rfl, hT, rfl, y1, y2⟩ := y
  have q1 := y1 us hs
  have q2 := y2 vs hs2
  rw [hv] at q1; rw [hv2] at q2
  cases q1; cases q2
  have up := (Px.add s' hT (o := .tup [v, v2])).sub
  exact ⟨upd F' T (.tup [v, v2]), Px.add s' hT, .tup (SqT.of upd_same) (.cons ((dv.up s).up up) (.cons ((dv2.up s).up up) .nil))⟩
theorem wk_zipT {K : PySem.W.Frag} {F : Hp} {a b : Addr} {us vs : List V} {ds es : List D} (h : SqT K F a us) (dn : DnA K F us ds) (h2 : SqT K F b vs) (dn2 : DnA K F vs es) : Wk K F (RZ.ItzT K a b) (zipD ds es) := fun i F' H' s s' => by
  have hs : SqT K H' a us := sqT_sub s' (sqT_sub s h)
  have hs2 : SqT K H' b vs := sqT_sub s' (sqT_sub s h2)
  refine ⟨fun d e => ?_, fun e => ⟨us, vs, hs, hs2, by rw [zipD_len] at e; rw [dn.len, dn2.len]; omega⟩⟩
  obtain ⟨d1, d2, e1, e2, rfl⟩ := zipD_get ds es i d e
  obtain ⟨v, hv, dv⟩ := dn.getD e1
  obtain ⟨v2, hv2, dv2⟩ := dn2.getD e2
  refine ⟨⟨us, vs, v, v2, hs, hs2, hv, hv2⟩, fun x H'' y => ?_⟩
  obtain ⟨T, x1, x2, rfl, hT, rfl, y1, y2⟩ := y
  have q1 := y1 us hs
  have q2 := y2 vs hs2
  rw [hv] at q1; rw [hv2] at q2
  cases q1; cases q2
  have up := (Px.add s' hT (o := .tup [v, v2])).sub
  exact ⟨upd F' T (.tup [v, v2]), Px.add s' hT, .tup (SqT.of upd_same) (.cons ((dv.up s).up up) (.cons ((dv2.up s).up up) .nil))⟩
/-- the reading of a walked thing -/
def ResI (C : Cg) (σ : St) (F H : Hp) (en : En) (k : Ik) (r : R (List D × En)) (R : L2.It → Hp → Prop) : Prop := match r with
  | .ok p => ∃ xs, items k p.1 = some xs ∧ ∀ J F1 H1, Go σ F H en F1 H1 p.2 → Ok C.B C.K F1 H1 σ p.2 → Wk C.K F1 J xs → R J H1
  | .ex c l => Wish C σ F c l
  | .bad => False
def tI (C : Cg) (n : Nat) (k : Ik) (l : List E) : TI := fun σ H R => ∃ F en, Ok C.B C.K F H σ en ∧ ResI C σ F H en k (evList (evE C.T n) l en) R
theorem ResI.run {σ : St} {F H : Hp} {en : En} {k : Ik} {l : List E} {R : L2.It → Hp → Prop} {Q : List V → Hp → Prop} (ok : Ok C.B C.K F H σ en) (h : ResI C σ F H en k (evList (evE C.T n) l en) R)
    (q : ∀ ds xs en1 vs F1 H1, evList (evE C.T n) l en = .ok (ds, en1) → items k ds = some xs → Go σ F H en F1 H1 en1 → Ok C.B C.K F1 H1 σ en1 → DnA C.K F1 vs ds → (∀ J, Wk C.K F1 J xs → R J H1) → Q vs H1) : tLs C n l σ H Q := by
  refine list_run l ok ?_
  cases r : evList (evE C.T n) l en with
  | bad => rw [r] at h; exact h
  | ex c l => rw [r] at h; exact h
  | ok p =>
    rw [r] at h
    obtain ⟨xs, e, h⟩ := h
    intro vs F1 H1 g k1 dn
    exact q p.1 xs p.2 vs F1 H1 r e g k1 dn fun J w => h J F1 H1 g k1 w
theorem pi_stuck {tg a : Expr} {l : List E} {σ : St} {F H : Hp} {en : En} {k : Ik} {R : L2.It → Hp → Prop} : True := trivial
theorem items1 {k : Ik} (hk : k = .seq ∨ k = .enum) {ds : List D} {xs : List D} (h : items k ds = some xs) : ∃ d, ds = [d] := by
  match ds with
  | [] => rcases hk with rfl | rfl <;> cases h
  | [d] => exact ⟨d, rfl⟩
  | a :: b :: _ => rcases hk with rfl | rfl <;> (cases a <;> cases h)
/-- over a sequence: what it is hangs on the value -/
theorem pi_seqE {tg a : Expr} {c : E} (h : PE X a (tE C n c)) (G : Gd C X N sc) : PI X tg a (tI C n .seq [c]) := by
  refine ⟨fun pins s σ H R I h0 => ?_⟩
  obtain ⟨F, en, ok, hr⟩ := h0
  have stuck : (∀ ds en1, evList (evE C.T n) [c] en = .ok (ds, en1) → False) → PIE X pins σ tg R = PIE X pins σ tg R := fun _ => rfl
  cases r : evList (evE C.T n) [c] en with
  | bad => rw [r] at hr; exact hr.elim
  | ex cc l =>
    refine (pi_list h).run pins s σ H R I ?_
    have q : tLs C n [c] σ H fun vs H1 => False := list_run [c] ok (by rw [r] at hr ⊢; exact hr)
    have q : tE C n c σ H fun x H1 => False := q
    obtain ⟨F2, en2, ok2, q⟩ := q
    refine ⟨F2, en2, ok2, ?_⟩
    cases r2 : evE C.T n c en2 with
    | bad => rw [r2] at q; exact q
    | ex c l => rw [r2] at q; exact q
    | ok p => rw [r2] at q; exact fun v F' H' g k dn => (q v F' H' g k dn).elim
  | ok p =>
    have hr2 := hr
    rw [r] at hr2
    obtain ⟨xs, e, _⟩ := hr2
    obtain ⟨d, e1⟩ := items1 (.inl rfl) e
    have run : ∀ Q : List V → Hp → Prop, (∀ v F1 H1, Go σ F H en F1 H1 p.2 → Ok C.B C.K F1 H1 σ p.2 → Dn C.K F1 v d → (∀ J, Wk C.K F1 J xs → R J H1) → Q [v] H1) → tLs C n [c] σ H Q := fun Q q => by
      refine hr.run ok fun ds xs' en1 vs F1 H1 e2 e3 g k1 dn w => ?_
      rw [r] at e2
      cases e2
      have e1 : ds = [d] := e1
      subst e1
      rw [e] at e3
      cases e3
      cases dn with
      | cons d1 t =>
        cases t
        exact q _ F1 H1 g k1 d1 w
    rw [e1] at e
    cases d with
    | lst l =>
      cases e
      refine (pi_list h).run pins s σ H R I ?_
      have z := run (fun vs H1 => ∀ x, vs = [x] → ∃ a, x = .ref a ∧ (∃ xs, SqL X.K H1 a xs) ∧ R (Itl X.K a) H1) fun v F1 H1 g k1 dn w x ex => by
        cases ex
        cases dn with
        | lst h1 h2 =>
          refine ⟨_, rfl, ⟨_, SqL.of (k1.sub _ _ h1)⟩, ?_⟩
          rw [G.hK]
          exact w _ (wk_list h1 h2)
      have z : tE C n c σ H fun x H1 => ∀ y, [x] = [y] → ∃ a, y = .ref a ∧ (∃ xs, SqL X.K H1 a xs) ∧ R (Itl X.K a) H1 := z
      obtain ⟨F2, en2, ok2, q⟩ := z
      refine ⟨F2, en2, ok2, ?_⟩
      cases r2 : evE C.T n c en2 with
      | bad => rw [r2] at q; exact q
      | ex c l => rw [r2] at q; exact q
      | ok p => rw [r2] at q; exact fun v F' H' g k dn => q v F' H' g k dn v rfl
    | tup l =>
      cases e
      refine (pi_tup h).run pins s σ H R I ?_
      have z := run (fun vs H1 => ∀ x, vs = [x] → ∃ a, x = .ref a ∧ (∃ xs, SqT X.K H1 a xs) ∧ R (Itt X.K a) H1) fun v F1 H1 g k1 dn w x ex => by
        cases ex
        cases dn with
        | tup h1 h2 =>
          refine ⟨_, rfl, ⟨_, by rw [G.hK]; exact sqT_sub k1.sub h1⟩, ?_⟩
          rw [G.hK]
          exact w _ (wk_tup h1 h2)
      have z : tE C n c σ H fun x H1 => ∀ y, [x] = [y] → ∃ a, y = .ref a ∧ (∃ xs, SqT X.K H1 a xs) ∧ R (Itt X.K a) H1 := z
      obtain ⟨F2, en2, ok2, q⟩ := z
      refine ⟨F2, en2, ok2, ?_⟩
      cases r2 : evE C.T n c en2 with
      | bad => rw [r2] at q; exact q
      | ex c l => rw [r2] at q; exact q
      | ok p => rw [r2] at q; exact fun v F' H' g k dn => q v F' H' g k dn v rfl
    | non => cases e
    | bl _ => cases e
    | int _ => cases e
    | str _ => cases e
    | dic _ => cases e
    | exc _ _ => cases e
    | scr _ => cases e
theorem star1 {df : Str → List D} {e : Expr} : ∀ {l : List E}, matL (matE n df N sc) l [e] = true → ∀ env, starEach [e] env = [(false, eval e env)]
  | [], h, _ => by cases h
  | [c], h, env => (ev_ok (and2 h).1).1 _ _
  | c :: _ :: _, h, _ => by
    have h := (and2 h).2
    cases h
theorem star2 {df : Str → List D} {e e2 : Expr} : ∀ {l : List E}, matL (matE n df N sc) l [e, e2] = true → ∀ env, starEach [e, e2] env = [(false, eval e env), (false, eval e2 env)] ∧ starEach [e2] env = [(false, eval e2 env)]
  | [], h, _ => by cases h
  | c :: l, h, env => by
    have h1 := and2 h
    have q := star1 h1.2 env
    exact ⟨by rw [(ev_ok h1.1).1 env [e2], q], q⟩
theorem mem_blts {x : Str} (G : Gd C X N sc) (h : x ∈ blts) : X.mg x = none := G.blt x h
theorem pi_rngE {tg e : Expr} {l : List E} {x : Str} {p pos : Pos} {df : Str → List D} (G : Gd C X N sc) (ih : Sx C X n df N sc) (hx : x = "range") (hg : glbB sc x = true) (h : matL (matE n df N sc) l [e] = true) : PI X tg (.Call (.Name x p) [e] [] pos) (tI C n .rng1 l) := by
  subst hx
  refine ⟨fun pins s σ H R I ⟨F, en, ok, hr⟩ => ?_⟩
  have st := star1 h X.env
  refine (pi_range1 (glb_of G.hs hg) (G.blt _ (by decide)) (pa_L ih h) st).run pins s σ H R I ?_
  refine hr.run ok fun ds xs en1 vs F1 H1 e2 e3 g k1 dn w => ?_
  match ds, e3, dn with
  | [.int m], e3, .cons d1 .nil =>
    cases d1
    have e3 : (if -(2 ^ 62) ≤ m ∧ m < 2 ^ 62 then some (rngD 0 m.toNat) else none) = some xs := e3
    split at e3
    · rename_i hb
      cases e3
      exact ⟨m, rfl, hb.1, hb.2, w _ wk_rng⟩
    · cases e3
theorem pi_rng2E {tg e e2 : Expr} {l : List E} {x : Str} {p pos : Pos} {df : Str → List D} (G : Gd C X N sc) (ih : Sx C X n df N sc) (hx : x = "range") (hg : glbB sc x = true) (h : matL (matE n df N sc) l [e, e2] = true) : PI X tg (.Call (.Name x p) [e, e2] [] pos) (tI C n .rng2 l) := by
  subst hx
  refine ⟨fun pins s σ H R I ⟨F, en, ok, hr⟩ => ?_⟩
  have st := star2 h X.env
  refine (pi_range2 (glb_of G.hs hg) (G.blt _ (by decide)) (pa_L ih h) st.1 st.2).run pins s σ H R I ?_
  refine hr.run ok fun ds xs en1 vs F1 H1 e2 e3 g k1 dn w => ?_
  match ds, e3, dn with
  | [.int i, .int m], e3, .cons d1 (.cons d2 .nil) =>
    cases d1
    cases d2
    have e3 : (if -(2 ^ 62) ≤ i ∧ i < 2 ^ 62 ∧ -(2 ^ 62) ≤ m ∧ m < 2 ^ 62 then some (rngD i (m - i).toNat) else none) = some xs := e3
    split at e3
    · rename_i hb
      cases e3
      exact ⟨i, m, rfl, hb, w _ wk_rng⟩
    · cases e3
theorem pi_enumE {e : Expr} {elts : List Expr} {kk : Nat} {tpos : Pos} {l : List E} {x : Str} {p pos : Pos} {df : Str → List D} (G : Gd C X N sc) (ih : Sx C X n df N sc) (hx : x = "enumerate") (hg : glbB sc x = true) (h : matL (matE n df N sc) l [e] = true) :
    PI X (.Tuple elts kk tpos) (.Call (.Name x p) [e] [] pos) (tI C n .enum l) := by
  subst hx
  refine ⟨fun pins s σ H R I ⟨F, en, ok, hr⟩ => ?_⟩
  have st := star1 h X.env
  refine (pi_enT (glb_of G.hs hg) (G.blt _ (by decide)) (pa_L ih h) st).run pins s σ H R I ?_
  refine hr.run ok fun ds xs en1 vs F1 H1 e2 e3 g k1 dn w => ?_
  match ds, e3, dn with
  | [.lst l], e3, .cons d1 .nil =>
    cases e3
    cases d1 with
    | lst h1 h2 =>
      refine ⟨_, _, rfl, .inl ⟨SqL.of (k1.sub _ _ h1), ?_⟩⟩
      rw [G.hK]
      exact w _ (wk_enum h1 h2)
  | [.tup l], e3, .cons d1 .nil =>
    cases e3
    cases d1 with
    | tup h1 h2 =>
      refine ⟨_, _, rfl, .inr ⟨by rw [G.hK]; exact sqT_sub k1.sub h1, ?_⟩⟩
      rw [G.hK]
      exact w _ (wk_enumT h1 h2)
theorem pi_zipE {e e2 : Expr} {elts : List Expr} {kk : Nat} {tpos : Pos} {l : List E} {x : Str} {p pos : Pos} {df : Str → List D} (G : Gd C X N sc) (ih : Sx C X n df N sc) (hx : x = "zip") (hg : glbB sc x = true) (h : matL (matE n df N sc) l [e, e2] = true) :
    PI X (.Tuple elts kk tpos) (.Call (.Name x p) [e, e2] [] pos) (tI C n .zip l) := by
  subst hx
  refine ⟨fun pins s σ H R I ⟨F, en, ok, hr⟩ => ?_⟩
  have st0 := star2 h X.env
  have st : starEach [e, e2] X.env = (false, eval e X.env) :: starEach [e2] X.env ∧ (backTo pos (starEach [e2] X.env)).any (·.1) = false := ⟨by rw [st0.2]; exact st0.1, by rw [st0.2]; rfl⟩
  refine (RZ.pi_zipA (glb_of G.hs hg) (G.blt _ (by decide)) (pa_L ih h) st.1 st.2).run pins s σ H R I ?_
  refine hr.run ok fun ds xs en1 vs F1 H1 e2 e3 g k1 dn w => ?_
  match ds, e3, dn with
  | [.lst l, .lst m], e3, .cons d1 (.cons d2 .nil) =>
    cases e3
    cases d1 with
    | lst h1 h2 =>
      cases d2 with
      | lst h3 h4 =>
        refine ⟨_, _, _, _, rfl, .inl ⟨SqL.of (k1.sub _ _ h1), SqL.of (k1.sub _ _ h3), ?_⟩⟩
        rw [G.hK]
        exact w _ (wk_zipL h1 h2 h3 h4)
  | [.tup l, .tup m], e3, .cons d1 (.cons d2 .nil) =>
    cases e3
    cases d1 with
    | tup h1 h2 =>
      cases d2 with
      | tup h3 h4 =>
        refine ⟨_, _, _, _, rfl, .inr ⟨by rw [G.hK]; exact sqT_sub k1.sub h1, by rw [G.hK]; exact sqT_sub k1.sub h3, ?_⟩⟩
        rw [G.hK]
        exact w _ (wk_zipT h1 h2 h3 h4)
theorem matL_len {f : E → Expr → Bool} : ∀ {l : List E} {es : List Expr}, matL f l es = true → l.length = es.length
  | [], [], _ => rfl
  | c :: cs, a :: as, h => by rw [List.length_cons, List.length_cons, matL_len (and2 h).2]
  | [], _ :: _, h => by cases h
  | _ :: _, [], h => by cases h
theorem pi_E {tg : Tg} {ta a : Expr} {k : Ik} {l : List E} {df : Str → List D} {sc2 : Scope} (G : Gd C X N sc) (ih : Sx C X n df N sc) (h : matI (matE n df N sc) sc tg k l a = true) (ht : matT N sc2 tg ta = true) : PI X ta a (tI C n k l) := by
  have tupA : tupT tg = true → ∃ es kk p, ta = .Tuple es kk p := fun z => by
    cases tg with
    | n i => cases z
    | t is =>
      cases ta <;> first
        | exact ⟨_, _, _, rfl⟩
        | cases ht
  unfold matI at h
  split at h
  · exact pi_seqE (ih _ _ h).1 G
  · split at h
    · rename_i x p es pos
      obtain ⟨h0, h4⟩ := and2 h
      obtain ⟨h00, h3⟩ := and2 h0
      obtain ⟨h1, h2⟩ := and2 h00
      have l1 := of_decide_eq_true h3
      match es, l1 with
      | [e], _ => exact pi_rngE G ih (of_decide_eq_true h1) h2 h4
    · cases h
  · split at h
    · rename_i x p es pos
      obtain ⟨h0, h4⟩ := and2 h
      obtain ⟨h00, h3⟩ := and2 h0
      obtain ⟨h1, h2⟩ := and2 h00
      have l1 := of_decide_eq_true h3
      match es, l1 with
      | [e, e2], _ => exact pi_rng2E G ih (of_decide_eq_true h1) h2 h4
    · cases h
  · split at h
    · rename_i x p es pos
      obtain ⟨h0, h5⟩ := and2 h
      obtain ⟨h00, h4⟩ := and2 h0
      obtain ⟨h000, h3⟩ := and2 h00
      obtain ⟨h1, h2⟩ := and2 h000
      obtain ⟨es', kk, tp, rfl⟩ := tupA h4
      have l1 := of_decide_eq_true h3
      match es, l1 with
      | [e], _ => exact pi_enumE G ih (of_decide_eq_true h1) h2 h5
    · cases h
  · split at h
    · rename_i x p es pos
      obtain ⟨h0, h5⟩ := and2 h
      obtain ⟨h00, h4⟩ := and2 h0
      obtain ⟨h000, h3⟩ := and2 h00
      obtain ⟨h1, h2⟩ := and2 h000
      obtain ⟨es', kk, tp, rfl⟩ := tupA h4
      have l1 := of_decide_eq_true h3
      match es, l1 with
      | [e, e2], _ => exact pi_zipE G ih (of_decide_eq_true h1) h2 h5
    · cases h
  · cases h
end
end Vm
end
section
set_option Elab.async false
set_option linter.all false
set_option maxRecDepth 100000
namespace Vm
open PySem PySem.Spec L2
/-! ### targets, and slots put aside -/
/-- the same outside the slots vs, which hold no own list -/
structure Sd (vs : List Nat) (σ σ2 : St) (en en2 : En) : Prop where
  len : en2.length = en.length
  slen : σ2.length = σ.length
  out : ∀ i, i ∉ vs → en2[i]? = en[i]? ∧ σ2[i]? = σ[i]?
  inn : ∀ i, i ∈ vs → ownAt en i = none ∧ ownAt en2 i = none
theorem Sd.trans {vs : List Nat} {σ σ1 σ2 : St} {e e1 e2 : En} (a : Sd vs σ σ1 e e1) (b : Sd vs σ1 σ2 e1 e2) : Sd vs σ σ2 e e2 :=
  ⟨b.len.trans a.len, b.slen.trans a.slen, fun i h => ⟨(b.out i h).1.trans (a.out i h).1, (b.out i h).2.trans (a.out i h).2⟩, fun i h => ⟨(a.inn i h).1, (b.inn i h).2⟩⟩
theorem wipeE_get (e : En) : ∀ (vs : List Nat) (i : Nat), (wipeE e vs)[i]? = if i ∈ vs then (e[i]?).map (fun _ => Slot.no) else e[i]?
  | [], i => by simp [wipeE]
  | v :: vs, i => by
    unfold wipeE
    by_cases h : v = i
    · subst h
      rw [List.getElem?_set, if_pos rfl, if_pos List.mem_cons_self]
      have q := wipeE_get e vs v
      have len : (wipeE e vs).length = e.length := by
        have : ∀ vs : List Nat, (wipeE e vs).length = e.length := fun vs => by
          induction vs with
          | nil => rfl
          | cons a as ih => unfold wipeE; rw [List.length_set, ih]
        exact this vs
      rw [len]
      by_cases lt : v < e.length
      · rw [if_pos lt, List.getElem?_eq_getElem lt]; rfl
      · rw [if_neg lt, List.getElem?_eq_none (by omega)]; rfl
    · rw [List.getElem?_set_ne h, wipeE_get e vs i]
      simp [List.mem_cons, Ne.symm h]
theorem wipeE_len (e : En) : ∀ vs : List Nat, (wipeE e vs).length = e.length
  | [] => rfl
  | v :: vs => by unfold wipeE; rw [List.length_set, wipeE_len e vs]
theorem restE_len (f e : En) : ∀ vs : List Nat, (restE f vs e).length = e.length
  | [] => rfl
  | v :: vs => by unfold restE; rw [List.length_set, restE_len f e vs]
theorem restE_get (f e : En) : ∀ (vs : List Nat) (i : Nat), (restE f vs e)[i]? = if i ∈ vs then (e[i]?).map (fun _ => f[i]?.getD .no) else e[i]?
  | [], i => by simp [restE]
  | v :: vs, i => by
    unfold restE
    by_cases h : v = i
    · subst h
      rw [List.getElem?_set, if_pos rfl, if_pos List.mem_cons_self, restE_len]
      by_cases lt : v < e.length
      · rw [if_pos lt, List.getElem?_eq_getElem (l := e) lt]; rfl
      · rw [if_neg lt, List.getElem?_eq_none (l := e) (by omega)]; rfl
    · rw [List.getElem?_set_ne h, restE_get f e vs i]
      simp [List.mem_cons, Ne.symm h]
theorem wipe_get (σ : St) : ∀ (vs : List Nat) (i : Nat), (L2.wipe σ vs)[i]? = if i ∈ vs then (σ[i]?).map (fun _ => none) else σ[i]?
  | [], i => by simp [L2.wipe]
  | v :: vs, i => by
    unfold L2.wipe
    by_cases h : v = i
    · subst h
      rw [List.getElem?_set, if_pos rfl, if_pos List.mem_cons_self, wipe_length]
      by_cases lt : v < σ.length
      · rw [if_pos lt, List.getElem?_eq_getElem lt]; rfl
      · rw [if_neg lt, List.getElem?_eq_none (by omega)]; rfl
    · rw [List.getElem?_set_ne h, wipe_get σ vs i]
      simp [List.mem_cons, Ne.symm h]
theorem noOwn_of {en : En} : ∀ {vs : List Nat}, noOwn en vs = true → ∀ i ∈ vs, ownAt en i = none
  | v :: vs, h, i, hi => by
    unfold noOwn at h
    obtain ⟨h1, h2⟩ := and2 h
    rcases List.mem_cons.mp hi with e | e
    · subst e
      unfold ownAt
      split
      · rename_i l q; rw [q] at h1; cases h1
      · rfl
    · exact noOwn_of h2 i e
theorem own_no {en : En} {i : Nat} (h : ownAt en i = none) {l : List D} (e : en[i]? = some (.own l)) : False := by
  rw [ownAt_some.mpr e] at h; cases h
section
variable {B : Bs} {K : PySem.W.Frag} {F H : Hp} {σ : St} {en : En}
theorem sd_wipe {vs : List Nat} (h : ∀ i ∈ vs, ownAt en i = none) : Sd vs σ (L2.wipe σ vs) en (wipeE en vs) :=
  ⟨wipeE_len en vs, wipe_length σ vs, fun i hi => ⟨by rw [wipeE_get, if_neg hi], by rw [wipe_get, if_neg hi]⟩, fun i hi => ⟨h i hi, by
    unfold ownAt
    split
    · rename_i l q
      rw [wipeE_get, if_pos hi] at q
      cases z : en[i]? with
      | none => rw [z] at q; cases q
      | some _ => rw [z] at q; cases q
    · rfl⟩⟩
theorem sd_set {vs : List Nat} {i : Nat} {v : V} {d : D} (hi : i ∈ vs) (h : ∀ j ∈ vs, ownAt en j = none) : Sd vs σ (σ.set i (some v)) en (en.set i (.val d)) :=
  ⟨List.length_set, List.length_set, fun j hj => by
    have ne : i ≠ j := fun e => hj (e ▸ hi)
    exact ⟨List.getElem?_set_ne ne, List.getElem?_set_ne ne⟩, fun j hj => ⟨h j hj, by
    unfold ownAt
    split
    · rename_i l q
      by_cases e : i = j
      · subst e
        rw [List.getElem?_set, if_pos rfl] at q
        split at q <;> cases q
      · rw [List.getElem?_set_ne e] at q
        exact (own_no (h j hj) q).elim
    · rfl⟩⟩
/-- an Ok state by another one that it agrees with outside vs -/
theorem Ok.side {vs : List Nat} {σ2 : St} {en2 : En} (k : Ok B K F H σ en) (s : Sd vs σ σ2 en en2) (hv : ∀ i ∈ vs, ∀ d, en2[i]? = some (.val d) → ∃ v, σ2[i]? = some (some v) ∧ Dn K F v d) : Ok B K F H σ2 en2 where
  len := by rw [s.len, s.slen, k.len]
  val := fun i d h => by
    by_cases hi : i ∈ vs
    · exact hv i hi d h
    · rw [(s.out i hi).1] at h
      rw [(s.out i hi).2]
      exact k.val i d h
  own := fun i l h => by
    by_cases hi : i ∈ vs
    · exact (own_no (s.inn i hi).2 h).elim
    · rw [(s.out i hi).1] at h
      rw [(s.out i hi).2]
      exact k.own i l h
  inj := fun i j l m p h1 h2 h3 h4 => by
    by_cases hi : i ∈ vs
    · exact (own_no (s.inn i hi).2 h1).elim
    · by_cases hj : j ∈ vs
      · exact (own_no (s.inn j hj).2 h2).elim
      · rw [(s.out i hi).1] at h1
        rw [(s.out i hi).2] at h3
        rw [(s.out j hj).1] at h2
        rw [(s.out j hj).2] at h4
        exact k.inj i j l m p h1 h2 h3 h4
  sub := k.sub
  bsub := k.bsub
  bnew := k.bnew
  bkeep := k.bkeep
  bdom := k.bdom
  pin := fun i p h => by
    have q := k.pin i p h
    have hi : i ∉ vs := fun hi => q.2 (s.inn i hi).1
    refine ⟨by rw [(s.out i hi).2]; exact q.1, ?_⟩
    have e : ownAt en2 i = ownAt en i := by unfold ownAt; rw [(s.out i hi).1]
    rw [e]; exact q.2
theorem Ok.wiped {vs : List Nat} (k : Ok B K F H σ en) (h : ∀ i ∈ vs, ownAt en i = none) : Ok B K F H (L2.wipe σ vs) (wipeE en vs) :=
  k.side (sd_wipe h) fun i hi d e => by
    rw [wipeE_get, if_pos hi] at e
    cases z : en[i]? with
    | none => rw [z] at e; cases e
    | some _ => rw [z] at e; cases e
theorem Ok.set {i : Nat} {v : V} {d : D} (k : Ok B K F H σ en) (h : ownAt en i = none) (dn : Dn K F v d) : Ok B K F H (σ.set i (some v)) (en.set i (.val d)) :=
  k.side (vs := [i]) (sd_set List.mem_cons_self fun j hj => by rw [List.mem_singleton.mp hj]; exact h) fun j hj e he => by
    have z := List.mem_singleton.mp hj
    subst z
    rw [List.getElem?_set, if_pos rfl] at he
    split at he
    · rename_i lt
      cases he
      exact ⟨v, by rw [List.getElem?_set_self (by rw [← k.len]; exact lt)], dn⟩
    · cases he
/-- behind a turn: the slots vs as they were -/
theorem side_back {vs : List Nat} {σ2 : St} {e2 e4 : En} {F4 H4 : Hp} (k : Ok B K F H σ en) (s : Sd vs σ σ2 en e2) (g : Go σ2 F H e2 F4 H4 e4) (k4 : Ok B K F4 H4 σ2 e4) :
    Go σ F H en F4 H4 (restE en vs e4) ∧ Ok B K F4 H4 σ (restE en vs e4) ∧ wipeE (restE en vs e4) vs = wipeE e4 vs := by
  have len4 : e4.length = en.length := g.len.trans s.len
  have rin : ∀ i ∈ vs, (restE en vs e4)[i]? = en[i]? := fun i hi => by
    rw [restE_get, if_pos hi]
    by_cases lt : i < en.length
    · rw [List.getElem?_eq_getElem (l := e4) (by rw [len4]; exact lt), List.getElem?_eq_getElem (l := en) lt]; rfl
    · rw [List.getElem?_eq_none (l := e4) (by rw [len4]; omega), List.getElem?_eq_none (l := en) (by omega)]; rfl
  have rout : ∀ i, i ∉ vs → (restE en vs e4)[i]? = e4[i]? := fun i hi => by rw [restE_get, if_neg hi]
  have own4 : ∀ i ∈ vs, ownAt e4 i = none := fun i hi => by
    have q := g.vals i (s.inn i hi).2
    have z := (s.inn i hi).2
    unfold ownAt at z ⊢
    rw [q]; exact z
  have ownr : ∀ i ∈ vs, ownAt (restE en vs e4) i = none := fun i hi => by
    have z := (s.inn i hi).1
    unfold ownAt at z ⊢
    rw [rin i hi]; exact z
  have owns_eq : ∀ a, Own σ2 e2 a → Own σ en a := fun a ⟨i, l, h1, h2⟩ => by
    by_cases hi : i ∈ vs
    · exact (own_no (s.inn i hi).2 h1).elim
    · exact ⟨i, l, by rw [← (s.out i hi).1]; exact h1, by rw [← (s.out i hi).2]; exact h2⟩
  have sd : Sd vs σ2 σ e4 (restE en vs e4) := ⟨by rw [restE_len], s.slen.symm, fun i hi => ⟨rout i hi, (s.out i hi).2.symm⟩, fun i hi => ⟨own4 i hi, ownr i hi⟩⟩
  refine ⟨⟨g.sub, g.new, fun a o h h' => g.keep a o h fun z => h' (owns_eq a z), g.dom, fun i hi => ?_, fun i hi => ?_, by rw [restE_len]; exact len4⟩, k4.side sd fun i hi d e => ?_, ?_⟩
  · by_cases m : i ∈ vs
    · exact rin i m
    · rw [rout i m]
      have z : ownAt e2 i = none := by unfold ownAt at hi ⊢; rw [(s.out i m).1]; exact hi
      rw [g.vals i z, (s.out i m).1]
  · by_cases m : i ∈ vs
    · exact absurd (s.inn i m).1 hi
    · have z : ownAt e2 i ≠ none := by unfold ownAt at hi ⊢; rw [(s.out i m).1]; exact hi
      have z2 := g.owns i z
      unfold ownAt at z2 ⊢
      rw [rout i m]; exact z2
  · rw [rin i hi] at e
    obtain ⟨v, e1, e2'⟩ := k.val i d e
    exact ⟨v, e1, e2'.up g.sub⟩
  · apply List.ext_getElem?
    intro i
    rw [wipeE_get, wipeE_get]
    by_cases m : i ∈ vs
    · rw [if_pos m, if_pos m, restE_get, if_pos m]
      cases e4[i]? <;> rfl
    · rw [if_neg m, if_neg m, rout i m]
theorem rest_wipe {vs : List Nat} {e e1 : En} (hl : e.length = e1.length) (h : ∀ i ∈ vs, e[i]? = e1[i]?) : restE e1 vs (wipeE e vs) = e := by
  apply List.ext_getElem?
  intro i
  rw [restE_get]
  by_cases m : i ∈ vs
  · rw [if_pos m, wipeE_get, if_pos m, h i m]
    cases e1[i]? <;> rfl
  · rw [if_neg m, wipeE_get, if_neg m]
theorem wipe_set {vs : List Nat} {σ2 : St} (hl : σ2.length = σ.length) (h : ∀ i, i ∉ vs → σ2[i]? = σ[i]?) : L2.wipe σ2 vs = L2.wipe σ vs := by
  apply List.ext_getElem?
  intro i
  rw [wipe_get, wipe_get]
  by_cases m : i ∈ vs
  · rw [if_pos m, if_pos m]
    by_cases lt : i < σ.length
    · rw [List.getElem?_eq_getElem lt, List.getElem?_eq_getElem (by rw [hl]; exact lt)]; rfl
    · rw [List.getElem?_eq_none (show σ2.length ≤ i by omega), List.getElem?_eq_none (show σ.length ≤ i by omega)]
  · rw [if_neg m, if_neg m, h i m]
end
/-! targets -/
def gTs : List Nat → TGs
  | [] => gNil
  | i :: is => gCons (gName i) (gTs is)
def gT (K : PySem.W.Frag) : Tg → TG
  | .n i => gName i
  | .t is => gTup K is.length (gTs is)
def tgS : Tg → List Nat
  | .n i => [i]
  | .t is => is
section
variable {X : Cx} {N : List Str} {sc : Scope}
theorem pg_nameE {i : Nat} {a : Expr} (hN : X.N = N) (nd : X.N.Nodup) (hl : ∀ x, locB sc x = true → L2.Loc X.env.scope x ∧ (X.fn x = true ∨ X.env.scope.names.lookup x = some .local)) (h : nameB N sc i a = true) : PG X a (gName i) := by
  unfold nameB at h
  split at h
  · obtain ⟨h1, h2⟩ := and2 h
    obtain ⟨q1, q2⟩ := hl _ h2
    exact pg_name nd (by rw [hN]; exact of_decide_eq_true h1) q1 q2
  · cases h
theorem pgs_E (hN : X.N = N) (nd : X.N.Nodup) (hl : ∀ x, locB sc x = true → L2.Loc X.env.scope x ∧ (X.fn x = true ∨ X.env.scope.names.lookup x = some .local)) : ∀ {is : List Nat} {as : List Expr}, namesB N sc is as = true →
    PGs X as (gTs is) ∧ assignEach as X.env = as.map fun a => (false, assign a X.env)
  | [], [], _ => ⟨pgs_nil, rfl⟩
  | i :: is, a :: as, h => by
    obtain ⟨h1, h2⟩ := and2 h
    obtain ⟨q1, q2⟩ := pgs_E hN nd hl h2
    have e : assignEach (a :: as) X.env = (false, assign a X.env) :: assignEach as X.env := by
      unfold nameB at h1
      split at h1
      · rfl
      · cases h1
    refine ⟨pgs_cons (pg_nameE hN nd hl h1) q1 (by rw [e]; rfl), by rw [e, q2]; rfl⟩
  | [], _ :: _, h => by cases h
  | _ :: _, [], h => by cases h
theorem namesB_len : ∀ {is : List Nat} {as : List Expr}, namesB N sc is as = true → as.length = is.length
  | [], [], _ => rfl
  | i :: is, a :: as, h => by rw [List.length_cons, List.length_cons, namesB_len (and2 h).2]
  | [], _ :: _, h => by cases h
  | _ :: _, [], h => by cases h
theorem pg_T {tg : Tg} {a : Expr} (hN : X.N = N) (nd : X.N.Nodup) (hc : X.calm = true) (hl : ∀ x, locB sc x = true → L2.Loc X.env.scope x ∧ (X.fn x = true ∨ X.env.scope.names.lookup x = some .local)) (h : matT N sc tg a = true) : PG X a (gT X.K tg) := by
  cases tg with
  | n i => exact pg_nameE hN nd hl h
  | t is =>
    cases a <;> first | cases h | skip
    rename_i es kk pos
    have h : namesB N sc is es = true := h
    obtain ⟨q1, q2⟩ := pgs_E hN nd hl h
    refine pg_tup hc q1 (by rw [q2, List.length_map, namesB_len h]) ?_
    rw [q2]
    have : ∀ es : List Expr, List.findIdx? (fun (x : Bool × (Value → Sem Unit)) => x.1) (es.map fun a => (false, assign a X.env)) = none := fun es => by
      induction es with
      | nil => rfl
      | cons a as ih => rw [List.map_cons, List.findIdx?_cons]; simp [ih]
    exact this es
theorem setMany_run {B : Bs} {K : PySem.W.Frag} {F H : Hp} {vs : List Nat} : ∀ {is : List Nat} {ds : List D} {us : List V} {σ : St} {en en2 : En} {Q : St → Hp → Prop}, setMany is ds en = some en2 → Ok B K F H σ en → DnA K F us ds → (∀ i ∈ is, i ∈ vs) → (∀ j ∈ vs, ownAt en j = none) →
    (∀ σ2, Ok B K F H σ2 en2 → Sd vs σ σ2 en en2 → Q σ2 H) → gTs is us σ H Q
  | [], [], _, σ, en, en2, Q, h, k, .nil, _, hv, q => by
    cases h
    exact ⟨rfl, q σ k ⟨rfl, rfl, fun _ _ => ⟨rfl, rfl⟩, fun i hi => ⟨hv i hi, hv i hi⟩⟩⟩
  | i :: is, d :: ds, _, σ, en, en2, Q, h, k, .cons (v := v) (vs := us) h1 h2, hi, hv, q => by
    unfold setMany at h
    have hn := hv i (hi i List.mem_cons_self)
    rw [hn] at h
    have h : setMany is ds (en.set i (.val d)) = some en2 := h
    have s1 := sd_set (σ := σ) (v := v) (d := d) (hi i List.mem_cons_self) hv
    refine ⟨v, us, rfl, ?_⟩
    exact setMany_run h (k.set hn h1) h2 (fun j hj => hi j (List.mem_cons_of_mem _ hj)) (fun j hj => (s1.inn j hj).2) fun σ2 k2 s2 => q σ2 k2 (s1.trans s2)
  | [], _ :: _, _, _, _, _, _, h, _, _, _, _, _ => by cases h
  | _ :: _, [], _, _, _, _, _, h, _, _, _, _, _ => by cases h
theorem setTg_run {B : Bs} {K : PySem.W.Frag} {F H : Hp} {vs : List Nat} {tg : Tg} {d : D} {v : V} {σ : St} {en en2 : En} {Q : St → Hp → Prop} (h : setTg tg d en = some en2) (k : Ok B K F H σ en) (dn : Dn K F v d) (hi : ∀ i ∈ tgS tg, i ∈ vs) (hv : ∀ j ∈ vs, ownAt en j = none)
    (q : ∀ σ2, Ok B K F H σ2 en2 → Sd vs σ σ2 en en2 → Q σ2 H) : gT K tg v σ H Q := by
  cases tg with
  | n i =>
    have hn := hv i (hi i List.mem_cons_self)
    have h : (if (ownAt en i).isSome then none else some (en.set i (.val d))) = some en2 := h
    rw [hn] at h
    cases h
    exact q _ (k.set hn dn) (sd_set (hi i List.mem_cons_self) hv)
  | t is =>
    cases d <;> first | cases h | skip
    rename_i ds
    cases dn with
    | tup h1 h2 =>
      have h : setMany is ds en = some en2 := h
      have len : ∀ {is : List Nat} {ds : List D} {en : En}, setMany is ds en = some en2 → is.length = ds.length := by
        intro is
        induction is with
        | nil => intro ds en h; cases ds with
          | nil => rfl
          | cons _ _ => cases h
        | cons a as ih => intro ds en h; cases ds with
          | nil => cases h
          | cons d ds =>
            unfold setMany at h
            split at h
            · cases h
            · rw [List.length_cons, List.length_cons, ih h]
      exact ⟨_, _, rfl, sqT_sub k.sub h1, by rw [h2.len, len h], setMany_run h k h2 hi hv q⟩
end
end Vm
end
section
set_option Elab.async false
set_option linter.all false
set_option maxRecDepth 100000
namespace Vm
open PySem PySem.Spec L2
/-! ### comprehensions -/
def quiet (C : Cg) : Cg := { C with W := fun _ _ _ _ => False }
section
variable {C : Cg} {X : Cx} {N : List Str} {sc : Scope} {n : Nat}
theorem takes_quiet {X : Cx} : Takes X (fun _ _ _ _ => False) := fun u s' ⟨_, _, _, _, _, _, _, _, _, _, _, _, _, _, _, _, w⟩ => w.elim
theorem Gd.blk (G : Gd C X N sc) (s : Shared) (H : Hp) (scope : Scope) (cl : List (Str × Addr)) (A : Addr) (fp : List Addr) : Gd (quiet C) (X.blk s H scope (compEnvC scope cl A X.env) fp) N (relS scope sc) where
  hK := G.hK
  hN := G.hN
  hs := by
    show relS scope X.env.scope = _
    rw [G.hs]
  calm := G.calm
  guards := G.guards
  room := G.room
  nd := G.nd
  glob := G.glob
  blt := G.blt
  call := G.call
  xif := G.xif
  pass := fun σ => passAt takes_quiet σ
def tC0 (C : Cg) (n : Nat) : Option E → TT
  | none => tYes
  | some c => tT C n c
def condF (T : Tab) (n : Nat) : Option E → En → R (D × En)
  | some c => evE T n c
  | none => fun en => .ok (.bl true, en)
theorem cond_run {F H : Hp} {σ : St} {en : En} {cond : Option E} {Q : Bool → Hp → Prop} (k : Ok C.B C.K F H σ en) {b : Bool} {en1 : En} (h : (condF C.T n cond en).noex = .ok (.bl b, en1)) (q : ∀ F1 H1, Go σ F H en F1 H1 en1 → Ok C.B C.K F1 H1 σ en1 → Q b H1) : tC0 C n cond σ H Q := by
  cases cond with
  | none =>
    cases h
    exact q F H Go.refl k
  | some c =>
    refine ⟨F, en, k, ?_⟩
    have h : (evE C.T n c en).noex = .ok (.bl b, en1) := h
    cases r : evE C.T n c en with
    | bad => rw [r] at h; cases h
    | ex _ _ => rw [r] at h; cases h
    | ok p =>
      rw [r] at h
      have e : p = (.bl b, en1) := by
        cases h; rfl
      subst e
      exact ⟨b, rfl, q⟩
theorem elt_run {F H : Hp} {σ : St} {en : En} {c : E} {Q : VK} (k : Ok C.B C.K F H σ en) {d : D} {en1 : En} (h : (evE C.T n c en).noex = .ok (d, en1)) (q : ∀ v F1 H1, Go σ F H en F1 H1 en1 → Ok C.B C.K F1 H1 σ en1 → Dn C.K F1 v d → Q v H1) : tE C n c σ H Q := by
  refine ⟨F, en, k, ?_⟩
  cases r : evE C.T n c en with
  | bad => rw [r] at h; cases h
  | ex _ _ => rw [r] at h; cases h
  | ok p =>
    rw [r] at h
    have e : p = (d, en1) := by
      cases h; rfl
    subst e
    exact q
theorem noex_ne {α : Type} {r : R α} {c : Str} {l : List D} : r.noex ≠ .ex c l := by
  cases r <;> exact fun z => nomatch z
/-- one turn, by what it made -/
inductive Turned (cond elt : En → R (D × En)) (tg : Tg) (vs : List Nat) (d : D) (en : En) : List D → En → Prop
  | yes {en1 en2 en3 : En} {x : D} : setTg tg d en = some en1 → (cond en1).noex = .ok (.bl true, en2) → (elt en2).noex = .ok (x, en3) → Turned cond elt tg vs d en [x] (wipeE en3 vs)
  | no {en1 en2 : En} : setTg tg d en = some en1 → (cond en1).noex = .ok (.bl false, en2) → Turned cond elt tg vs d en [] (wipeE en2 vs)
def lcStep (cond elt : En → R (D × En)) (tg : Tg) (vs : List Nat) (d : D) (en : En) (g : En → R (List D × En)) : R (List D × En) := match setTg tg d en with
    | none => .bad
    | some en1 => (cond en1).noex.bind fun p => match p.1 with
      | .bl true => (elt p.2).noex.bind fun q => (g (wipeE q.2 vs)).bind fun r => .ok (q.1 :: r.1, r.2)
      | .bl false => g (wipeE p.2 vs)
      | _ => .bad
theorem lcGo_eq {cond elt : En → R (D × En)} {tg : Tg} {vs : List Nat} {d : D} {ds : List D} {en : En} : lcGo cond elt tg vs (d :: ds) en = lcStep cond elt tg vs d en (lcGo cond elt tg vs ds) := rfl
theorem lcStep_cases {cond elt : En → R (D × En)} {tg : Tg} {vs : List Nat} {d : D} {en : En} {g : En → R (List D × En)} (hb : lcStep cond elt tg vs d en g ≠ .bad) :
    ∃ xs en2, Turned cond elt tg vs d en xs en2 ∧ lcStep cond elt tg vs d en g = (g en2).bind fun q => .ok (xs ++ q.1, q.2) := by
  unfold lcStep at hb ⊢
  cases e1 : setTg tg d en with
  | none => rw [e1] at hb; exact absurd rfl hb
  | some en1 =>
    rw [e1] at hb
    simp only at hb ⊢
    cases e2 : (cond en1).noex with
    | bad => rw [e2] at hb; exact absurd rfl hb
    | ex c l => exact absurd e2 noex_ne
    | ok p =>
      rw [e2] at hb
      obtain ⟨b, en2⟩ := p
      cases b <;> first | exact absurd rfl hb | skip
      rename_i b
      cases b with
      | false =>
        refine ⟨[], wipeE en2 vs, .no e1 e2, ?_⟩
        show g (wipeE en2 vs) = (g (wipeE en2 vs)).bind fun q => .ok ([] ++ q.1, q.2)
        cases g (wipeE en2 vs) <;> rfl
      | true =>
        have hb : ((elt en2).noex.bind fun q => (g (wipeE q.2 vs)).bind fun r => .ok (q.1 :: r.1, r.2)) ≠ .bad := hb
        cases e3 : (elt en2).noex with
        | bad => rw [e3] at hb; exact absurd rfl hb
        | ex c l => exact absurd e3 noex_ne
        | ok q =>
          obtain ⟨x, en3⟩ := q
          refine ⟨[x], wipeE en3 vs, .yes e1 e2 e3, ?_⟩
          show ((elt en2).noex.bind fun q => (g (wipeE q.2 vs)).bind fun r => .ok (q.1 :: r.1, r.2)) = _
          rw [e3]
          rfl
theorem lcGo_cons {cond elt : En → R (D × En)} {tg : Tg} {vs : List Nat} {d : D} {ds : List D} {en : En} {r : R (List D × En)} (h : lcGo cond elt tg vs (d :: ds) en = r) (hb : r ≠ .bad) :
    ∃ xs en2, Turned cond elt tg vs d en xs en2 ∧ r = (lcGo cond elt tg vs ds en2).bind fun q => .ok (xs ++ q.1, q.2) := by
  subst h
  rw [lcGo_eq] at hb ⊢
  exact lcStep_cases hb
theorem lcGo_noex {cond elt : En → R (D × En)} {tg : Tg} {vs : List Nat} : ∀ {ds : List D} {en : En} {c : Str} {l : List D}, lcGo cond elt tg vs ds en ≠ .ex c l
  | [], _, _, _ => fun z => nomatch z
  | d :: ds, en, c, l => fun h => by
    obtain ⟨xs, en2, _, e⟩ := lcGo_cons h (fun z => nomatch z)
    cases e2 : lcGo cond elt tg vs ds en2 with
    | ok _ => rw [e2] at e; cases e
    | bad => rw [e2] at e; cases e
    | ex _ _ => exact absurd e2 lcGo_noex
theorem upd_dom {H : Hp} {A a : Addr} {o : HO} (h : H a ≠ none) : upd H A o a ≠ none := by
  by_cases z : a = A
  · subst z; rw [upd_same]; exact fun z => nomatch z
  · rw [upd_ne z]; exact h
theorem Ok.updA {B : Bs} {K : PySem.W.Frag} {F H : Hp} {σ : St} {en : En} (k : Ok B K F H σ en) {A : Addr} {o : HO} (hF : F A = none) (hB : B.H A = none) (hn : ¬ Own σ en A) : Ok B K F (upd H A o) σ en where
  len := k.len
  val := k.val
  own := fun i l h => by
    obtain ⟨p, us, e1, e2, e3, e4, e5⟩ := k.own i l h
    exact ⟨p, us, e1, by rw [upd_ne (fun z => hn ⟨i, l, h, by rw [e1, z]⟩)]; exact e2, e3, e4, e5⟩
  inj := k.inj
  sub := fun a o h => by
    rw [upd_ne (ne_of_none h hF)]; exact k.sub _ _ h
  bsub := k.bsub
  bnew := k.bnew
  bkeep := fun a o h h' => by
    rw [upd_ne (ne_of_none h hB)]; exact k.bkeep a o h h'
  bdom := fun a h => upd_dom (k.bdom a h)
  pin := k.pin
theorem Go.updA {σ : St} {F H F' H' : Hp} {en en' : En} (g : Go σ F H en F' H' en') {A : Addr} {o : HO} (h : H A = none) : Go σ F H en F' (upd H' A o) en' :=
  ⟨g.sub, g.new, fun a o e e' => by rw [upd_ne (ne_of_none e h)]; exact g.keep a o e e', fun a e => upd_dom (g.dom a e), g.vals, g.owns, g.len⟩
/-- where a turn stands: made so far acc; what is left gives rest -/
def LcI (C : Cg) (n : Nat) (cond : Option E) (elt : E) (tg : Tg) (vs : List Nat) (σ : St) (F1 H1 : Hp) (en1 : En) (A : Addr) (ds : List D) (xs : List D) (enF : En) (i : Nat) (H : Hp) : Prop :=
  ∃ F e us acc rest, Go σ F1 H1 en1 F H e ∧ Ok C.B C.K F H σ e ∧ H A = some (.lst us) ∧ F A = none ∧ DnA C.K F us acc ∧ acc.length ≤ i ∧ i ≤ ds.length ∧
    lcGo (condF C.T n cond) (evE C.T n elt) tg vs (ds.drop i) (wipeE e vs) = .ok (rest, enF) ∧ xs = acc ++ rest
theorem lc_turn {cond : Option E} {elt : E} {tg : Tg} {vs : List Nat} {σ : St} {F1 H1 : Hp} {en1 : En} {A : Addr} {ds xs : List D} {enF : En} {J : L2.It} {i : Nat} {H : Hp} (k1 : Ok C.B C.K F1 H1 σ en1) (hA : H1 A = none) (hv : ∀ j ∈ vs, ownAt en1 j = none) (ht : ∀ j ∈ tgS tg, j ∈ vs) (hz : ds.length ≤ lineN)
    (w : Wk C.K F1 J ds) (I : LcI C n cond elt tg vs σ F1 H1 en1 A ds xs enF i H) (lt : i < ds.length) :
    J.go i H ∧ ∀ x H', J.yld i H x H' → gT C.K tg x (L2.wipe σ vs) H' fun σ2 H2 => L2.wipe σ2 vs = L2.wipe σ vs ∧ tC0 (quiet C) n cond σ2 H2 fun b H3 =>
      if b = true then tE (quiet C) n elt σ2 H3 fun y H4 => ∃ acc, H4 A = some (.lst acc) ∧ acc.length < sizeLine ∧ LcI C n cond elt tg vs σ F1 H1 en1 A ds xs enF (i + 1) (upd H4 A (.lst (acc ++ [y]))) else LcI C n cond elt tg vs σ F1 H1 en1 A ds xs enF (i + 1) H3 := by
  obtain ⟨F, e, us, acc, rest, g, k, hH, hF, dn, la, li, hr, ex⟩ := I
  obtain ⟨w1, _⟩ := w i F H g.sub k.sub
  obtain ⟨go, yl⟩ := w1 ds[i] (List.getElem?_eq_getElem lt)
  refine ⟨go, fun x H'' y => ?_⟩
  obtain ⟨F2, px, dx⟩ := yl x H'' y
  have k2 := k.px px
  have hH2 : H'' A = some (.lst us) := px.hsub _ _ hH
  have hF2 : F2 A = none := px.new A hF (some_ne hH)
  have hve : ∀ j ∈ vs, ownAt e j = none := fun j hj => by
    have q := hv j hj
    have z := g.vals j q
    unfold ownAt at q ⊢
    rw [z]; exact q
  have nown : ¬ Own σ e A := fun z => by
    obtain ⟨j, l, h1, h2⟩ := (own_iff g A).mp z
    obtain ⟨p, us', e1, e2, _⟩ := k1.own j l h1
    rw [h2] at e1
    cases e1
    rw [hA] at e2; cases e2
  have bA : C.B.H A = none := by
    cases z : C.B.H A with
    | none => rfl
    | some o => exact absurd hA (k1.bdom A (some_ne z))
  rw [List.drop_eq_getElem_cons lt] at hr
  obtain ⟨xs', en2, tu, e2⟩ := lcGo_cons hr (fun z => nomatch z)
  have s1 := sd_wipe (σ := σ) hve
  have kw := k2.wiped hve
  have back : ∀ {σ2 : St} {ea eb : En} {F4 H4 : Hp}, Sd vs σ σ2 e ea → Go σ2 F2 H'' ea F4 H4 eb → Ok C.B C.K F4 H4 σ2 eb → en2 = wipeE eb vs →
      ∃ e', Go σ F1 H1 en1 F4 H4 e' ∧ Ok C.B C.K F4 H4 σ e' ∧ wipeE e' vs = en2 ∧ H4 A = some (.lst us) ∧ F4 A = none ∧ DnA C.K F4 us acc ∧ ¬ Own σ e' A := fun {σ2 ea eb F4 H4} s g4 k4 ee => by
    obtain ⟨b1, b2, b3⟩ := side_back k2 s g4 k4
    have gg := g.trans (px.go.trans b1)
    refine ⟨_, gg, b2, b3.trans ee.symm, b1.keep A _ hH2 nown, b1.new A hF2 (some_ne hH2), (dn.up px.sub).up b1.sub, fun z => nown ((own_iff (px.go.trans b1) A).mp z)⟩
  cases tu with
  | yes t1 t2 t3 =>
    refine setTg_run t1 kw dx ht (fun j hj => (s1.inn j hj).2) fun σ2 k3 s2 => ?_
    have s := s1.trans s2
    refine ⟨wipe_set s.slen fun j hj => (s.out j hj).2, cond_run (C := quiet C) k3 t2 fun F3 H3 g3 k4 => ?_⟩
    rw [if_pos rfl]
    refine elt_run (C := quiet C) k4 t3 fun v F4 H4 g4 k5 dv => ?_
    obtain ⟨e', gg, b2, b3, a1, a2, a3, a4⟩ := back s (g3.trans g4) k5 rfl
    refine ⟨us, a1, ?_, ?_⟩
    · have q := dn.len
      have z : lineN ≤ sizeLine := by decide
      omega
    · cases e6 : lcGo (condF C.T n cond) (evE C.T n elt) tg vs (ds.drop (i + 1)) (wipeE _ vs) with
      | bad => rw [e6] at e2; cases e2
      | ex _ _ => rw [e6] at e2; cases e2
      | ok q =>
        rw [e6] at e2
        cases e2
        refine ⟨F4, e', us ++ [v], acc ++ [_], q.1, gg.updA hA, b2.updA a2 bA a4, upd_same, a2, a3.app (.cons dv .nil), by rw [List.length_append]; exact Nat.succ_le_succ la, lt, ?_, ?_⟩
        · rw [b3]; exact e6
        · rw [ex, List.append_assoc]
  | no t1 t2 =>
    refine setTg_run t1 kw dx ht (fun j hj => (s1.inn j hj).2) fun σ2 k3 s2 => ?_
    have s := s1.trans s2
    refine ⟨wipe_set s.slen fun j hj => (s.out j hj).2, cond_run (C := quiet C) k3 t2 fun F3 H3 g3 k4 => ?_⟩
    rw [if_neg (fun z => nomatch z)]
    obtain ⟨e', gg, b2, b3, a1, a2, a3, a4⟩ := back s g3 k4 rfl
    cases e6 : lcGo (condF C.T n cond) (evE C.T n elt) tg vs (ds.drop (i + 1)) (wipeE _ vs) with
    | bad => rw [e6] at e2; cases e2
    | ex _ _ => rw [e6] at e2; cases e2
    | ok q =>
      rw [e6] at e2
      cases e2
      exact ⟨F3, e', us, acc, q.1, gg, b2, a1, a2, a3, Nat.le_succ_of_le la, lt, by rw [b3]; exact e6, ex⟩
theorem lc_tF {elt : E} {tg : Tg} {k : Ik} {l : List E} {cond : Option E} {vs : List Nat} {σ : St} {H : Hp} {Q : VK} (ht : ∀ j ∈ tgS tg, j ∈ vs) (h : tF C (n + 1) (.lc elt tg k l cond vs) σ H Q) : tLc (tI C n k l) (gT C.K tg) (tC0 (quiet C) n cond) (tE (quiet C) n elt) vs σ H Q := by
  obtain ⟨F, en, ok, h⟩ := h
  refine ⟨F, en, ok, ?_⟩
  have h : ResF C σ F H en ((evList (evE C.T n) l en).bind fun q => match items k q.1 with
      | none => .bad
      | some ds => if noOwn q.2 vs && decide (ds.length ≤ lineN) then
          (lcGo (condF C.T n cond) (evE C.T n elt) tg vs ds (wipeE q.2 vs)).bind fun r => .ok (.lst r.1, restE q.2 vs r.2)
        else .bad) Q := by
    cases cond <;> exact h
  cases r : evList (evE C.T n) l en with
  | bad => rw [r] at h; exact h
  | ex c l => rw [r] at h; exact h
  | ok p =>
    obtain ⟨ls, en1⟩ := p
    rw [r] at h
    have h : ResF C σ F H en (match items k ls with
      | none => .bad
      | some ds => if noOwn en1 vs && decide (ds.length ≤ lineN) then
          (lcGo (condF C.T n cond) (evE C.T n elt) tg vs ds (wipeE en1 vs)).bind fun r => .ok (.lst r.1, restE en1 vs r.2)
        else .bad) Q := h
    cases e : items k ls with
    | none => rw [e] at h; exact h.elim
    | some ds =>
      rw [e] at h
      have h : ResF C σ F H en (if noOwn en1 vs && decide (ds.length ≤ lineN) then
          (lcGo (condF C.T n cond) (evE C.T n elt) tg vs ds (wipeE en1 vs)).bind fun r => .ok (.lst r.1, restE en1 vs r.2)
        else .bad) Q := h
      refine ⟨ds, e, fun J F1 H1 g1 k1 w A hA => ?_⟩
      cases hc : noOwn en1 vs && decide (ds.length ≤ lineN) with
      | false => rw [hc] at h; exact h.elim
      | true =>
        rw [hc] at h
        obtain ⟨c1, c2⟩ := and2 hc
        have hv := noOwn_of c1
        have h : ResF C σ F H en ((lcGo (condF C.T n cond) (evE C.T n elt) tg vs ds (wipeE en1 vs)).bind fun r => .ok (.lst r.1, restE en1 vs r.2)) Q := h
        cases e3 : lcGo (condF C.T n cond) (evE C.T n elt) tg vs ds (wipeE en1 vs) with
        | bad => rw [e3] at h; exact h.elim
        | ex _ _ => exact absurd e3 lcGo_noex
        | ok q =>
          obtain ⟨xs, enF⟩ := q
          rw [e3] at h
          obtain ⟨xs', e4, h⟩ := h
          cases e4
          have bA : C.B.H A = none := by
            cases z : C.B.H A with
            | none => rfl
            | some o => exact absurd hA (k1.bdom A (some_ne z))
          have fA : F1 A = none := k1.sub.free hA
          have no1 : ¬ Own σ en1 A := fun ⟨j, l, h1, h2⟩ => by
            obtain ⟨p, us', e1, e2, _⟩ := k1.own j l h1
            rw [h2] at e1
            cases e1
            rw [hA] at e2; cases e2
          refine ⟨fun i m H => m = ds.length - i ∧ LcI C n cond elt tg vs σ F1 H1 en1 A ds xs enF i H, ⟨ds.length - 0, rfl, F1, en1, [], [], xs, Go.refl.updA hA, k1.updA fA bA no1, upd_same, fA, .nil, Nat.le_refl _, Nat.zero_le _, e3, rfl⟩, ?_⟩
          rintro i m H5 ⟨rfl, I⟩
          rcases Nat.lt_or_ge i ds.length with lt | ge
          · obtain ⟨go, st⟩ := lc_turn k1 hA hv ht (of_decide_eq_true c2) w I lt
            exact .inr ⟨go, fun H' => LcI C n cond elt tg vs σ F1 H1 en1 A ds xs enF (i + 1) H', fun H' q => ⟨ds.length - (i + 1), by omega, rfl, q⟩, st⟩
          · obtain ⟨F5, e5, us, acc, rest, g, k, hH, hF, dn, la, li, hr, ex⟩ := I
            have i1 : i = ds.length := by omega
            subst i1
            refine .inl ⟨(w ds.length F5 H5 g.sub k.sub).2 rfl, ?_⟩
            rw [List.drop_length] at hr
            cases hr
            have e6 : restE en1 vs (wipeE e5 vs) = e5 := rest_wipe g.len fun j hj => g.vals j (hv j hj)
            have h : NxtF C σ F H en (restE en1 vs (wipeE e5 vs)) xs Q := h
            rw [e6] at h
            rw [ex, List.append_nil] at h
            refine h A us F5 H5 (g1.trans g) k ?_ hF hH dn fun j l h1 h2 => ?_
            · cases z : H A with
              | none => rfl
              | some o => exact absurd hA (g1.dom A (some_ne z))
            · exact no1 ((own_iff g A).mp ⟨j, l, h1, h2⟩)
theorem lc_isL {elt : E} {tg : Tg} {k : Ik} {l : List E} {cond : Option E} {vs : List Nat} {en : En} {p : D × En} (h : evE C.T (n + 1) (.lc elt tg k l cond vs) en = .ok p) : ∃ ds, p.1 = .lst ds := by
  have h : ((evList (evE C.T n) l en).bind fun q => match items k q.1 with
      | none => .bad
      | some ds => if noOwn q.2 vs && decide (ds.length ≤ lineN) then
          (lcGo (condF C.T n cond) (evE C.T n elt) tg vs ds (wipeE q.2 vs)).bind fun r => .ok (.lst r.1, restE q.2 vs r.2)
        else .bad) = .ok p := by
    cases cond <;> exact h
  cases r : evList (evE C.T n) l en with
  | bad => rw [r] at h; cases h
  | ex c l => rw [r] at h; cases h
  | ok q =>
    rw [r] at h
    have h : (match items k q.1 with
      | none => .bad
      | some ds => if noOwn q.2 vs && decide (ds.length ≤ lineN) then
          (lcGo (condF C.T n cond) (evE C.T n elt) tg vs ds (wipeE q.2 vs)).bind fun r => .ok (.lst r.1, restE q.2 vs r.2)
        else .bad) = R.ok p := h
    split at h
    · cases h
    · split at h
      · cases e3 : lcGo (condF C.T n cond) (evE C.T n elt) tg vs _ (wipeE q.2 vs) with
        | bad => rw [e3] at h; cases h
        | ex _ _ => rw [e3] at h; cases h
        | ok q2 => rw [e3] at h; cases h; exact ⟨_, rfl⟩
      · cases h
theorem tF_of {c : E} {σ : St} {H : Hp} {Q : VK} (hl : ∀ en p, evE C.T n c en = .ok p → ∃ ds, p.1 = .lst ds) (h : tE C n c σ H Q) : tF C n c σ H Q := by
  obtain ⟨F, en, ok, h⟩ := h
  exact ⟨F, en, ok, ResF.of ok h fun p e => hl en p e⟩
end
end Vm
end
section
set_option Elab.async false
set_option linter.all false
set_option maxRecDepth 100000
namespace Vm
open PySem PySem.Spec L2
section
variable {C : Cg} {X : Cx} {N : List Str} {sc : Scope} {n : Nat} {df : Str → List D}
theorem Gd.un (G : Gd C X N sc) : X.A.units + 66 < cLine := by have := G.room.un; omega
def OpS (K : PySem.W.Frag) (p : Pr) (r : R2) : Prop := ∀ {F H : Hp} {Q : VK} {d d1 d2 : D} {x y : V}, prim p [d1, d2] = .ok d → DA K F H x d1 → DA K F H y d2 → Same F H → Qz K F H d Q → r x y H Q
theorem bin_ok (G : Gd C X N sc) {p : Pr} {o : Operator} (h : binB p o = true) : ∃ r, OpR X (binaryOp o) r ∧ OpS C.K p r ∧ ∀ ds d, prim p ds = .ok d → ds.length = 2 := by
  have hK := G.hK
  unfold binB at h
  split at h
  · exact ⟨_, op_addV, by rw [hK]; exact fun a b c d e => add_ok a b c d e, prim_len2 (by simp)⟩
  · exact ⟨_, op_sub, fun a b c d e => sub_ok a b c d e, prim_len2 (by simp)⟩
  · exact ⟨_, op_mulV, by rw [hK]; exact fun a b c d e => mul_ok a b c d e, prim_len2 (by simp)⟩
  · exact ⟨_, op_fdivV, fun a b c d e => fdiv_ok a b c d e, prim_len2 (by simp)⟩
  · exact ⟨_, op_modN, fun a b c d e => mod_ok a b c d e, prim_len2 (by simp)⟩
  · exact ⟨_, op_powV, fun a b c d e => pow_ok a b c d e, prim_len2 (by simp)⟩
  · cases h
theorem cmp_ok (G : Gd C X N sc) {p : Pr} {o : CmpOp} (h : cmpB p o = true) : ∃ r, OpR X (compareOp o) r ∧ OpS C.K p r ∧ (∀ ds d, prim p ds = .ok d → ds.length = 2) ∧ o ≠ .In ∧ o ≠ .NotIn := by
  have hK := G.hK
  have un := G.un
  unfold cmpB at h
  split at h
  · exact ⟨_, OpR.or (op_eqD (by omega)) op_eq, by rw [hK]; exact fun a b c d e => eq_ok a b c d e, prim_len2 (by simp), by decide, by decide⟩
  · exact ⟨_, OpR.or (op_neD (by omega)) op_ne, by rw [hK]; exact fun a b c d e => ne_ok a b c d e, prim_len2 (by simp), by decide, by decide⟩
  · exact ⟨_, op_lt, fun a b c d e => lt_ok a b c d e, prim_len2 (by simp), by decide, by decide⟩
  · exact ⟨_, op_le, fun a b c d e => le_ok a b c d e, prim_len2 (by simp), by decide, by decide⟩
  · exact ⟨_, op_gt, fun a b c d e => gt_ok a b c d e, prim_len2 (by simp), by decide, by decide⟩
  · exact ⟨_, op_ge, fun a b c d e => ge_ok a b c d e, prim_len2 (by simp), by decide, by decide⟩
  · cases h
theorem cmp_bl {p : Pr} {o : CmpOp} (h : cmpB p o = true) {ds : List D} {d : D} (e : prim p ds = .ok d) : ∃ b, d = .bl b := by
  unfold cmpB at h
  split at h
  · have e : p_eq ds = .ok d := e
    unfold p_eq at e
    split at e
    · cases e; exact ⟨_, rfl⟩
    · split at e
      · cases e; exact ⟨_, rfl⟩
      · cases e
    · cases e
  · have e : p_ne ds = .ok d := e
    unfold p_ne at e
    split at e
    · cases e; exact ⟨_, rfl⟩
    · split at e
      · cases e; exact ⟨_, rfl⟩
      · cases e
    · cases e
  · have e : p_lt ds = .ok d := e
    unfold p_lt at e
    split at e <;> cases e
    exact ⟨_, rfl⟩
  · have e : p_le ds = .ok d := e
    unfold p_le at e
    split at e <;> cases e
    exact ⟨_, rfl⟩
  · have e : p_gt ds = .ok d := e
    unfold p_gt at e
    split at e <;> cases e
    exact ⟨_, rfl⟩
  · have e : p_ge ds = .ok d := e
    unfold p_ge at e
    split at e <;> cases e
    exact ⟨_, rfl⟩
  · cases h
theorem strict_of {c : E} {a : Expr} (h : matE n df N sc c a = true) : noBw c = true := by
  cases n with
  | zero => cases h
  | succ n => cases c <;> first | rfl | cases h
theorem matO_of {c : E} {a : Expr} (h : matE n df N sc c a = true) : matO (matE n df N sc) N sc c a = true := by
  rw [matO_strict (strict_of h)]; exact h
theorem tO_of {c : E} {a : Expr} (h : matE n df N sc c a = true) : tO C n c = tE C n c := tO_strict (strict_of h)
theorem pe_binE (G : Gd C X N sc) {p : Pr} {o : Operator} {c d : E} {x y : Expr} {pos : Pos} (hb : binB p o = true) (h1 : PE X x (tO C n c)) (h2 : PE X y (tO C n d)) : PE X (.BinOp x o y pos) (tE C (n + 1) (.pr p [c, d])) := by
  obtain ⟨r, ho, hs, hn⟩ := bin_ok G hb
  exact PE.imp (pe_op ho h1 h2) fun σ H Q h => op2 hs hn h
theorem pe_cmpE (G : Gd C X N sc) {p : Pr} {o : CmpOp} {c d : E} {x y : Expr} {pos : Pos} (hb : cmpB p o = true) (h1 : PE X x (tO C n c)) (h2 : PE X y (tO C n d)) : PE X (.Compare x [o] [y] pos) (tE C (n + 1) (.pr p [c, d])) ∧ PT X (.Compare x [o] [y] pos) (tT C (n + 1) (.pr p [c, d])) := by
  obtain ⟨r, ho, hs, hn, n1, n2⟩ := cmp_ok G hb
  exact ⟨PE.imp (pe_cmpR ho h1 h2 (nobehind _ n1 n2)) fun σ H Q h => op2 hs hn h, PT.imp (pt_cmpR ho h1 h2 (nobehind _ n1 n2)) fun σ H Q h => op2 hs hn (of_test h)⟩
theorem pe_isE (G : Gd C X N sc) {c : E} {x : Expr} {k : Nat} {pos p2 : Pos} (h1 : PE X x (tO C n c)) : PE X (.Compare x [.Is] [.Constant .none k p2] pos) (tE C (n + 1) (.pr .isn [c])) ∧ PT X (.Compare x [.Is] [.Constant .none k p2] pos) (tT C (n + 1) (.pr .isn [c])) := by
  have go : ∀ {σ : St} {H : Hp} {Q : VK}, tE C (n + 1) (.pr .isn [c]) σ H Q → tO C n c σ H fun x H1 => (V.non = V.non ∧ Q (.bl (decide (x = .non))) H1) := fun {σ H Q} h =>
    op1 (p := .isn) (r := fun x H Q => (V.non = V.non ∧ Q (.bl (decide (x = .non))) H)) (fun a b s q => ⟨rfl, isn_ok a b s q⟩) (prim_len1 (by simp)) h
  exact ⟨PE.imp (pe_cmpR op_isN h1 pe_non rfl) fun σ H Q h => go h, PT.imp (pt_cmpR op_isN h1 pe_non rfl) fun σ H Q h => go (of_test h)⟩
theorem pe_nisE (G : Gd C X N sc) {c : E} {x : Expr} {k : Nat} {pos p2 : Pos} (h1 : PE X x (tO C n c)) : PE X (.Compare x [.IsNot] [.Constant .none k p2] pos) (tE C (n + 1) (.pr .nisn [c])) ∧ PT X (.Compare x [.IsNot] [.Constant .none k p2] pos) (tT C (n + 1) (.pr .nisn [c])) := by
  have go : ∀ {σ : St} {H : Hp} {Q : VK}, tE C (n + 1) (.pr .nisn [c]) σ H Q → tO C n c σ H fun x H1 => (V.non = V.non ∧ Q (.bl (!decide (x = .non))) H1) := fun {σ H Q} h =>
    op1 (p := .nisn) (r := fun x H Q => (V.non = V.non ∧ Q (.bl (!decide (x = .non))) H)) (fun a b s q => ⟨rfl, nisn_ok a b s q⟩) (prim_len1 (by simp)) h
  exact ⟨PE.imp (pe_cmpR op_notN h1 pe_non rfl) fun σ H Q h => go h, PT.imp (pt_cmpR op_notN h1 pe_non rfl) fun σ H Q h => go (of_test h)⟩
theorem pe_negE {c : E} {x : Expr} {pos : Pos} (h1 : PE X x (tO C n c)) : PE X (.UnaryOp .USub x pos) (tE C (n + 1) (.pr .neg [c])) :=
  PE.imp (pe_un un_neg h1) fun σ H Q h => op1 (p := .neg) (fun a b s q => neg_ok a b s q) (prim_len1 (by simp)) h
theorem pe_notE {c : E} {x : Expr} {pos : Pos} (h1 : PE X x (tO C n c)) : PE X (.UnaryOp .Not x pos) (tE C (n + 1) (.pr .not [c])) :=
  PE.imp (pe_not h1) fun σ H Q h => op1 (p := .not) (r := fun x H Q => ∃ c, x = .bl c ∧ Q (.bl (!c)) H) (fun a b s q => not_ok a b s q) (prim_len1 (by simp)) h
theorem evArgs1 {f : E → En → R (D × En)} {c : E} (hb : noBw c = true) (en : En) : evArgs f [c] en = (f c en).bind fun p => .ok ([.d p.1], p.2) := by
  cases c <;> first | rfl | cases hb
theorem pt_notE {c : E} {x : Expr} {pos : Pos} (hb : noBw c = true) (h1 : PT X x (tT C n c)) : PT X (.UnaryOp .Not x pos) (tT C (n + 1) (.pr .not [c])) := by
  refine PT.imp (pt_not h1) fun σ H Q h => ?_
  obtain ⟨F, en, ok, h⟩ := h
  refine ⟨F, en, ok, ?_⟩
  have h : ResT C σ F H en ((evArgs (evE C.T n) [c] en).bind fun q => match resolveD q.2 q.1 with
      | none => .bad
      | some ds => (prim .not ds).bind fun d => .ok (d, q.2)) Q := h
  rw [evArgs1 hb] at h
  cases r : evE C.T n c en with
  | bad => rw [r] at h; exact h
  | ex c l => rw [r] at h; exact h
  | ok p =>
    rw [r] at h
    obtain ⟨d, en1⟩ := p
    have h : ResT C σ F H en ((p_not [d]).bind fun d => .ok (d, en1)) Q := h
    cases d <;> first | exact h.elim | skip
    obtain ⟨b', e, h⟩ := h
    cases e
    exact ⟨_, rfl, h⟩
/-! subscripts -/
theorem pe_ixE (G : Gd C X N sc) {c d : E} {x y : Expr} {pos : Pos} (hs : PlainIx y) (h1 : PE X x (tO C n c)) (h2 : PE X y (tO C n d)) : PE X (.Subscript x y pos) (tE C (n + 1) (.pr .ix [c, d])) := by
  have hK := G.hK
  refine PE.imp (pe_ix ix_seq h1 h2 hs) fun σ H Q h => ?_
  rw [hK]
  exact op2 (p := .ix) (fun a b c d e => ix_ok a b c d e) (prim_len2 (by simp)) h
section
variable {K : PySem.W.Frag} {F H : Hp} {Q : VK} {d d1 d2 d3 : D} {x y z : V}
theorem slA_ok (h : p_slA [d1, d2] = .ok d) (a : DA K F H x d1) (b : DA K F H y d2) (s : Same F H) (q : Qz K F H d Q) : ∃ i, y = .int i ∧ rSl K x none (some i) H Q := by
  unfold p_slA at h
  split at h
  · rename_i l i e; cases e; cases h; exact ⟨i, b.int, slL_okF a s q.f⟩
  · rename_i l i e; cases e; cases h; exact ⟨i, b.int, slS_okF a s q.f⟩
  · rename_i l i e; cases e; cases h; exact ⟨i, b.int, slT_ok a s q⟩
  · cases h
theorem slB_ok (h : p_slB [d1, d2] = .ok d) (a : DA K F H x d1) (b : DA K F H y d2) (s : Same F H) (q : Qz K F H d Q) : ∃ i, y = .int i ∧ rSl K x (some i) none H Q := by
  unfold p_slB at h
  split at h
  · rename_i l i e; cases e; cases h; exact ⟨i, b.int, slL_okF a s q.f⟩
  · rename_i l i e; cases e; cases h; exact ⟨i, b.int, slS_okF a s q.f⟩
  · rename_i l i e; cases e; cases h; exact ⟨i, b.int, slT_ok a s q⟩
  · cases h
theorem slC_ok (h : p_slC [d1, d2, d3] = .ok d) (a : DA K F H x d1) (b : DA K F H y d2) (c : DA K F H z d3) (s : Same F H) (q : Qz K F H d Q) : ∃ i, y = .int i ∧ ∃ j, z = .int j ∧ rSl K x (some i) (some j) H Q := by
  unfold p_slC at h
  split at h
  · rename_i l i j e; cases e; cases h; exact ⟨i, b.int, j, c.int, slL_okF a s q.f⟩
  · rename_i l i j e; cases e; cases h; exact ⟨i, b.int, j, c.int, slS_okF a s q.f⟩
  · rename_i l i j e; cases e; cases h; exact ⟨i, b.int, j, c.int, slT_ok a s q⟩
  · cases h
end
theorem pe_slAE (G : Gd C X N sc) {c d : E} {x y : Expr} {p2 pos : Pos} (h1 : PE X x (tO C n c)) (h2 : PE X y (tO C n d)) : PE X (.Subscript x (.Slice none (some y) none p2) pos) (tE C (n + 1) (.pr .slA [c, d])) := by
  have hK := G.hK
  refine PE.imp (pe_slice sl_V h1 po_none (po_some h2)) fun σ H Q h => ?_
  rw [hK]
  exact op2 (p := .slA) (r := fun x y H Q => ∃ i, y = .int i ∧ rSl C.K x none (some i) H Q) (fun a b c d e => slA_ok a b c d e) (prim_len2 (by simp)) h
theorem pe_slBE (G : Gd C X N sc) {c d : E} {x y : Expr} {p2 pos : Pos} (h1 : PE X x (tO C n c)) (h2 : PE X y (tO C n d)) : PE X (.Subscript x (.Slice (some y) none none p2) pos) (tE C (n + 1) (.pr .slB [c, d])) := by
  have hK := G.hK
  refine PE.imp (pe_slice sl_V h1 (po_some h2) po_none) fun σ H Q h => ?_
  rw [hK]
  exact op2 (p := .slB) (r := fun x y H Q => ∃ i, y = .int i ∧ rSl C.K x (some i) none H Q) (fun a b c d e => slB_ok a b c d e) (prim_len2 (by simp)) h
theorem evArgs_app {f : E → En → R (D × En)} : ∀ (l m : List E) (en : En), evArgs f (l ++ m) en = (evArgs f l en).bind fun p => (evArgs f m p.2).bind fun q => .ok (p.1 ++ q.1, q.2)
  | [], m, en => by
    show evArgs f m en = (evArgs f m en).bind fun q => .ok ([] ++ q.1, q.2)
    cases evArgs f m en <;> rfl
  | e :: es, m, en => by
    have gen : ∀ g : E → R (D × En), (∀ es, evArgs f (e :: es) en = (g e).bind fun p => (evArgs f es p.2).bind fun q => .ok (.d p.1 :: q.1, q.2)) → evArgs f (e :: es ++ m) en = (evArgs f (e :: es) en).bind fun p => (evArgs f m p.2).bind fun q => .ok (p.1 ++ q.1, q.2) := fun g h => by
      rw [List.cons_append, h, h]
      cases g e with
      | bad => rfl
      | ex _ _ => rfl
      | ok p =>
        show (evArgs f (es ++ m) p.2).bind _ = ((evArgs f es p.2).bind _).bind _
        rw [evArgs_app es m p.2]
        cases evArgs f es p.2 with
        | bad => rfl
        | ex _ _ => rfl
        | ok q =>
          show ((evArgs f m q.2).bind _).bind _ = (evArgs f m q.2).bind _
          cases evArgs f m q.2 <;> rfl
    have own : ∀ (mk : AV) (b : Bool), (∀ es, evArgs f (e :: es) en = if b then (evArgs f es en).bind fun q => .ok (mk :: q.1, q.2) else .bad) → evArgs f (e :: es ++ m) en = (evArgs f (e :: es) en).bind fun p => (evArgs f m p.2).bind fun q => .ok (p.1 ++ q.1, q.2) := fun mk b h => by
      rw [List.cons_append, h, h]
      cases b with
      | false => rfl
      | true =>
        show (evArgs f (es ++ m) en).bind _ = ((evArgs f es en).bind _).bind _
        rw [evArgs_app es m en]
        cases evArgs f es en with
        | bad => rfl
        | ex _ _ => rfl
        | ok q =>
          show ((evArgs f m q.2).bind _).bind _ = (evArgs f m q.2).bind _
          cases evArgs f m q.2 <;> rfl
    cases e with
    | bw i => exact own (.b i) (ownAt en i).isSome fun _ => rfl
    | io i => exact own (.o i) (ownAt en i).isSome fun _ => rfl
    | c _ => exact gen (fun e => f e en) fun _ => rfl
    | g _ => exact gen (fun e => f e en) fun _ => rfl
    | v _ => exact gen (fun e => f e en) fun _ => rfl
    | pr _ _ => exact gen (fun e => f e en) fun _ => rfl
    | and_ _ _ => exact gen (fun e => f e en) fun _ => rfl
    | or_ _ _ => exact gen (fun e => f e en) fun _ => rfl
    | ite _ _ _ => exact gen (fun e => f e en) fun _ => rfl
    | ch _ _ _ _ _ => exact gen (fun e => f e en) fun _ => rfl
    | call _ _ _ => exact gen (fun e => f e en) fun _ => rfl
    | lc _ _ _ _ _ _ => exact gen (fun e => f e en) fun _ => rfl
theorem still_ex {T : Tab} {e : E} (h : still e = true) (en : En) (c : Str) (l : List D) : evE T n e en ≠ .ex c l := by
  cases n with
  | zero => exact fun z => nomatch z
  | succ n =>
    cases e <;> first | cases h | skip
    · exact fun z => nomatch z
    · intro z
      unfold evE at z
      simp only at z
      split at z <;> cases z
theorem still_en {T : Tab} {e : E} (h : still e = true) {en en' : En} {d : D} (r : evE T n e en = .ok (d, en')) : en' = en := by
  cases n with
  | zero => cases r
  | succ n =>
    cases e <;> first | cases h | skip
    · cases r; rfl
    · unfold evE at r
      simp only at r
      split at r <;> cases r
      rfl
theorem resolveD_snoc {en : En} {d : D} : ∀ {as : List AV} {ds : List D}, resolveD en (as ++ [.d d]) = some ds → ∃ ds', resolveD en as = some ds' ∧ ds = ds' ++ [d]
  | [], ds, h => by cases h; exact ⟨[], rfl, rfl⟩
  | .d x :: as, ds, h => by
    rw [List.cons_append] at h
    unfold resolveD at h
    cases r : resolveD en (as ++ [.d d]) with
    | none => rw [r] at h; cases h
    | some q =>
      rw [r] at h
      cases h
      obtain ⟨q', e1, e2⟩ := resolveD_snoc r
      exact ⟨x :: q', by unfold resolveD; rw [e1]; rfl, by rw [e2]; rfl⟩
  | .b i :: as, ds, h => by
    rw [List.cons_append] at h
    unfold resolveD at h
    cases o : ownAt en i with
    | none => simp only [o] at h; cases h
    | some l =>
      simp only [o] at h
      cases r : resolveD en (as ++ [.d d]) with
      | none => rw [r] at h; cases h
      | some q =>
        rw [r] at h
        cases h
        obtain ⟨q', e1, e2⟩ := resolveD_snoc r
        exact ⟨.lst l :: q', by unfold resolveD; simp only [o]; rw [e1]; rfl, by rw [e2]; rfl⟩
  | .o _ :: _, _, h => by cases h
theorem slC_two {ds : List D} {d3 dd : D} (h : p_slC (ds ++ [d3]) = .ok dd) : ∃ d1 i, ds = [d1, .int i] := by
  generalize e : ds ++ [d3] = xs at h
  have key : ∀ (a : D) (i j : Int), ds ++ [d3] = [a, .int i, .int j] → ∃ d1 i, ds = [d1, .int i] := fun a i j e => by
    have q : ds ++ [d3] = [a, .int i] ++ [.int j] := e
    exact ⟨a, i, (List.append_inj_left' q rfl)⟩
  unfold p_slC at h
  split at h <;> first
    | exact key _ _ _ e
    | cases h
theorem AvA.app {K : PySem.W.Frag} {F : Hp} {σ : St} : ∀ {as bs : List AV} {us vs : List V}, AvA K F σ as us → AvA K F σ bs vs → AvA K F σ (as ++ bs) (us ++ vs)
  | _, _, _, _, .nil, h => h
  | _, _, _, _, .d a t, h => .d a (AvA.app t h)
  | _, _, _, _, .b a t, h => .b a (AvA.app t h)
  | _, _, _, _, .o a t, h => .o a (AvA.app t h)
theorem pe_slCE (G : Gd C X N sc) {c d e : E} {x y z : Expr} {p2 pos : Pos} (he : still e = true) (h1 : PE X x (tO C n c)) (h2 : PE X y (tO C n d)) (h3 : PE X z (tE C n e)) : PE X (.Subscript x (.Slice (some y) (some z) none p2) pos) (tE C (n + 1) (.pr .slC [c, d, e])) := by
  have hK := G.hK
  have nb : noBw e = true := by cases e <;> first | rfl | cases he
  refine PE.imp (pe_slice sl_V h1 (po_some h2) (po_some h3)) fun σ H Q h => ?_
  rw [hK]
  obtain ⟨F, en, k, h⟩ := h
  have h : Res C σ F H en ((evArgs (evE C.T n) ([c, d] ++ [e]) en).bind fun q => match resolveD q.2 q.1 with
      | none => .bad
      | some ds => (prim .slC ds).bind fun d => .ok (d, q.2)) Q := h
  rw [evArgs_app] at h
  have go : tA C n [c, d] σ H fun vs H2 => match vs with
    | [x, y] => ∃ i, y = .int i ∧ tE C n e σ H2 fun z H3 => ∃ j, z = .int j ∧ rSl C.K x (some i) (some j) H3 Q
    | _ => False := by
    refine args_run [c, d] k ?_
    cases r : evArgs (evE C.T n) [c, d] en with
    | bad => rw [r] at h; exact h
    | ex c l => rw [r] at h; exact h
    | ok p =>
      obtain ⟨as, en2⟩ := p
      rw [r] at h
      have h : Res C σ F H en (((evArgs (evE C.T n) [e] en2).bind fun q => .ok (as ++ q.1, q.2)).bind fun q => match resolveD q.2 q.1 with
        | none => .bad
        | some ds => (prim .slC ds).bind fun d => .ok (d, q.2)) Q := h
      rw [evArgs1 nb] at h
      intro vs F2 H2 g2 k2 a2
      cases r3 : evE C.T n e en2 with
      | bad => rw [r3] at h; exact h.elim
      | ex c l => exact absurd r3 (still_ex he en2 c l)
      | ok p3 =>
        obtain ⟨d3, en3⟩ := p3
        rw [r3] at h
        have h : Res C σ F H en (match resolveD en3 (as ++ [.d d3]) with
          | none => .bad
          | some ds => (prim .slC ds).bind fun d => .ok (d, en3)) Q := h
        cases r4 : resolveD en3 (as ++ [.d d3]) with
        | none => rw [r4] at h; exact h.elim
        | some ds =>
          rw [r4] at h
          have h : Res C σ F H en ((p_slC ds).bind fun d => .ok (d, en3)) Q := h
          have e3 := still_en he r3
          subst e3
          obtain ⟨ds2, r6, rfl⟩ := resolveD_snoc r4
          have q2 := a2.das k2 r6
          cases r5 : p_slC (ds2 ++ [d3]) with
          | bad => rw [r5] at h; exact h.elim
          | ex c m => exact absurd r5 (prim_noex .slC _ c m)
          | ok dd =>
            rw [r5] at h
            have hz : Nxt C σ F H en _ dd Q := h
            obtain ⟨d1, i, e1⟩ := slC_two r5
            subst e1
            obtain ⟨x, y, rfl, b1, b2⟩ := q2.inv2
            refine ⟨i, b2.int, F2, _, k2, ?_⟩
            rw [r3]
            intro z F3 H3 g3 k3 dn
            obtain ⟨x', y', z', e0, a1, a2', a3⟩ := (((a2.up g3.sub).app (.d dn .nil)).das k3 r4).inv3
            cases e0
            obtain ⟨i', e4, j, e5, q⟩ := slC_ok r5 a1 a2' a3 k3.sub (Nxt.z hz (g2.trans g3) k3)
            rw [b2.int] at e4
            cases e4
            exact ⟨j, e5, q⟩
  exact go
theorem rev_ok {K : PySem.W.Frag} {F H : Hp} {Q : VK} {d d1 : D} {x : V} (h : p_rev [d1] = .ok d) (a : DA K F H x d1) (s : Same F H) (q : Qz K F H d Q) :
    ∃ p xs, x = .ref p ∧ ((SqL K H p xs ∧ ∀ r, H r = none → Q (.ref r) (upd H r (.lst xs.reverse))) ∨ (SqT K H p xs ∧ ∀ r, H r = none → Q (.ref r) (upd H r (.tup xs.reverse)))) := by
  unfold p_rev at h
  split at h
  · rename_i e; cases e; cases h
    obtain ⟨p, us, rfl, h1, h2⟩ := a.lst s
    exact ⟨p, us, rfl, .inl ⟨SqL.of h1, q.f.lst s h2.rev⟩⟩
  · rename_i e; cases e; cases h
    obtain ⟨p, rfl, h1⟩ := a.scr s
    exact ⟨p, _, rfl, .inl ⟨h1, q.f.lst s (dnInts _).rev⟩⟩
  · rename_i e; cases e; cases h
    obtain ⟨p, us, rfl, h1, h2⟩ := a.tup s
    exact ⟨p, us, rfl, .inr ⟨h1, q.tup s h2.rev⟩⟩
  · cases h
theorem pe_revE (G : Gd C X N sc) {c : E} {x : Expr} {k : Nat} {p1 p2 p3 pos : Pos} (h1 : PE X x (tO C n c)) : PE X (.Subscript x (.Slice none none (some (.UnaryOp .USub (.Constant (.int 1) k p1) p2)) p3) pos) (tE C (n + 1) (.pr .rev [c])) := by
  have hK := G.hK
  refine PE.imp (pe_revA h1) fun σ H Q h => ?_
  rw [hK]
  exact op1 (p := .rev) (r := fun x H Q => ∃ p xs, x = .ref p ∧ ((SqL C.K H p xs ∧ ∀ r, H r = none → Q (.ref r) (upd H r (.lst xs.reverse))) ∨ (SqT C.K H p xs ∧ ∀ r, H r = none → Q (.ref r) (upd H r (.tup xs.reverse))))) (fun a b s q => rev_ok a b s q) (prim_len1 (by simp)) h
/-! built-ins -/
theorem star_O {c : E} {y : Expr} (h : matO (matE n df N sc) N sc c y = true) (env : PySem.Env) : starEach [y] env = (false, eval y env) :: starEach [] env := matO_star h env []
theorem any_O {pos : Pos} {env : PySem.Env} : ∀ {l : List E} {es : List Expr}, matL (matO (matE n df N sc) N sc) l es = true → (backTo pos (starEach es env)).any (·.1) = false
  | [], [], _ => rfl
  | c :: cs, a :: as, h => by
    obtain ⟨h1, h2⟩ := and2 h
    rw [matO_star h1]
    show (false || (backTo pos (starEach as env)).any (·.1)) = false
    rw [any_O h2]
    rfl
  | [], _ :: _, h => by cases h
  | _ :: _, [], h => by cases h
/-- one argument -/
theorem prim1_run {p : Pr} {c : E} {σ : St} {H : Hp} {Q : VK} {r : RR} (hn : ∀ ds d, prim p ds = .ok d → ds.length = 1) (hr : ∀ {F H : Hp} {Q : VK} {d d1 : D} {x : V}, prim p [d1] = .ok d → DA C.K F H x d1 → Same F H → Qz C.K F H d Q → r [x] H Q)
    (h : tE C (n + 1) (.pr p [c]) σ H Q) : tCB r (tA C n [c]) σ H Q := by
  obtain ⟨F, en, k, h⟩ := h
  exact prim_run (R := fun vs H1 => r vs H1 Q) k h (fun vs ds d F1 H1 a e s q => by
    have l := hn ds d e
    match ds, l with
    | [d1], _ =>
      obtain ⟨x, rfl, a1⟩ := a.inv1
      exact hr e a1 s q) (prim_noex p)
theorem prim2_run {p : Pr} {c c2 : E} {σ : St} {H : Hp} {Q : VK} {r : RR} (hn : ∀ ds d, prim p ds = .ok d → ds.length = 2) (hr : ∀ {F H : Hp} {Q : VK} {d d1 d2 : D} {x y : V}, prim p [d1, d2] = .ok d → DA C.K F H x d1 → DA C.K F H y d2 → Same F H → Qz C.K F H d Q → r [x, y] H Q)
    (h : tE C (n + 1) (.pr p [c, c2]) σ H Q) : tCB r (tA C n [c, c2]) σ H Q := by
  obtain ⟨F, en, k, h⟩ := h
  exact prim_run (R := fun vs H1 => r vs H1 Q) k h (fun vs ds d F1 H1 a e s q => by
    have l := hn ds d e
    match ds, l with
    | [d1, d2], _ =>
      obtain ⟨x, y, rfl, a1, a2⟩ := a.inv2
      exact hr e a1 a2 s q) (prim_noex p)
theorem pe_call1E (G : Gd C X N sc) (ih : Sx C X n df N sc) {p : Pr} {c : E} {x : Str} {y : Expr} {p2 pos : Pos} (hb : call1B p x = true) (hg : glbB sc x = true) (h : matO (matE n df N sc) N sc c y = true) : PE X (.Call (.Name x p2) [y] [] pos) (tE C (n + 1) (.pr p [c])) := by
  have hK := G.hK
  have ha : PA X [y] (tA C n [c]) := pa_O G ih (l := [c]) ((Bool.and_eq_true _ _).mpr ⟨h, rfl⟩)
  have hs := star_O h X.env
  unfold call1B at hb
  split at hb
  · have e := of_decide_eq_true hb
    subst e
    exact PE.imp (pe_callB call_len_seq (glb_of G.hs hg) (G.blt _ (by decide)) rfl ha (he := hs) (hpl := rfl)) fun σ H Q h => by rw [hK]; exact prim1_run (p := .len) (r := rLenV C.K) (prim_len1 (by simp)) (fun a b s q => len_ok a b s q) h
  · have e := of_decide_eq_true hb
    subst e
    exact PE.imp (pe_callB call_abs (glb_of G.hs hg) (G.blt _ (by decide)) rfl ha (he := hs) (hpl := rfl)) fun σ H Q h => prim1_run (p := .abs) (r := rAbsV) (prim_len1 (by simp)) (fun a b s q => abs_ok a b s q) h
  · have e := of_decide_eq_true hb
    subst e
    exact PE.imp (pe_callTy call_int1 (glb_of G.hs hg) (G.blt _ (by decide)) rfl ha (he := hs) (hpl := rfl)) fun σ H Q h => prim1_run (p := .int) (r := rIntV) (prim_len1 (by simp)) (fun a b s q => int_ok a b s q) h
  · have e := of_decide_eq_true hb
    subst e
    exact PE.imp (pe_callB (call_reprV G.guards G.room) (glb_of G.hs hg) (G.blt _ (by decide)) rfl ha (he := hs) (hpl := rfl)) fun σ H Q h => by rw [hK]; exact prim1_run (p := .repr) (r := rReprV C.K) (prim_len1 (by simp)) (fun a b s q => repr_ok a b s q) h
  · have e := of_decide_eq_true hb
    subst e
    exact PE.imp (pe_callTy call_list_of (glb_of G.hs hg) (G.blt _ (by decide)) rfl ha (he := hs) (hpl := rfl)) fun σ H Q h => by
      rw [hK]
      exact prim1_run (p := .list) (r := rListV C.K) (prim_len1 (by simp)) (fun {F H Q d d1 x} a b s q => by
        have a : p_list [d1] = .ok d := a
        have a0 := a
        unfold p_list at a
        split at a <;> first
          | (cases a; exact list_okF a0 b s q.f)
          | cases a) h
  · have e := of_decide_eq_true hb
    subst e
    exact PE.imp (pe_callTy call_tuple_of (glb_of G.hs hg) (G.blt _ (by decide)) rfl ha (he := hs) (hpl := rfl)) fun σ H Q h => by rw [hK]; exact prim1_run (p := .tuple) (r := rTupV C.K) (prim_len1 (by simp)) (fun a b s q => tuple_ok a b s q) h
  · have e := of_decide_eq_true hb
    subst e
    exact PE.imp (pe_callB (cr_sum G.calm) (glb_of G.hs hg) (G.blt _ (by decide)) rfl ha (he := hs) (hpl := rfl)) fun σ H Q h => by rw [hK]; exact prim1_run (p := .sum) (r := rSum C.K) (prim_len1 (by simp)) (fun a b s q => sum_ok a b s q) h
  · have e := of_decide_eq_true hb
    subst e
    exact PE.imp (pe_callB (cr_all G.calm) (glb_of G.hs hg) (G.blt _ (by decide)) rfl ha (he := hs) (hpl := rfl)) fun σ H Q h => by rw [hK]; exact prim1_run (p := .all) (r := rAll C.K) (prim_len1 (by simp)) (fun a b s q => all_ok a b s q) h
  · have e := of_decide_eq_true hb
    subst e
    exact PE.imp (pe_callB (cr_any G.calm) (glb_of G.hs hg) (G.blt _ (by decide)) rfl ha (he := hs) (hpl := rfl)) fun σ H Q h => by rw [hK]; exact prim1_run (p := .any) (r := rAny C.K) (prim_len1 (by simp)) (fun a b s q => any_ok a b s q) h
  · cases hb
theorem pe_call2E (G : Gd C X N sc) (ih : Sx C X n df N sc) {p : Pr} {c d : E} {x : Str} {y z : Expr} {p2 pos : Pos} (hb : call2B p x = true) (hg : glbB sc x = true) (h : matO (matE n df N sc) N sc c y = true) (h2 : matO (matE n df N sc) N sc d z = true) : PE X (.Call (.Name x p2) [y, z] [] pos) (tE C (n + 1) (.pr p [c, d])) := by
  have ha : PA X [y, z] (tA C n [c, d]) := pa_O G ih (l := [c, d]) ((Bool.and_eq_true _ _).mpr ⟨h, (Bool.and_eq_true _ _).mpr ⟨h2, rfl⟩⟩)
  have hs := matO_star h X.env [z]
  have hp : (backTo pos (starEach [z] X.env)).any (·.1) = false := any_O (l := [d]) ((Bool.and_eq_true _ _).mpr ⟨h2, rfl⟩)
  unfold call2B at hb
  split at hb
  · have e := of_decide_eq_true hb
    subst e
    exact PE.imp (pe_callB (call_max2 G.calm) (glb_of G.hs hg) (G.blt _ (by decide)) rfl ha (he := hs) (hpl := hp)) fun σ H Q h => prim2_run (p := .max2) (r := rMax2V) (prim_len2 (by simp)) (fun a b c s q => max2_ok a b c s q) h
  · have e := of_decide_eq_true hb
    subst e
    exact PE.imp (pe_callB (call_min2 G.calm) (glb_of G.hs hg) (G.blt _ (by decide)) rfl ha (he := hs) (hpl := hp)) fun σ H Q h => prim2_run (p := .min2) (r := rMin2V) (prim_len2 (by simp)) (fun a b c s q => min2_ok a b c s q) h
  · cases hb
theorem pe_isiE (G : Gd C X N sc) (ih : Sx C X n df N sc) {t : Ty} {c : E} {z : Str} {y : Expr} {p1 p2 pos : Pos} (hg : glbB sc "isinstance" = true) (hb : tyB t z = true) (hz : glbB sc z = true) (h : matO (matE n df N sc) N sc c y = true) :
    PE X (.Call (.Name "isinstance" p1) [y, .Name z p2] [] pos) (tE C (n + 1) (.pr (.isi t) [c])) := by
  have hK := G.hK
  have nm : PE X (.Name z p2) (tC (.ty t.name)) := by
    unfold tyB at hb
    cases t <;> (have e := of_decide_eq_true hb; subst e; exact pe_bltn (glb_of G.hs hz) (G.blt _ (by decide)) rfl rfl)
  refine PE.imp (pe_callB (t := tCons (tO C n c) (tCons (tC (.ty t.name)) tNil)) call_isi (glb_of G.hs hg) (G.blt _ (by decide)) rfl (pa_cons (pe_O G ih h) (pa_cons nm pa_nil rfl) (matO_star h _ _)) (he := matO_star h _ _) (hpl := rfl)) fun σ H Q h => ?_
  rw [hK]
  exact op1 (p := .isi t) (r := fun x H Q => rIsi C.K [x, .ty t.name] H Q) (fun a b s q => isi_ok a b s q) (prim_len1 (by simp)) h
/-! displays -/
theorem das_all {l : List E} {σ : St} {H : Hp} {Q : VK} {p : Pr} {R : List V → Hp → Prop} (hr : ∀ vs ds d F1 H1, DAs C.K F1 H1 vs ds → prim p ds = .ok d → Same F1 H1 → Qz C.K F1 H1 d Q → R vs H1) (h : tE C (n + 1) (.pr p l) σ H Q) : tA C n l σ H R := by
  obtain ⟨F, en, k, h⟩ := h
  exact prim_run k h hr (prim_noex p)
theorem das_len {K : PySem.W.Frag} {F H : Hp} : ∀ {vs : List V} {ds : List D}, DAs K F H vs ds → vs.length = ds.length
  | _, _, .nil => rfl
  | _, _, .cons _ t => by rw [List.length_cons, List.length_cons, das_len t]
theorem das_F {K : PySem.W.Frag} {F H : Hp} : ∀ {vs : List V} {ds : List D}, DAs K F H vs ds → (∀ v d, v ∈ vs → DA K F H v d → Dn K F v d) → DnA K F vs ds
  | _, _, .nil, _ => .nil
  | _, _, .cons a t, h => .cons (h _ _ List.mem_cons_self a) (das_F t fun v d m => h v d (List.mem_cons_of_mem _ m))
end
end Vm
end
section
set_option Elab.async false
set_option linter.all false
set_option maxRecDepth 100000
namespace Vm
open PySem PySem.Spec L2
section
variable {C : Cg} {X : Cx} {N : List Str} {sc : Scope} {n : Nat} {df : Str → List D}
/-! displays -/
theorem evArgs_strict {f : E → En → R (D × En)} : ∀ {l : List E}, l.all noBw = true → ∀ en, evArgs f l en = (evList f l en).bind fun q => .ok (q.1.map AV.d, q.2)
  | [], _, en => rfl
  | e :: es, h, en => by
    rw [List.all_cons] at h
    obtain ⟨h1, h2⟩ := and2 h
    have e1 : evArgs f (e :: es) en = (f e en).bind fun p => (evArgs f es p.2).bind fun q => .ok (.d p.1 :: q.1, q.2) := by
      cases e <;> first | rfl | cases h1
    rw [e1]
    show _ = ((f e en).bind fun p => (evList f es p.2).bind fun q => .ok (p.1 :: q.1, q.2)).bind _
    cases f e en with
    | bad => rfl
    | ex _ _ => rfl
    | ok p =>
      show (evArgs f es p.2).bind _ = ((evList f es p.2).bind _).bind _
      rw [evArgs_strict h2 p.2]
      cases evList f es p.2 <;> rfl
theorem resolveD_map (en : En) : ∀ ds : List D, resolveD en (ds.map AV.d) = some ds
  | [] => rfl
  | d :: ds => by
    show (resolveD en (ds.map AV.d)).map (d :: ·) = some (d :: ds)
    rw [resolveD_map en ds]
    rfl
theorem prim_strict {T : Tab} {p : Pr} {l : List E} (h : l.all noBw = true) (en : En) : evE T (n + 1) (.pr p l) en = (evList (evE T n) l en).bind fun q => (prim p q.1).bind fun d => .ok (d, q.2) := by
  show ((evArgs (evE T n) l en).bind fun q => match resolveD q.2 q.1 with
      | none => .bad
      | some ds => (prim p ds).bind fun d => .ok (d, q.2)) = _
  rw [evArgs_strict h]
  cases evList (evE T n) l en with
  | bad => rfl
  | ex _ _ => rfl
  | ok q =>
    show (match resolveD q.2 (q.1.map AV.d) with
      | none => R.bad
      | some ds => (prim p ds).bind fun d => .ok (d, q.2)) = _
    rw [resolveD_map]
    rfl
theorem pe_tupE (ih : Sx C X n df N sc) {l : List E} {es : List Expr} {k : Nat} {pos : Pos} (hb : l.all noBw = true) (h : matL (matE n df N sc) l es = true) : PE X (.Tuple es k pos) (tE C (n + 1) (.pr .tup l)) := by
  refine PE.imp (pe_tup (pa_L ih h)) fun σ H Q h => ?_
  obtain ⟨F, en, ok, h⟩ := h
  rw [prim_strict hb] at h
  refine list_run l ok ?_
  cases r : evList (evE C.T n) l en with
  | bad => rw [r] at h; exact h
  | ex _ _ => rw [r] at h; exact h
  | ok q =>
    rw [r] at h
    intro vs F1 H1 g1 k1 dn
    have h : Res C σ F H en ((if q.1.length ≤ lineN then R.ok (D.tup q.1) else .bad).bind fun d => .ok (d, q.2)) Q := h
    split at h
    · rename_i z
      exact ⟨by rw [dn.len]; exact line_of z, Qz.tup (Nxt.z h g1 k1) k1.sub dn⟩
    · exact h.elim
theorem pe_lstF (ih : Sx C X n df N sc) {l : List E} {es : List Expr} {pos : Pos} (hb : l.all noBw = true) (h : matL (matE n df N sc) l es = true) : PE X (.List es pos) (tF C (n + 1) (.pr .lst l)) := by
  refine PE.imp (pe_lst (pa_L ih h)) fun σ H Q h => ?_
  obtain ⟨F, en, ok, h⟩ := h
  rw [prim_strict hb] at h
  refine list_run l ok ?_
  cases r : evList (evE C.T n) l en with
  | bad => rw [r] at h; exact h
  | ex _ _ => rw [r] at h; exact h
  | ok q =>
    rw [r] at h
    intro vs F1 H1 g1 k1 dn
    have h : ResF C σ F H en ((if q.1.length ≤ lineN then R.ok (D.lst q.1) else .bad).bind fun d => .ok (d, q.2)) Q := h
    split at h
    · rename_i z
      obtain ⟨ds, e, h⟩ := h
      cases e
      exact ⟨by rw [dn.len]; exact line_of z, Qf.lst (NxtF.z h g1 k1) k1.sub dn⟩
    · exact h.elim
theorem lst_isL {T : Tab} {l : List E} (hb : l.all noBw = true) {en : En} {p : D × En} (h : evE T (n + 1) (.pr .lst l) en = .ok p) : ∃ ds, p.1 = .lst ds := by
  rw [prim_strict hb] at h
  cases r : evList (evE T n) l en with
  | bad => rw [r] at h; cases h
  | ex _ _ => rw [r] at h; cases h
  | ok q =>
    rw [r] at h
    have h : (if q.1.length ≤ lineN then R.ok (D.lst q.1) else .bad).bind (fun d => R.ok (d, q.2)) = .ok p := h
    split at h <;> cases h
    exact ⟨_, rfl⟩
/-! chains -/
theorem ch_run {o p : Pr} {oo pp : CmpOp} {a b c : E} {r r' : R2} (hb : cmpB o oo = true) (hb2 : cmpB p pp = true) (hs : OpS C.K o r) (hs2 : OpS C.K p r') {σ : St} {H : Hp} {Q : VK} (h : tE C (n + 1) (.ch o p a b c) σ H Q) : tChain r r' (tE C n a) (tE C n b) (tE C n c) σ H Q := by
  obtain ⟨F, en, ok, h⟩ := h
  have h : Res C σ F H en ((evList (evE C.T n) [a, b] en).bind fun q => match q.1 with
      | [x, y] => (prim o [x, y]).bind fun z => match z with
        | .bl true => (evE C.T n c q.2).bind fun r => (prim p [y, r.1]).bind fun d => .ok (d, r.2)
        | .bl false => .ok (.bl false, q.2)
        | _ => .bad
      | _ => .bad) Q := h
  have go : tLs C n [a, b] σ H fun vs H2 => match vs with
    | [x, y] => r x y H2 fun z H3 => ∃ k, z = .bl k ∧ (if k = true then tE C n c σ H3 fun w' H4 => r' y w' H4 Q else Q (.bl false) H3)
    | _ => False := by
    refine list_run [a, b] ok ?_
    cases e : evList (evE C.T n) [a, b] en with
    | bad => rw [e] at h; exact h
    | ex _ _ => rw [e] at h; exact h
    | ok q =>
      rw [e] at h
      obtain ⟨ds, en1⟩ := q
      intro vs F1 H1 g1 k1 dn
      match ds, vs, dn with
      | [x, y], [v, u], .cons d1 (.cons d2 .nil) =>
        have h : Res C σ F H en ((prim o [x, y]).bind fun z => match z with
          | .bl true => (evE C.T n c en1).bind fun r => (prim p [y, r.1]).bind fun d => .ok (d, r.2)
          | .bl false => .ok (.bl false, en1)
          | _ => .bad) Q := h
        cases e2 : prim o [x, y] with
        | bad => rw [e2] at h; exact h.elim
        | ex c m => exact absurd e2 (prim_noex o _ c m)
        | ok z =>
          rw [e2] at h
          obtain ⟨k, rfl⟩ := cmp_bl hb e2
          refine hs e2 (.inl d1) (.inl d2) k1.sub ?_
          intro v' F2 H2 px dn2
          cases dn2
          refine ⟨k, rfl, ?_⟩
          cases k with
          | false =>
            rw [if_neg (fun z => nomatch z)]
            have h : Nxt C σ F H en en1 (.bl false) Q := h
            exact h _ F2 H2 (g1.trans px.go) (k1.px px) (.bl _)
          | true =>
            rw [if_pos rfl]
            have h : Res C σ F H en ((evE C.T n c en1).bind fun r => (prim p [y, r.1]).bind fun d => .ok (d, r.2)) Q := h
            refine ⟨F2, en1, k1.px px, ?_⟩
            cases e3 : evE C.T n c en1 with
            | bad => rw [e3] at h; exact h
            | ex _ _ => rw [e3] at h; exact Wish.mono h (g1.trans px.go).sub
            | ok q3 =>
              rw [e3] at h
              intro w F3 H3 g3 k3 dn3
              have h : Res C σ F H en ((prim p [y, q3.1]).bind fun d => .ok (d, q3.2)) Q := h
              cases e4 : prim p [y, q3.1] with
              | bad => rw [e4] at h; exact h.elim
              | ex c m => exact absurd e4 (prim_noex p _ c m)
              | ok d =>
                rw [e4] at h
                exact hs2 e4 (.inl ((d2.up px.sub).up g3.sub)) (.inl dn3) k3.sub (Nxt.z h ((g1.trans px.go).trans g3) k3)
      | [], _, _ => exact h.elim
      | [_], _, _ => exact h.elim
      | _ :: _ :: _ :: _, _, _ => exact h.elim
  exact go
theorem last_no {o p : CmpOp} {b c : Expr} (h1 : p ≠ .In) (h2 : p ≠ .NotIn) : lastMarks [o, p] [b, c] = false := nobehind c h1 h2
theorem pe_chE (G : Gd C X N sc) {o p : Pr} {oo pp : CmpOp} {a b c : E} {x y z : Expr} {pos : Pos} (hb : cmpB o oo = true) (hb2 : cmpB p pp = true) (h1 : PE X x (tE C n a)) (h2 : PE X y (tE C n b)) (h3 : PE X z (tE C n c)) :
    PE X (.Compare x [oo, pp] [y, z] pos) (tE C (n + 1) (.ch o p a b c)) ∧ PT X (.Compare x [oo, pp] [y, z] pos) (tT C (n + 1) (.ch o p a b c)) := by
  obtain ⟨r, ho, hs, _, n1, n2⟩ := cmp_ok G hb
  obtain ⟨r', ho', hs', _, m1, m2⟩ := cmp_ok G hb2
  exact ⟨PE.imp (pe_chain ho ho' h1 h2 h3 (last_no m1 m2)) fun σ H Q h => ch_run hb hb2 hs hs' h, PT.imp (pt_chain ho ho' h1 h2 h3 (last_no m1 m2)) fun σ H Q h => ch_run hb hb2 hs hs' (of_test h)⟩
/-! calls -/
theorem argsOk_app {K : PySem.W.Frag} {F H : Hp} {vs : List V} {ss : List Slot} {o : Option Addr} (a : ArgsOk K F H vs ss o) : ∀ {us : List V} {dl : List D}, DnA K F us dl → ArgsOk K F H (vs ++ us) (ss ++ dl.map Slot.val) o := by
  induction a with
  | nil e =>
    intro us dl d
    subst e
    induction d using DnA.rec (motive_1 := fun _ _ _ => True) with
    | nil => exact .nil rfl
    | cons h _ _ ih => exact .val h ih
    | _ => trivial
  | val h _ ih => intro us dl d; exact .val h (ih d)
  | own h1 h2 h3 _ ih => intro us dl d; exact .own h1 h2 h3 (ih d)
theorem nolR_false {d : D} (h : nolR false d = true) : d.nol = true := by
  unfold nolR at h
  simpa using h
theorem call_run (G : Gd C X N sc) {f : Str} {l : List E} {dl : List D} {dvs : List V} (hd : ∀ F, DnA C.K F dvs dl) {σ : St} {H : Hp} {Q : VK} {F : Hp} {en : En} (k : Ok C.B C.K F H σ en)
    (hex : ∀ c m, evE C.T (n + 1) (.call f l dl) en = .ex c m → Wish C σ F c m)
    (hok : ∀ d en2, evE C.T (n + 1) (.call f l dl) en = .ok (d, en2) → ∀ v H1 F2 H2, Go σ F H en F2 H2 en2 → Ok C.B C.K F2 H2 σ en2 → (∀ a, H a ≠ none → H1 a ≠ none) → (∀ (i : Nat) (l : List D), en2[i]? = some (Slot.own l) → ∃ p, σ[i]? = some (some (V.ref p)) ∧ H1 p ≠ none) →
      RetOk (C.T.fresh f) C.K F2 H1 H2 v d → Q v H2)
    (hb : evE C.T (n + 1) (.call f l dl) en ≠ .bad) (has : C.T.has f = true) : tG (SpOf C.K C.xi (C.T.fresh f) (C.T.call f)) dvs (WE C.W) (tA C n l) σ H Q := by
  refine args_run l k ?_
  have e0 : evE C.T (n + 1) (.call f l dl) en = ((evArgs (evE C.T n) l en).bind fun q => if ioFine q.1 then (match resolve q.2 q.1 with
      | none => .bad
      | some ss => (C.T.call f (ss ++ dl.map .val)).bind fun r => if safeB (C.T.fresh f) q.1 r then (putBack q.1 r.2 q.2).bind fun en2 => .ok (r.1, en2) else .bad) else .bad) := by
    exact if_pos has
  rw [e0] at hex hok hb
  cases r : evArgs (evE C.T n) l en with
  | bad => rw [r] at hb; exact hb rfl
  | ex c m => rw [r] at hex; exact hex c m rfl
  | ok q =>
    obtain ⟨as, en1⟩ := q
    rw [r] at hex hok hb
    have e1 : ((R.ok (as, en1)).bind fun (q : List AV × En) => if ioFine q.1 then (match resolve q.2 q.1 with
      | none => .bad
      | some ss => (C.T.call f (ss ++ dl.map .val)).bind fun r => if safeB (C.T.fresh f) q.1 r then (putBack q.1 r.2 q.2).bind fun en2 => .ok (r.1, en2) else .bad) else .bad) = if ioFine as then (match resolve en1 as with
      | none => .bad
      | some ss => (C.T.call f (ss ++ dl.map .val)).bind fun r => if safeB (C.T.fresh f) as r then (putBack as r.2 en1).bind fun en2 => .ok (r.1, en2) else .bad) else R.bad (α := D × En) := rfl
    rw [e1] at hex hok hb
    cases fine : ioFine as with
    | false => rw [fine] at hb; exact absurd rfl hb
    | true =>
      rw [fine] at hex hok hb
      cases rs : resolve en1 as with
      | none => rw [rs] at hb; exact absurd rfl hb
      | some ss =>
        rw [rs] at hex hok hb
        intro vs F1 H1 g1 k1 av
        have bwF : ∀ a, Bw σ as a → F1 a = none := fun a z => by
          obtain ⟨_, _, _, _, _, _, _, q⟩ := bw_own k1 rs z
          exact q
        have hG : Same F1 (addB F1 H1 σ as) := fun a o e => by
          rw [addB_out (fun z => by rw [bwF a z] at e; cases e)]; exact e
        have hS : Same (addB F1 H1 σ as) H1 := fun a o e => by
          by_cases z : Bw σ as a
          · rw [addB_in z] at e; exact e
          · rw [addB_out z] at e; exact k1.sub _ _ e
        have c1 : ioCount as ≤ 1 := of_decide_eq_true (and2 fine).1
        have args : ArgsOk C.K (addB F1 H1 σ as) H1 vs ss (ioAddr σ as) := argsOk (as := as) k1 hG (fun i l p us _ h2 h3 h4 => by rw [addB_in ⟨i, h3, h2⟩]; exact h4) (fun p hp => by
          rw [addB_out (io_bw k1 rs fine hp)]
          obtain ⟨_, _, _, _, _, _, _, q, _⟩ := io_own k1 rs hp
          exact q) av rs (fun a z => z) c1 (.inr rfl)
        refine ⟨addB F1 H1 σ as, ioAddr σ as, ss ++ dl.map Slot.val, hS, argsOk_app args (hd _), ?_⟩
        simp only at hex hok hb
        cases rc : C.T.call f (ss ++ dl.map .val) with
        | bad => rw [rc] at hb; exact absurd rfl hb
        | ex c m =>
          rw [rc] at hex
          have w := hex c m rfl
          intro cls dx F' H' bk xi
          refine w cls dx (Vm.subB F' σ as) H' ?_ ?_ (G.xif c m cls dx F' _ H' xi)
          · refine g1.sub.trans fun a o e => ?_
            have nb : ¬ Bw σ as a := fun z => by rw [bwF a z] at e; cases e
            rw [subB_out nb]
            exact bk.bsub a o (hG a o e)
          · refine ⟨fun a o e => ?_, k1.bsub.trans fun a o e => ?_, fun a e e' => ?_, fun a o e e' => ?_, fun a e => bk.bdom a (k1.bdom a e)⟩
            · by_cases z : Bw σ as a
              · rw [subB_in z] at e; cases e
              · rw [subB_out z] at e; exact bk.sub _ _ e
            · have nb : ¬ Bw σ as a := fun z => by rw [bwF a z] at e; cases e
              rw [subB_out nb]
              exact bk.bsub a o (hG a o e)
            · by_cases z : Bw σ as a
              · exact subB_in z
              · rw [subB_out z]
                exact bk.bnew a (by show addB F1 H1 σ as a = none; rw [addB_out z]; exact k1.bnew a e e') (k1.bdom a e')
            · refine bk.bkeep a o (k1.bkeep a o e e') fun z => ?_
              obtain ⟨_, _, _, _, _, _, _, _, q⟩ := io_own k1 rs z
              rcases q with q | q
              · exact e' q
              · rw [q] at e; cases e
        | ok r =>
          rw [rc] at hex hok hb
          have e2 : ((R.ok r).bind fun r => if safeB (C.T.fresh f) as r then (putBack as r.2 en1).bind fun en2 => .ok (r.1, en2) else .bad) = if safeB (C.T.fresh f) as r then (putBack as r.2 en1).bind fun en2 => .ok (r.1, en2) else R.bad (α := D × En) := rfl
          rw [e2] at hex hok hb
          cases sf : safeB (C.T.fresh f) as r with
          | false => rw [sf] at hb; exact absurd rfl hb
          | true =>
            rw [sf] at hex hok hb
            cases pb : putBack as r.2 en1 with
            | bad => rw [pb] at hb; exact absurd rfl hb
            | ex c m =>
              unfold putBack at pb
              split at pb <;> cases pb
            | ok en2 =>
              rw [pb] at hok
              intro v F' H' bk out ret
              have safe : hasB as = false ∨ (nolR (C.T.fresh f) r.1 = true ∧ ∀ l, r.2 = some l → D.nolAll l = true) := by
                unfold safeB at sf
                cases z : hasB as with
                | false => exact .inl rfl
                | true =>
                  rw [z] at sf
                  obtain ⟨s1, s2⟩ := and2 (show (nolR (C.T.fresh f) r.1 && _) = true from sf)
                  refine .inr ⟨s1, fun l e => ?_⟩
                  rw [e] at s2
                  exact s2
              obtain ⟨go, ok2⟩ := call_back k1 rs fine bk out (safe.imp id fun z => z.2) pb
              have bwF' : ∀ a, Bw σ as a → ∃ us, F' a = some (.lst us) := fun a h => by
                obtain ⟨i, l, us, _, _, _, h1, h2⟩ := bw_own k1 rs h
                exact ⟨us, bk.bsub a _ (by show addB F1 H1 σ as a = _; rw [addB_in h]; exact h1)⟩
              refine hok r.1 en2 rfl v H1 (Vm.subB F' σ as) H' (g1.trans go) ok2 g1.dom (fun i l e => ?_) ?_
              · cases o : ownAt en1 i with
                | none =>
                  rw [go.vals i o] at e
                  rw [ownAt_some.mpr e] at o; cases o
                | some m =>
                  obtain ⟨p, us, q1, q2, _⟩ := k1.own i m (ownAt_some.mp o)
                  exact ⟨p, q1, some_ne q2⟩
              · unfold RetOk at ret ⊢
                cases fr : C.T.fresh f with
                | false =>
                  rw [fr] at ret safe
                  rw [if_neg (fun z => nomatch z)] at ret ⊢
                  rcases safe with s | s
                  · rw [subB_of s]; exact ret
                  · exact Dn.subB bwF' _ _ (nolR_false s.1) ret
                | true =>
                  rw [fr] at ret safe
                  rw [if_pos rfl] at ret ⊢
                  obtain ⟨p, us, ds, q1, q2, q3, q4, q5, q6⟩ := ret
                  refine ⟨p, us, ds, q1, q2, q3, ?_, q5, ?_⟩
                  · by_cases z : Bw σ as p
                    · exact subB_in z
                    · rw [subB_out z]; exact q4
                  · rcases safe with s | s
                    · rw [subB_of s]; exact q6
                    · refine DnA.subB bwF' _ _ ?_ q6
                      have s1 := s.1
                      rw [q2] at s1
                      exact s1
/-- a returned value, frozen if it is new -/
theorem ret_froze {K : PySem.W.Frag} {B : Bs} {fr : Bool} {σ : St} {F H F2 H1 H2 : Hp} {en en2 : En} {v : V} {d : D} (k : Ok B K F H σ en) (g : Go σ F H en F2 H2 en2) (k2 : Ok B K F2 H2 σ en2) (dm : ∀ a, H a ≠ none → H1 a ≠ none) (no : ∀ (i : Nat) (l : List D), en2[i]? = some (Slot.own l) → ∃ p, σ[i]? = some (some (V.ref p)) ∧ H1 p ≠ none)
    (r : RetOk fr K F2 H1 H2 v d) : ∃ F3, Go σ F H en F3 H2 en2 ∧ Ok B K F3 H2 σ en2 ∧ Dn K F3 v d := by
  unfold RetOk at r
  cases fr with
  | false => rw [if_neg (fun z => nomatch z)] at r; exact ⟨F2, g, k2, r⟩
  | true =>
    rw [if_pos rfl] at r
    obtain ⟨p, us, ds, rfl, rfl, q3, q4, q5, q6⟩ := r
    have hp : H p = none := by
      cases z : H p with
      | none => rfl
      | some o => exact absurd q3 (dm p (some_ne z))
    obtain ⟨s, k3, g3⟩ := k.fz g k2 hp q4 q5 fun i l h1 h2 => by
      obtain ⟨p', e1, e2⟩ := no i l h1
      rw [h2] at e1
      cases e1
      exact e2 q3
    exact ⟨_, g3, k3, .lst upd_same (q6.up s)⟩
theorem pe_callE (G : Gd C X N sc) (ih : Sx C X n df N sc) {f x : Str} {l : List E} {dl : List D} {y : Expr} {ys : List Expr} {p pos : Pos} (hx : x = f) (hg : glbB sc x = true) (ho : okName x = true) (hd : (dl.isEmpty || lSame (C.T.dflt f) dl) = true)
    (h : matL (matO (matE n df N sc) N sc) l (y :: ys) = true) : PE X (.Call (.Name x p) (y :: ys) [] pos) (tE C (n + 1) (.call f l dl)) ∧ (C.T.fresh f = true → PE X (.Call (.Name x p) (y :: ys) [] pos) (tF C (n + 1) (.call f l dl))) := by
  subst hx
  cases has : C.T.has x with
  | true =>
    obtain ⟨k, fa, fd, ps, hm, hk, room, F, dfl⟩ := G.call x has
    obtain ⟨ds, dvs, hb, hv, hdn⟩ := dfl dl hd
    have hs : starEach (y :: ys) X.env = (false, eval y X.env) :: starEach ys X.env := by
      match l, h with
      | c :: cs, h => exact matO_star (and2 h).1 _ _
    have hp : (backTo pos (starEach ys X.env)).any (·.1) = false := by
      match l, h with
      | c :: cs, h => exact any_O (and2 h).2
    have pe := pe_G F G.guards room (glb_of G.hs hg) hm hk hb hv G.pass (pa_O G ih h) (okName_of ho).1 hs hp (p := p)
    have hK := G.hK
    rw [hK] at pe hdn
    refine ⟨PE.imp pe fun σ H Q h => ?_, fun fr => PE.imp pe fun σ H Q h => ?_⟩
    · obtain ⟨F0, en, k0, h⟩ := h
      refine call_run G hdn k0 (fun c m e => by rw [e] at h; exact h) (fun d en2 e v H1 F2 H2 g2 k2 dm no ret => ?_) (fun e => by rw [e] at h; exact h) has
      rw [e] at h
      obtain ⟨F3, g3, k3, dn⟩ := ret_froze k0 g2 k2 dm no ret
      exact h v F3 H2 g3 k3 dn
    · obtain ⟨F0, en, k0, h⟩ := h
      refine call_run G hdn k0 (fun c m e => by rw [e] at h; exact h) (fun d en2 e v H1 F2 H2 g2 k2 dm no ret => ?_) (fun e => by rw [e] at h; exact h) has
      rw [e] at h
      obtain ⟨ds', e1, h⟩ := h
      unfold RetOk at ret
      rw [fr, if_pos rfl] at ret
      obtain ⟨p, us, ds, rfl, e2, q3, q4, q5, q6⟩ := ret
      have e1 : d = .lst ds' := e1
      rw [e2] at e1
      cases e1
      refine h p us F2 H2 g2 k2 ?_ q4 q5 q6 fun i l h1 h2 => ?_
      · cases z : H p with
        | none => rfl
        | some o => exact absurd q3 (dm p (some_ne z))
      · obtain ⟨p', e1, e2⟩ := no i l h1
        rw [h2] at e1
        cases e1
        exact e2 q3
  | false =>
    have e : ∀ en, evE C.T (n + 1) (.call x l dl) en = .bad := fun en => by
      show (if C.T.has x then _ else R.bad) = _
      rw [has]
      rfl
    refine ⟨⟨fun pins s σ H Q I h => ?_⟩, fun _ => ⟨fun pins s σ H Q I h => ?_⟩⟩
    · obtain ⟨F, en, k, h⟩ := h
      rw [e] at h
      exact h.elim
    · obtain ⟨F, en, k, h⟩ := h
      rw [e] at h
      exact h.elim
end
end Vm
end
section
set_option Elab.async false
set_option linter.all false
set_option maxRecDepth 100000
namespace Vm
open PySem PySem.Spec L2
section
variable {C : Cg} {X : Cx} {N : List Str} {sc : Scope} {n : Nat} {df : Str → List D}
/-- a comprehension's parts -/
theorem lc_parts (G : Gd C X N sc) (ihn : ∀ (C : Cg) (X : Cx) (N : List Str) (sc : Scope), Gd C X N sc → Sx C X n C.T.dflt N sc) {elt : E} {tg : Tg} {k : Ik} {l : List E} {cond : Option E} {vs : List Nat} {a : Expr} (h : matE (n + 1) C.T.dflt N sc (.lc elt tg k l cond vs) a = true) :
    ∃ gt gi gf x scope pos own, a = .ListComp x [⟨gt, gi, gf, 0⟩] scope pos ∧ own.map (·.2) = vs ∧ PI X gt gi (tI C n k l) ∧ BlkOk X.N X.env.scope scope own ∧
      (∀ (s : Shared) (H : Hp) (A : Addr) (cl : List (Str × Addr)) (fp : List Addr), PG (X.blk s H scope (compEnvC scope cl A X.env) fp) gt (gT C.K tg)) ∧ (∀ (s : Shared) (H : Hp) (A : Addr) (cl : List (Str × Addr)) (fp : List Addr), PTs (X.blk s H scope (compEnvC scope cl A X.env) fp) gf (tC0 (quiet C) n cond)) ∧
      (∀ (s : Shared) (H : Hp) (A : Addr) (cl : List (Str × Addr)) (fp : List Addr), PE (X.blk s H scope (compEnvC scope cl A X.env) fp) x (tE (quiet C) n elt)) ∧ (∀ x, foldedSetIterable gi X.env x = pure x) ∧ (∀ j ∈ tgS tg, j ∈ vs) := by
  unfold matE at h
  simp only at h
  split at h
  · rename_i x g scope pos
    obtain ⟨h, h7⟩ := and2 h
    obtain ⟨h, h6⟩ := and2 h
    obtain ⟨h, h5⟩ := and2 h
    obtain ⟨h, h4⟩ := and2 h
    obtain ⟨h, h3⟩ := and2 h
    obtain ⟨h1, h2⟩ := and2 h
    obtain ⟨gt, gi, gf, ga⟩ := g
    have e0 : ga = 0 := of_decide_eq_true h1
    subst e0
    have hK := G.hK
    have ih := ihn C X N sc G
    have fs : ∀ x, foldedSetIterable gi X.env x = pure x := by
      unfold matI at h2
      split at h2
      · exact (ev_ok h2).2 _
      all_goals first
        | (simp only at h2
           split at h2
           · exact fun _ => rfl
           · cases h2)
        | cases h2
    have own : (ownL N vs).map (·.2) = vs := by
      unfold ownL
      rw [List.map_map]
      exact List.map_id' vs
    have ok := blkOk_by h6
    rw [← G.hN, ← G.hs] at ok
    have hl : ∀ (s : Shared) (H : Hp) (A : Addr) (cl : List (Str × Addr)) (fp : List Addr) x, locB scope x = true → L2.Loc (X.blk s H scope (compEnvC scope cl A X.env) fp).env.scope x ∧ ((X.blk s H scope (compEnvC scope cl A X.env) fp).fn x = true ∨ (X.blk s H scope (compEnvC scope cl A X.env) fp).env.scope.names.lookup x = some .local) := fun s H A cl fp x hx => by
      unfold locB at hx
      split at hx
      · rename_i e
        have q : (relS scope X.env.scope).names.lookup x = some .local := lookup_relS_keep (fun z => nomatch z) e
        exact ⟨.inl q, .inr q⟩
      · rename_i e
        have q : (relS scope X.env.scope).names.lookup x = some .cell := lookup_relS_keep (fun z => nomatch z) e
        refine ⟨.inr q, .inl ?_⟩
        show (scope.names.lookup x == some NameKind.cell) = true
        rw [e]; rfl
      · cases hx
    have tgI : ∀ j ∈ tgS tg, j ∈ vs := by
      cases tg with
      | n i =>
        intro j hj
        rw [List.mem_singleton.mp hj]
        exact List.contains_iff_mem.mp h4
      | t is =>
        intro j hj
        have h4 : (is.all fun i => vs.contains i) = true := h4
        exact List.contains_iff_mem.mp ((List.all_eq_true.mp h4) j hj)
    refine ⟨gt, gi, gf, x, scope, pos, ownL X.N vs, rfl, ?_, pi_E G ih h2 h3, ok, fun s H A cl fp => ?_, fun s H A cl fp => ?_, fun s H A cl fp => (ihn (quiet C) _ N (relS scope sc) (G.blk s H scope cl A fp) elt x h5).1, fs, tgI⟩
    · rw [G.hN]; exact own
    · rw [← hK]
      exact pg_T G.hN G.nd G.calm (hl s H A cl fp) h3
    · cases cond with
      | none => cases gf with
        | nil => exact pts_nil
        | cons _ _ => cases h7
      | some c => cases gf with
        | nil => cases h7
        | cons y ys => cases ys with
          | nil => exact pts_one (ihn (quiet C) _ N (relS scope sc) (G.blk s H scope cl A fp) c y h7).2
          | cons _ _ => cases h7
  · cases h
/-- a comprehension, as a new list -/
theorem pe_lcF (G : Gd C X N sc) (ihn : ∀ (C : Cg) (X : Cx) (N : List Str) (sc : Scope), Gd C X N sc → Sx C X n C.T.dflt N sc) {elt : E} {tg : Tg} {k : Ik} {l : List E} {cond : Option E} {vs : List Nat} {a : Expr} (h : matE (n + 1) C.T.dflt N sc (.lc elt tg k l cond vs) a = true) :
    PE X a (tF C (n + 1) (.lc elt tg k l cond vs)) ∧ ∀ whole, isTrue a X.env whole = (do let v ← whole; standAt a.pos; holding [v] (truthy v)) := by
  obtain ⟨gt, gi, gf, x, scope, pos, own, rfl, ow, p1, p2, p3, p4, p5, p6, p7⟩ := lc_parts G ihn h
  refine ⟨PE.imp (pe_lc G.calm G.nd p1 p2 p3 p4 p5 p6) fun σ H Q h => ?_, fun _ => rfl⟩
  rw [ow]
  exact lc_tF p7 h
theorem plain_ix {y : Expr} (h : (!isSlice y) = true) : PlainIx y := by
  cases y <;> first
    | exact fun _ _ => rfl
    | cases h
theorem pt_iteE {t a b : E} {x y z : Expr} {pos : Pos} (ht : PT X x (tT C n t)) (ha : PT X y (tT C n a)) (hb : PT X z (tT C n b)) : PT X (.IfExp x y z pos) (tT C (n + 1) (.ite t a b)) := by
  refine ⟨fun pins s σ H Q I h => ?_⟩
  refine PyProof.Rows.isTrue_IfExp ?_
  have go : tT C n t σ H fun c H1 => if c = true then tT C n a σ H1 Q else tT C n b σ H1 Q := by
    refine test_bindT (f := fIte C.T n a b) fIte_bad h fun c F1 H1 en1 k1 h1 => ?_
    cases c with
    | true => exact iteT ⟨F1, en1, k1, h1⟩
    | false => exact iteF ⟨F1, en1, k1, h1⟩
  refine thn (ht.run pins s σ H _ I go) fun c s1 ⟨H1, I1, q⟩ => ?_
  cases c with
  | true => exact ha.run pins s1 σ H1 Q I1 q
  | false => exact hb.run pins s1 σ H1 Q I1 q
theorem pe_of_tF {c : E} {a : Expr} (h : PE X a (tF C n c)) (hl : ∀ en p, evE C.T n c en = .ok p → ∃ ds, p.1 = .lst ds) : PE X a (tE C n c) := PE.imp h fun σ H Q q => tF_of hl q
theorem snd : ∀ (n : Nat) (C : Cg) (X : Cx) (N : List Str) (sc : Scope), Gd C X N sc → Sx C X n C.T.dflt N sc
  | 0, _, _, _, _, _ => fun _ _ h => by cases h
  | n + 1, C, X, N, sc, G => fun c a h => by
    have ih := snd n C X N sc G
    have val : PE X a (tE C (n + 1) c) → (∀ whole, isTrue a X.env whole = (do let v ← whole; standAt a.pos; holding [v] (truthy v))) → PE X a (tE C (n + 1) c) ∧ PT X a (tT C (n + 1) c) := fun p q => ⟨p, pt_of p q⟩
    cases c with
    | bw _ => cases h
    | io _ => cases h
    | c d =>
      unfold matE at h
      simp only at h
      split at h
      · exact val (pe_const h G) fun _ => rfl
      · cases h
    | g x =>
      unfold matE at h
      simp only at h
      split at h
      · obtain ⟨h, h3⟩ := and2 h
        obtain ⟨h1, h2⟩ := and2 h
        have e := of_decide_eq_true h1
        subst e
        exact val (pe_globE ((Bool.and_eq_true _ _).mpr ⟨h2, h3⟩) G) fun _ => rfl
      · cases h
    | v i =>
      have h : varB N sc i a = true := h
      refine val (pe_slot h G) ?_
      unfold varB at h
      split at h
      · exact fun _ => rfl
      · cases h
    | and_ c d =>
      unfold matE at h
      simp only at h
      split at h
      · rename_i x y r pos
        obtain ⟨h1, h2⟩ := and2 h
        have i1 := ih _ _ h1
        cases r with
        | nil =>
          have i2 := ih _ _ h2
          exact ⟨pe_andE i1.1 (pe_one i2.1), (pt_andE i1.2 (pw_and1 i2.2)).pt⟩
        | cons z zs =>
          have i2 := ih _ _ h2
          exact ⟨pe_andE i1.1 i2.1, (pt_andE i1.2 ⟨fun wh pins s σ H Q I q => i2.2.run pins s σ H Q I q⟩).pt⟩
      · cases h
    | or_ c d =>
      unfold matE at h
      simp only at h
      split at h
      · rename_i x y r pos
        obtain ⟨h1, h2⟩ := and2 h
        have i1 := ih _ _ h1
        cases r with
        | nil =>
          have i2 := ih _ _ h2
          exact ⟨pe_orE i1.1 (pe_one i2.1), (pt_orE i1.2 (pw_or1 i2.2)).pt⟩
        | cons z zs =>
          have i2 := ih _ _ h2
          exact ⟨pe_orE i1.1 i2.1, (pt_orE i1.2 ⟨fun wh pins s σ H Q I q => i2.2.run pins s σ H Q I q⟩).pt⟩
      · cases h
    | ite t c d =>
      unfold matE at h
      simp only at h
      split at h
      · obtain ⟨h, h3⟩ := and2 h
        obtain ⟨h1, h2⟩ := and2 h
        exact ⟨pe_iteE (ih _ _ h1).2 (ih _ _ h2).1 (ih _ _ h3).1, pt_iteE (ih _ _ h1).2 (ih _ _ h2).2 (ih _ _ h3).2⟩
      · cases h
    | ch o p c d e =>
      unfold matE at h
      simp only at h
      split at h
      · obtain ⟨h, h5⟩ := and2 h
        obtain ⟨h, h4⟩ := and2 h
        obtain ⟨h, h3⟩ := and2 h
        obtain ⟨h1, h2⟩ := and2 h
        exact pe_chE G h1 h2 (ih _ _ h3).1 (ih _ _ h4).1 (ih _ _ h5).1
      · cases h
    | call f l dl =>
      unfold matE at h
      simp only at h
      split at h
      · obtain ⟨h, h5⟩ := and2 h
        obtain ⟨h, h4⟩ := and2 h
        obtain ⟨h, h3⟩ := and2 h
        obtain ⟨h1, h2⟩ := and2 h
        exact val (pe_callE G ih (of_decide_eq_true h1) h2 h3 h4 h5).1 fun _ => rfl
      · cases h
    | lc elt tg k l cond vs =>
      obtain ⟨p, q⟩ := pe_lcF G (snd n) h
      exact val (pe_of_tF p fun en p e => lc_isL e) q
    | pr p l =>
      unfold matE at h
      simp only at h
      split at h
      · obtain ⟨h, h3⟩ := and2 h
        obtain ⟨h1, h2⟩ := and2 h
        have e := of_decide_eq_true h1
        subst e
        exact val (pe_tupE ih h2 h3) fun _ => rfl
      · obtain ⟨h, h3⟩ := and2 h
        obtain ⟨h1, h2⟩ := and2 h
        have e := of_decide_eq_true h1
        subst e
        exact val (PE.imp (pe_lstF ih h2 h3) fun σ H Q q => tF_of (fun en p e => lst_isL h2 e) q) fun _ => rfl
      · obtain ⟨h1, h2⟩ := and2 h
        have e := of_decide_eq_true h1
        subst e
        have i := ih _ _ h2
        exact ⟨pe_notE (by rw [tO_of h2]; exact i.1), pt_notE (strict_of h2) i.2⟩
      · obtain ⟨h1, h2⟩ := and2 h
        have e := of_decide_eq_true h1
        subst e
        exact val (pe_negE (by rw [tO_of h2]; exact (ih _ _ h2).1)) fun _ => rfl
      · obtain ⟨h, h3⟩ := and2 h
        obtain ⟨h1, h2⟩ := and2 h
        exact val (pe_binE G h1 (pe_O G ih h2) (pe_O G ih h3)) fun _ => rfl
      · obtain ⟨h1, h2⟩ := and2 h
        have e := of_decide_eq_true h1
        subst e
        exact pe_isE G (pe_O G ih h2)
      · obtain ⟨h1, h2⟩ := and2 h
        have e := of_decide_eq_true h1
        subst e
        exact pe_nisE G (pe_O G ih h2)
      · obtain ⟨h, h3⟩ := and2 h
        obtain ⟨h1, h2⟩ := and2 h
        exact pe_cmpE G h1 (pe_O G ih h2) (pe_O G ih h3)
      · obtain ⟨h, h3⟩ := and2 h
        obtain ⟨h1, h2⟩ := and2 h
        have e := of_decide_eq_true h1
        subst e
        exact val (pe_slAE G (pe_O G ih h2) (by rw [tO_of h3]; exact (ih _ _ h3).1)) fun _ => rfl
      · obtain ⟨h, h3⟩ := and2 h
        obtain ⟨h1, h2⟩ := and2 h
        have e := of_decide_eq_true h1
        subst e
        exact val (pe_slBE G (pe_O G ih h2) (by rw [tO_of h3]; exact (ih _ _ h3).1)) fun _ => rfl
      · obtain ⟨h, h5⟩ := and2 h
        obtain ⟨h, h4⟩ := and2 h
        obtain ⟨h, h3⟩ := and2 h
        obtain ⟨h1, h2⟩ := and2 h
        have e := of_decide_eq_true h1
        subst e
        exact val (pe_slCE G h2 (pe_O G ih h3) (by rw [tO_of h4]; exact (ih _ _ h4).1) (ih _ _ h5).1) fun _ => rfl
      · obtain ⟨h1, h2⟩ := and2 h
        have e := of_decide_eq_true h1
        subst e
        exact val (pe_revE G (pe_O G ih h2)) fun _ => rfl
      · obtain ⟨h, h4⟩ := and2 h
        obtain ⟨h, h3⟩ := and2 h
        obtain ⟨h1, h2⟩ := and2 h
        have e := of_decide_eq_true h1
        subst e
        exact val (pe_ixE G (plain_ix h2) (pe_O G ih h3) (pe_O G ih h4)) fun _ => rfl
      · obtain ⟨h, h3⟩ := and2 h
        obtain ⟨h1, h2⟩ := and2 h
        exact val (pe_call1E G ih h1 h2 h3) fun _ => rfl
      · split at h
        · obtain ⟨h, h5⟩ := and2 h
          obtain ⟨h, h4⟩ := and2 h
          obtain ⟨h, h3⟩ := and2 h
          obtain ⟨h1, h2⟩ := and2 h
          have e := of_decide_eq_true h1
          subst e
          exact val (pe_isiE G ih h2 h3 h4 h5) fun _ => rfl
        · cases h
      · obtain ⟨h, h4⟩ := and2 h
        obtain ⟨h, h3⟩ := and2 h
        obtain ⟨h1, h2⟩ := and2 h
        exact val (pe_call2E G ih h1 h2 h3 h4) fun _ => rfl
      · cases h
end
end Vm
end
section
set_option Elab.async false
set_option linter.all false
set_option maxRecDepth 100000
namespace Vm
open PySem PySem.Spec L2
/-! ### statements: codes -/
inductive S where
  | asg (tg : Tg) (e : E)
  | asgO (i : Nat) (e : E)
  | par (is : List Nat) (es : List E)
  | setI (i : Nat) (ix e : E)
  | app (i : Nat) (e : E)
  | pop (i : Nat)
  | rem (i : Nat) (e : E)
  | expr (e : E)
  | ret (e : E)
  | retF (e : E)
  | retO (i : Nat)
  | ite (t : E) (a b : List S)
  | whl (t : E) (b : List S)
  | for_ (tg : Tg) (k : Ik) (l : List E) (b : List S)
  | brk | cont | pass | stop
  | frz (i : Nat)
  | wip (vs : List Nat)
inductive O where
  | nx (en : En) | rt (d : D) (en : En) | bk (en : En) | ct (en : En) | ex (c : Str) (l : List D) | bad
def R.o {α : Type} (r : R α) (f : α → O) : O := match r with
  | .ok a => f a
  | .ex c l => .ex c l
  | .bad => .bad
def O.seq (r : O) (f : En → O) : O := match r with
  | .nx en => f en
  | r => r
/-- at a loop's body's end -/
def O.turn (r : O) (f : En → O) : O := match r with
  | .nx en => f en
  | .ct en => f en
  | .bk en => .nx en
  | r => r
def runL (f : S → En → O) : List S → En → O
  | [], en => .nx en
  | s :: ss, en => (f s en).seq (runL f ss)
def loopW (test : En → R (D × En)) (body : En → O) : Nat → En → O
  | 0, _ => .bad
  | k + 1, en => (test en).o fun p => match p.1 with
    | .bl true => (body p.2).turn (loopW test body k)
    | .bl false => .nx p.2
    | _ => .bad
def loopF (tg : Tg) (body : En → O) : List D → En → O
  | [], en => .nx en
  | d :: ds, en => match setTg tg d en with
    | none => .bad
    | some en1 => (body en1).turn (loopF tg body ds)
def ioIn (io : Option Nat) (vs : List Nat) : Bool := match io with
  | some i => vs.contains i
  | none => false
def exS (T : Tab) (K : Nat) (io : Option Nat) (fr : Bool) : Nat → S → En → O
  | 0, _, _ => .bad
  | n + 1, s, en => match s with
    | .asg tg e => (evE T n e en).o fun p => match setTg tg p.1 p.2 with
      | some en1 => .nx en1
      | none => .bad
    | .asgO i e => if io = some i then .bad else (evE T n e en).o fun p => match p.1 with
      | .lst l => .nx (p.2.set i (.own l))
      | _ => .bad
    | .par is es => (evList (evE T n) es en).o fun p => match setMany is p.1 p.2 with
      | some en1 => .nx en1
      | none => .bad
    | .setI i ix e => if (ownAt en i).isSome then (evE T n e en).o fun p => (evE T n ix p.2).o fun q => match q.1, ownAt q.2 i with
      | .int k, some l => (match ixN l.length k with
        | some j => .nx (q.2.set i (.own (l.set j p.1)))
        | none => .bad)
      | _, _ => .bad else .bad
    | .app i e => if (ownAt en i).isSome then (evE T n e en).o fun p => match ownAt p.2 i with
      | some l => if l.length < lineN then .nx (p.2.set i (.own (l ++ [p.1]))) else .bad
      | none => .bad else .bad
    | .pop i => (match ownAt en i with
      | some l => if l = [] then .bad else .nx (en.set i (.own l.dropLast))
      | none => .bad)
    | .rem i e => if (ownAt en i).isSome then (evE T n e en).o fun p => match p.1, ownAt p.2 i with
      | .int k, some l => (match intsD l with
        | some ns => if k ∈ ns then .nx (p.2.set i (.own ((ns.erase k).map D.int))) else .bad
        | none => .bad)
      | _, _ => .bad else .bad
    | .expr e => (evE T n e en).o fun p => .nx p.2
    | .ret e => if fr then .bad else (evE T n e en).o fun p => .rt p.1 p.2
    | .retF e => if fr then (evE T n e en).o fun p => match p.1 with
      | .lst l => .rt (.lst l) p.2
      | _ => .bad else .bad
    | .retO i => if io = some i then .bad else match ownAt en i with
      | some l => .rt (.lst l) (if fr then en else en.set i (.val (.lst l)))
      | none => .bad
    | .ite t a b => (evE T n t en).o fun p => match p.1 with
      | .bl true => runL (exS T K io fr n) a p.2
      | .bl false => runL (exS T K io fr n) b p.2
      | _ => .bad
    | .whl t b => loopW (evE T n t) (runL (exS T K io fr n) b) K en
    | .for_ tg k l b => (evList (evE T n) l en).o fun p => match items k p.1 with
      | some ds => loopF tg (runL (exS T K io fr n) b) ds p.2
      | none => .bad
    | .brk => .bk en
    | .cont => .ct en
    | .pass => .nx en
    | .stop => .bad
    | .frz i => if io = some i then .bad else match ownAt en i with
      | some l => .nx (en.set i (.val (.lst l)))
      | none => .bad
    | .wip vs => if ioIn io vs then .bad else .nx (wipeE en vs)

/-! ### does a code say what the text says -/
def isLc : Expr → Bool
  | .ListComp _ _ _ _ => true
  | .SetComp _ _ _ _ => true
  | .DictComp _ _ _ _ _ => true
  | _ => false
def isTup : Expr → Bool
  | .Tuple _ _ _ => true
  | .List _ _ => true
  | _ => false
def isStar : Expr → Bool
  | .Starred .. => true
  | _ => false
/-- no swapped stores -/
def swN (sc : Scope) (t e : Expr) : Bool := match t, e with
  | .Tuple ts _ _, .Tuple vs _ _ => !(ts.length == 2 || ts.length == 3) || vs.all (foldedForSure 8) && !(vs.any fun | .Starred .. => true | _ => false)
  | .Tuple _ _ _, .Set _ _ _ => false
  | .Tuple _ _ _, _ => true
  | .List _ _, _ => false
  | _, _ => true
def lcName (sc scope : Scope) (t e : Expr) : Bool := match t with
  | .Name y py => decide (sc.names.lookup y = some .local) && (py.line == e.pos.line) && !(scope.names.any fun (n, k) => n == y && (k == .local || k == .cell))
  | _ => false
def lcSc : Expr → Option Scope
  | .ListComp _ _ s _ => some s
  | _ => none
/-- the stores of a name by a comprehension -/
def lcOk (sc : Scope) (t e : Expr) : Bool := match lcSc e with
  | some s => lcName sc s t e
  | none => !isLc e
def nmB (N : List Str) (sc : Scope) (i : Nat) : Expr → Bool
  | .Name x _ => decide (N[i]? = some x) && visB sc x && okName x
  | _ => false
/-- codes that make a new list -/
def frE (T : Str → Bool) : E → Bool
  | .lc _ _ _ _ _ _ => true
  | .pr .lst l => l.all noBw
  | .pr .list _ => true
  | .pr .add _ => true
  | .pr .mul _ => true
  | .pr .slA _ => true
  | .pr .slB _ => true
  | .call f _ _ => T f
  | _ => false
def matSL (f : S → Stmt → Bool) : List S → List Stmt → Bool
  | .frz _ :: cs, ss => matSL f cs ss
  | .wip _ :: cs, ss => matSL f cs ss
  | .stop :: _, _ => true
  | [], [] => true
  | c :: cs, s :: ss => f c s && matSL f cs ss
  | _, _ => false
def parB (sc : Scope) (t e : Expr) : Bool := match t, e with
  | .Tuple [.Name x px, .Name y py] _ _, .Tuple [a, b] _ _ => (px.line == py.line) && !(x == y) && decide (sc.names.lookup x = some .local) && decide (sc.names.lookup y = some .local) && !isStar a && !isStar b && !([a, b].all (foldedForSure 8)) && !([a, b].all (constantsAlone 8))
  | _, _ => false
def matS (fr : Str → Bool) (df : Str → List D) (N : List Str) (sc : Scope) : Nat → S → Stmt → Bool
  | 0, _, _ => false
  | n + 1, c, st => match c with
    | .asg tg e => (match st with
      | .Assign [t] a _ => matT N sc tg t && matE n df N sc e a && swN sc t a && lcOk sc t a
      | _ => false)
    | .asgO i e => (match st with
      | .Assign [t] a _ => nameB N sc i t && matE n df N sc e a && frE fr e && lcOk sc t a
      | _ => false)
    | .par is es => (match is, st with
      | [i, j], .Assign [.Tuple ts k p] (.Tuple as k2 p2) _ => parB sc (.Tuple ts k p) (.Tuple as k2 p2) && namesB N sc [i, j] ts && matL (matE n df N sc) es as
      | _, _ => false)
    | .setI i ix e => (match st with
      | .Assign [.Subscript x y _] a _ => nmB N sc i x && matE n df N sc ix y && !isSlice y && matE n df N sc e a
      | _ => false)
    | .app i e => (match st with
      | .Expr (.Call (.Attribute x y apos) [a] [] cpos) pos => nmB N sc i x && decide (y = "append") && (apos.endLine == cpos.line) && matE n df N sc e a
      | _ => false)
    | .pop i => (match st with
      | .Expr (.Call (.Attribute x y apos) [] [] cpos) pos => nmB N sc i x && decide (y = "pop") && (apos.endLine == cpos.line)
      | _ => false)
    | .rem i e => (match st with
      | .Expr (.Call (.Attribute x y apos) [a] [] cpos) pos => nmB N sc i x && decide (y = "remove") && (apos.endLine == cpos.line) && matE n df N sc e a
      | _ => false)
    | .expr e => (match st with
      | .Expr a _ => matE n df N sc e a && !isLc a
      | _ => false)
    | .ret e => (match st with
      | .Return (some a) _ => matE n df N sc e a
      | _ => false)
    | .retF e => (match st with
      | .Return (some a) _ => matE n df N sc e a && frE fr e
      | _ => false)
    | .retO i => (match st with
      | .Return (some a) _ => nmB N sc i a
      | _ => false)
    | .ite t a b => (match st with
      | .If x p q _ => matE n df N sc t x && matSL (matS fr df N sc n) a p && matSL (matS fr df N sc n) b q
      | _ => false)
    | .whl t b => (match st with
      | .While x p [] _ => matE n df N sc t x && matSL (matS fr df N sc n) b p
      | _ => false)
    | .for_ tg k l b => (match st with
      | .For t a p [] _ => matI (matE n df N sc) sc tg k l a && matT N sc tg t && matSL (matS fr df N sc n) b p
      | _ => false)
    | .brk => (match st with
      | .Break _ => true
      | _ => false)
    | .cont => (match st with
      | .Continue _ => true
      | _ => false)
    | .pass => (match st with
      | .Pass _ => true
      | _ => false)
    | .stop => true
    | .frz _ => false
    | .wip _ => false

/-! ### states behind a store -/
section
variable {B : Bs} {K : PySem.W.Frag} {F H : Hp} {σ : St} {en : En}
/-- an own list rewritten -/
theorem Ok.put {i : Nat} {l l' : List D} {p : Addr} {us' : List V} (k : Ok B K F H σ en) (h : en[i]? = some (Slot.own l)) (hp : σ[i]? = some (some (V.ref p))) (dn : DnA K F us' l') : Ok B K F (upd H p (.lst us')) σ (en.set i (.own l')) := by
  obtain ⟨p0, us, e1, e2, e3, e4, e5⟩ := k.own i l h
  rw [hp] at e1
  cases e1
  have lt := (List.getElem?_eq_some_iff.mp h).1
  have get : ∀ j, (en.set i (.own l'))[j]? = if i = j then some (Slot.own l') else en[j]? := fun j => by
    by_cases z : i = j
    · subst z; rw [List.getElem?_set_self lt, if_pos rfl]
    · rw [List.getElem?_set_ne z, if_neg z]
  have back : ∀ j m, (en.set i (.own l'))[j]? = some (Slot.own m) → ∃ m', en[j]? = some (Slot.own m') := fun j m e => by
    rw [get] at e
    split at e
    · rename_i z; subst z; exact ⟨l, h⟩
    · exact ⟨m, e⟩
  refine ⟨by rw [List.length_set]; exact k.len, fun j d e => ?_, fun j m e => ?_, fun j1 j2 m1 m2 q h1 h2 h3 h4 => ?_, fun a o e => ?_, k.bsub, k.bnew, fun a o e e' => ?_, fun a e => upd_dom (k.bdom a e), fun j q e => ?_⟩
  · rw [get] at e
    split at e
    · cases e
    · exact k.val j d e
  · rw [get] at e
    split at e
    · rename_i z
      subst z
      cases e
      exact ⟨p, us', hp, upd_same, dn, e4, e5⟩
    · rename_i z
      obtain ⟨q, vs, f1, f2, f3, f4, f5⟩ := k.own j m e
      have ne : q ≠ p := fun w => by subst w; exact z (k.inj i j l m q h e hp f1)
      exact ⟨q, vs, f1, by rw [upd_ne ne]; exact f2, f3, f4, f5⟩
  · obtain ⟨m1', q1⟩ := back j1 m1 h1
    obtain ⟨m2', q2⟩ := back j2 m2 h2
    exact k.inj j1 j2 m1' m2' q q1 q2 h3 h4
  · rw [upd_ne (ne_of_none e e4)]; exact k.sub _ _ e
  · rw [upd_ne (fun w => by
      subst w
      rcases e5 with z | z
      · exact e' z
      · rw [z] at e; cases e)]
    exact k.bkeep a o e e'
  · obtain ⟨f1, f2⟩ := k.pin j q e
    refine ⟨f1, ?_⟩
    by_cases z : i = j
    · have q : (en.set i (.own l'))[j]? = some (Slot.own l') := by rw [get, if_pos z]
      rw [ownAt_some.mpr q]
      exact fun w => nomatch w
    · unfold ownAt at f2 ⊢
      rw [get, if_neg z]
      exact f2
/-- slots forgotten -/
theorem Ok.forget {vs : List Nat} (k : Ok B K F H σ en) (ni : ∀ i q, B.pin i q → i ∉ vs) : Ok B K F H σ (wipeE en vs) := by
  have no : ∀ (i : Nat) (s : Slot), s ≠ .no → (wipeE en vs)[i]? = some s → en[i]? = some s := fun i s hs e => by
    rw [wipeE_get] at e
    split at e
    · cases z : en[i]? with
      | none => rw [z] at e; cases e
      | some s' => rw [z] at e; exact absurd (Option.some.inj e).symm hs
    · exact e
  refine ⟨by rw [wipeE_len]; exact k.len, fun i d e => k.val i d (no i _ (fun z => nomatch z) e), fun i l e => k.own i l (no i _ (fun z => nomatch z) e), fun i j l m p e1 e2 => k.inj i j l m p (no i _ (fun z => nomatch z) e1) (no j _ (fun z => nomatch z) e2), k.sub, k.bsub, k.bnew, k.bkeep, k.bdom, fun i p e => ?_⟩
  obtain ⟨f1, f2⟩ := k.pin i p e
  refine ⟨f1, ?_⟩
  unfold ownAt at f2 ⊢
  rw [wipeE_get, if_neg (ni i p e)]
  exact f2
theorem own_newB {i : Nat} {l : List D} {p : Addr} (k : Ok B K F H σ en) (h : en[i]? = some (Slot.own l)) (hp : σ[i]? = some (some (V.ref p))) (hP : ∀ q, B.P q → ∃ j, B.pin j q) (ni : ∀ q, ¬ B.pin i q) : B.H p = none := by
  obtain ⟨p0, us, e1, e2, e3, e4, e5⟩ := k.own i l h
  rw [hp] at e1
  cases e1
  rcases e5 with z | z
  · obtain ⟨j, hj⟩ := hP p z
    obtain ⟨f1, f2⟩ := k.pin j p hj
    obtain ⟨m, hm⟩ := ne_some f2
    have e := k.inj i j l m p h (ownAt_some.mp hm) hp f1
    subst e
    exact absurd hj (ni p)
  · exact z
/-- an own list frozen -/
theorem Ok.frz {i : Nat} {l : List D} (k : Ok B K F H σ en) (h : en[i]? = some (Slot.own l)) (hP : ∀ q, B.P q → ∃ j, B.pin j q) (ni : ∀ q, ¬ B.pin i q) : ∃ F' p, Same F F' ∧ σ[i]? = some (some (V.ref p)) ∧ Dn K F' (.ref p) (.lst l) ∧ Ok B K F' H σ (en.set i (.val (.lst l))) := by
  obtain ⟨p, us, e1, e2, e3, e4, e5⟩ := k.own i l h
  have nb := own_newB k h e1 hP ni
  have s : Same F (upd F p (.lst us)) := fun b u z => by rw [upd_ne (ne_of_none z e4)]; exact z
  have lt := (List.getElem?_eq_some_iff.mp h).1
  have get : ∀ j, (en.set i (.val (.lst l)))[j]? = if i = j then some (Slot.val (.lst l)) else en[j]? := fun j => by
    by_cases z : i = j
    · subst z; rw [List.getElem?_set_self lt, if_pos rfl]
    · rw [List.getElem?_set_ne z, if_neg z]
  have dn : Dn K (upd F p (.lst us)) (.ref p) (.lst l) := .lst upd_same (e3.up s)
  refine ⟨_, p, s, e1, dn, by rw [List.length_set]; exact k.len, fun j d e => ?_, fun j m e => ?_, fun j1 j2 m1 m2 q h1 h2 h3 h4 => ?_, fun a o e => ?_, k.bsub.trans s, fun a e e' => ?_, k.bkeep, k.bdom, fun j q e => ?_⟩
  · rw [get] at e
    split at e
    · rename_i z
      subst z
      cases e
      exact ⟨_, e1, dn⟩
    · obtain ⟨v, f1, f2⟩ := k.val j d e
      exact ⟨v, f1, f2.up s⟩
  · rw [get] at e
    split at e
    · cases e
    · rename_i z
      obtain ⟨q, vs, f1, f2, f3, f4, f5⟩ := k.own j m e
      have ne : q ≠ p := fun w => by subst w; exact z (k.inj i j l m q h e e1 f1)
      exact ⟨q, vs, f1, f2, f3.up s, by rw [upd_ne ne]; exact f4, f5⟩
  · rw [get] at h1 h2
    split at h1
    · cases h1
    · split at h2
      · cases h2
      · exact k.inj j1 j2 m1 m2 q h1 h2 h3 h4
  · by_cases w : a = p
    · subst w; rw [upd_same] at e; cases e; exact e2
    · rw [upd_ne w] at e; exact k.sub _ _ e
  · have ne : a ≠ p := fun w => by subst w; exact e' nb
    rw [upd_ne ne]; exact k.bnew a e e'
  · obtain ⟨f1, f2⟩ := k.pin j q e
    refine ⟨f1, ?_⟩
    have ne : i ≠ j := fun w => by subst w; exact ni q e
    unfold ownAt at f2 ⊢
    rw [get, if_neg ne]
    exact f2
/-- a new list stored -/
theorem Ok.new {i : Nat} {ds : List D} {p : Addr} {us : List V} (k : Ok B K F H σ en) (bp : B.H p = none) (f : F p = none) (hp : H p = some (.lst us)) (dn : DnA K F us ds) (no : ∀ (j : Nat) (l : List D), en[j]? = some (Slot.own l) → σ[j]? ≠ some (some (V.ref p))) (ni : ∀ q, ¬ B.pin i q) :
    Ok B K F H (σ.set i (some (.ref p))) (en.set i (.own ds)) := by
  by_cases lt : i < en.length
  · have lt' : i < σ.length := by rw [← k.len]; exact lt
    have get : ∀ j, (en.set i (.own ds))[j]? = if i = j then some (Slot.own ds) else en[j]? := fun j => by
      by_cases z : i = j
      · subst z; rw [List.getElem?_set_self lt, if_pos rfl]
      · rw [List.getElem?_set_ne z, if_neg z]
    have getS : ∀ j, (σ.set i (some (V.ref p)))[j]? = if i = j then some (some (V.ref p)) else σ[j]? := fun j => by
      by_cases z : i = j
      · subst z; rw [List.getElem?_set_self lt', if_pos rfl]
      · rw [List.getElem?_set_ne z, if_neg z]
    refine ⟨by rw [List.length_set, List.length_set]; exact k.len, fun j d e => ?_, fun j m e => ?_, fun j1 j2 m1 m2 q h1 h2 h3 h4 => ?_, k.sub, k.bsub, k.bnew, k.bkeep, k.bdom, fun j q e => ?_⟩
    · rw [get] at e
      rw [getS]
      split at e
      · cases e
      · rename_i z
        rw [if_neg z]
        exact k.val j d e
    · rw [get] at e
      rw [getS]
      split at e
      · rename_i z
        cases e
        rw [if_pos z]
        exact ⟨p, us, rfl, hp, dn, f, .inr bp⟩
      · rename_i z
        rw [if_neg z]
        exact k.own j m e
    · rw [get] at h1 h2
      rw [getS] at h3 h4
      by_cases z1 : i = j1
      · by_cases z2 : i = j2
        · rw [← z1, ← z2]
        · rw [if_neg z2] at h2 h4
          rw [if_pos z1] at h3
          cases h3
          exact absurd h4 (no j2 m2 h2)
      · rw [if_neg z1] at h1 h3
        by_cases z2 : i = j2
        · rw [if_pos z2] at h4
          cases h4
          exact absurd h3 (no j1 m1 h1)
        · rw [if_neg z2] at h2 h4
          exact k.inj j1 j2 m1 m2 q h1 h2 h3 h4
    · obtain ⟨f1, f2⟩ := k.pin j q e
      have ne : i ≠ j := fun w => by subst w; exact ni q e
      refine ⟨by rw [getS, if_neg ne]; exact f1, ?_⟩
      unfold ownAt at f2 ⊢
      rw [get, if_neg ne]
      exact f2
  · have ge : en.length ≤ i := by omega
    rw [List.set_eq_of_length_le ge, List.set_eq_of_length_le (show σ.length ≤ i by rw [← k.len]; exact ge)]
    exact k
end
end Vm
end
section
set_option Elab.async false
set_option linter.all false
set_option maxRecDepth 100000
namespace Vm
open PySem PySem.Spec L2
section
variable {C : Cg} {X : Cx} {N : List Str} {sc : Scope} {n : Nat} {df : Str → List D}
/-! ### codes that make a new list -/
def OpSF (K : PySem.W.Frag) (p : Pr) (r : R2) : Prop := ∀ {F H : Hp} {Q : VK} {es : List D} {d1 d2 : D} {x y : V}, prim p [d1, d2] = .ok (.lst es) → DA K F H x d1 → DA K F H y d2 → Same F H → Qf K F H es Q → r x y H Q
theorem op2F {p : Pr} {c c2 : E} {σ : St} {H : Hp} {Q : VK} {r : R2} (hr : OpSF C.K p r) (hn : ∀ ds d, prim p ds = .ok d → ds.length = 2) (h : tF C (n + 1) (.pr p [c, c2]) σ H Q) : tOp r (tO C n c) (tO C n c2) σ H Q := by
  obtain ⟨F, en, k, h⟩ := h
  exact prim_runF (R := fun vs H1 => match vs with
    | [x, y] => r x y H1 Q
    | _ => False) k h (fun vs ds es F1 H1 a e s q => by
    have l := hn ds _ e
    match ds, l with
    | [d1, d2], _ =>
      obtain ⟨x, y, rfl, a1, a2⟩ := a.inv2
      exact hr e a1 a2 s q) (prim_noex p)
theorem addF : OpSF C.K .add (rAddV C.K) := fun {F H Q es d1 d2 x y} e0 a b s q => by
  have e : p_add [d1, d2] = .ok (.lst es) := e0
  clear e0
  unfold p_add at e
  split at e
  · cases e
  · split at e <;> cases e
  · rename_i l m w
    cases w
    split at e
    · rename_i z
      cases e
      exact add_okF z a b s q
    · cases e
  · cases e
theorem mulF : OpSF C.K .mul (rMulV C.K) := fun {F H Q es d1 d2 x y} e0 a b s q => by
  have e : p_mul [d1, d2] = .ok (.lst es) := e0
  clear e0
  unfold p_mul at e
  split at e
  · split at e <;> cases e
  · rename_i l m w
    cases w
    split at e
    · rename_i z
      cases e
      exact mul_okF z a b s q
    · cases e
  · split at e <;> cases e
  · cases e
theorem slAF : OpSF C.K .slA (fun x y H Q => ∃ i, y = .int i ∧ rSl C.K x none (some i) H Q) := fun {F H Q es d1 d2 x y} e0 a b s q => by
  have e : p_slA [d1, d2] = .ok (.lst es) := e0
  clear e0
  unfold p_slA at e
  split at e
  · rename_i w; cases w; cases e; exact ⟨_, b.int, slL_okF a s q⟩
  · rename_i w; cases w; cases e; exact ⟨_, b.int, slS_okF a s q⟩
  · cases e
  · cases e
theorem slBF : OpSF C.K .slB (fun x y H Q => ∃ i, y = .int i ∧ rSl C.K x (some i) none H Q) := fun {F H Q es d1 d2 x y} e0 a b s q => by
  have e : p_slB [d1, d2] = .ok (.lst es) := e0
  clear e0
  unfold p_slB at e
  split at e
  · rename_i w; cases w; cases e; exact ⟨_, b.int, slL_okF a s q⟩
  · rename_i w; cases w; cases e; exact ⟨_, b.int, slS_okF a s q⟩
  · cases e
  · cases e
theorem pe_F (G : Gd C X N sc) {c : E} {a : Expr} (hf : frE C.T.fresh c = true) (h : matE n C.T.dflt N sc c a = true) : PE X a (tF C n c) := by
  have hK := G.hK
  cases n with
  | zero => cases h
  | succ n =>
    have ih := snd n C X N sc G
    cases c <;> first | cases hf | skip
    · rename_i p l
      cases p <;> first | cases hf | skip
      -- a list display
      · unfold matE at h
        simp only at h
        split at h <;> first
          | (obtain ⟨h, h3⟩ := and2 h
             obtain ⟨h1, h2⟩ := and2 h
             first
              | (cases h1; done)
              | exact pe_lstF ih h2 h3)
          | (exfalso; simp [binB, cmpB, call1B, call2B] at h; done)
          | cases h
          | (exfalso; split at h <;> simp_all; done)
      -- +
      · unfold matE at h
        simp only at h
        split at h <;> first
          | (rename_i x o y pos c d
             obtain ⟨h, h3⟩ := and2 h
             obtain ⟨h1, h2⟩ := and2 h
             have e : o = .Add := by cases o <;> first | rfl | cases h1
             subst e
             exact PE.imp (pe_op op_addV (pe_O G ih h2) (pe_O G ih h3)) fun σ H Q q => by rw [hK]; exact op2F addF (prim_len2 (by simp)) q)
          | (exfalso; simp [binB, cmpB, call1B, call2B] at h; done)
          | cases h
          | (exfalso; split at h <;> simp_all; done)
      -- *
      · unfold matE at h
        simp only at h
        split at h <;> first
          | (rename_i x o y pos c d
             obtain ⟨h, h3⟩ := and2 h
             obtain ⟨h1, h2⟩ := and2 h
             have e : o = .Mult := by cases o <;> first | rfl | cases h1
             subst e
             exact PE.imp (pe_op op_mulV (pe_O G ih h2) (pe_O G ih h3)) fun σ H Q q => by rw [hK]; exact op2F mulF (prim_len2 (by simp)) q)
          | (exfalso; simp [binB, cmpB, call1B, call2B] at h; done)
          | cases h
          | (exfalso; split at h <;> simp_all; done)
      · unfold matE at h
        simp only at h
        split at h <;> first
          | (obtain ⟨h, h3⟩ := and2 h
             obtain ⟨h1, h2⟩ := and2 h
             exact PE.imp (pe_slice sl_V (pe_O G ih h2) po_none (po_some (pe_O G ih (matO_of h3)))) fun σ H Q q => by rw [hK]; exact op2F slAF (prim_len2 (by simp)) q)
          | (exfalso; simp [binB, cmpB, call1B, call2B] at h; done)
          | cases h
          | (exfalso; split at h <;> simp_all; done)
      · unfold matE at h
        simp only at h
        split at h <;> first
          | (obtain ⟨h, h3⟩ := and2 h
             obtain ⟨h1, h2⟩ := and2 h
             exact PE.imp (pe_slice sl_V (pe_O G ih h2) (po_some (pe_O G ih (matO_of h3))) po_none) fun σ H Q q => by rw [hK]; exact op2F slBF (prim_len2 (by simp)) q)
          | (exfalso; simp [binB, cmpB, call1B, call2B] at h; done)
          | cases h
          | (exfalso; split at h <;> simp_all; done)
      · unfold matE at h
        simp only at h
        split at h <;> first
          | (rename_i x p2 y pos c
             obtain ⟨h, h3⟩ := and2 h
             obtain ⟨h1, h2⟩ := and2 h
             have e : x = "list" := of_decide_eq_true h1
             subst e
             exact PE.imp (pe_callTy call_list_of (glb_of G.hs h2) (G.blt _ (by decide)) rfl (pa_O G ih (l := [c]) ((Bool.and_eq_true _ _).mpr ⟨h3, rfl⟩)) (he := star_O h3 X.env) (hpl := rfl)) fun σ H Q q => by
               rw [hK]
               obtain ⟨F, en, k, q⟩ := q
               exact prim_runF (R := fun vs H1 => rListV C.K vs H1 Q) k q (fun vs ds es F1 H1 a e s q => by
                 have l := prim_len1 (p := .list) (by simp) ds _ e
                 match ds, l with
                 | [d1], _ =>
                   obtain ⟨x, rfl, a1⟩ := a.inv1
                   exact list_okF e a1 s q) (prim_noex .list))
          | (exfalso; simp [binB, cmpB, call1B, call2B] at h; done)
          | cases h
          | (exfalso; split at h <;> simp_all; done)
    · unfold matE at h
      simp only at h
      split at h
      · obtain ⟨h, h5⟩ := and2 h
        obtain ⟨h, h4⟩ := and2 h
        obtain ⟨h, h3⟩ := and2 h
        obtain ⟨h1, h2⟩ := and2 h
        exact (pe_callE G ih (of_decide_eq_true h1) h2 h3 h4 h5).2 hf
      · cases h
    · exact (pe_lcF G (snd n) h).1
end
end Vm
end
section
set_option Elab.async false
set_option linter.all false
set_option maxRecDepth 100000
namespace Vm
open PySem PySem.Spec L2
structure Gs (C : Cg) (X : Cx) (N : List Str) (sc : Scope) (io : Option Nat) : Prop extends Gd C X N sc where
  fn : ∀ x, sc.names.lookup x = some .cell → X.fn x = true
  thru : PassesOwn (model X.prog X.w) X.A X.env X.xe
  kind : sc.kind = .function
  pinP : ∀ q, C.B.P q → ∃ j, C.B.pin j q
  pinI : ∀ j q, C.B.pin j q → io = some j
def WishS (C : Cg) (c : Str) (l : List D) : Prop := ∀ σ cls dx F' H', Bk C.B F' H' → C.xi c l cls dx F' H' → C.W cls dx σ H'
def ResS (C : Cg) (fr : Bool) (D : Ends) (F : Hp) : O → Prop
  | .nx en => ∀ σ' F' H', Same F F' → Ok C.B C.K F' H' σ' en → D.nx σ' H'
  | .bk en => ∀ σ' F' H', Same F F' → Ok C.B C.K F' H' σ' en → D.bk σ' H'
  | .ct en => ∀ σ' F' H', Same F F' → Ok C.B C.K F' H' σ' en → D.ct σ' H'
  | .rt d en => ∀ v σ' F' H', Same F F' → Ok C.B C.K F' H' σ' en → RetOk fr C.K F' C.B.H H' v d → D.rt v H'
  | .ex c l => WishS C c l
  | .bad => False
def tS (C : Cg) (fr : Bool) (f : En → O) : TS := fun D σ H => ∃ F en, Ok C.B C.K F H σ en ∧ ResS C fr D F (f en)
section
variable {C : Cg} {X : Cx} {N : List Str} {sc : Scope} {n : Nat} {io : Option Nat} {fr : Bool} {D : Ends} {σ : St} {F H F' H' : Hp} {en en' : En} {Q : VK}
theorem ResS.mono {r : O} (h : ResS C fr D F r) (s : Same F F') : ResS C fr D F' r := by
  cases r with
  | nx en => exact fun σ' F2 H2 s2 k => h σ' F2 H2 (s.trans s2) k
  | bk en => exact fun σ' F2 H2 s2 k => h σ' F2 H2 (s.trans s2) k
  | ct en => exact fun σ' F2 H2 s2 k => h σ' F2 H2 (s.trans s2) k
  | rt d en => exact fun v σ' F2 H2 s2 k => h v σ' F2 H2 (s.trans s2) k
  | ex c l => exact h
  | bad => exact h
theorem WishS.w {c : Str} {l : List Vm.D} (h : WishS C c l) : Wish C σ F c l := fun cls dx F' H' _ b x => h σ cls dx F' H' b x
theorem o_run {e : E} {f : Vm.D × En → O} (ok : Ok C.B C.K F H σ en) (h : ResS C fr D F ((evE C.T n e en).o f)) (q : ∀ p v F' H', Go σ F H en F' H' p.2 → Ok C.B C.K F' H' σ p.2 → Dn C.K F' v p.1 → ResS C fr D F' (f p) → Q v H') : tE C n e σ H Q := by
  refine ⟨F, en, ok, ?_⟩
  cases r : evE C.T n e en with
  | bad => rw [r] at h; exact h
  | ex c l => rw [r] at h; exact WishS.w h
  | ok p => rw [r] at h; exact fun v F' H' g k dn => q p v F' H' g k dn (ResS.mono h g.sub)
theorem o_runT {e : E} {f : Vm.D × En → O} {Q : Bool → Hp → Prop} (hf : ∀ d en, (∀ b, d ≠ .bl b) → f (d, en) = .bad) (ok : Ok C.B C.K F H σ en) (h : ResS C fr D F ((evE C.T n e en).o f)) (q : ∀ b en' F' H', Go σ F H en F' H' en' → Ok C.B C.K F' H' σ en' → ResS C fr D F' (f (.bl b, en')) → Q b H') : tT C n e σ H Q := by
  refine ⟨F, en, ok, ?_⟩
  cases r : evE C.T n e en with
  | bad => rw [r] at h; exact h
  | ex c l => rw [r] at h; exact WishS.w h
  | ok p =>
    rw [r] at h
    obtain ⟨d, en1⟩ := p
    have h : ResS C fr D F (f (d, en1)) := h
    by_cases hb : ∃ b, d = .bl b
    · obtain ⟨b, rfl⟩ := hb
      exact ⟨b, rfl, fun F' H' g k => q b en1 F' H' g k (ResS.mono h g.sub)⟩
    · rw [hf d en1 fun b e => hb ⟨b, e⟩] at h
      exact h.elim
theorem o_runF {e : E} {f : Vm.D × En → O} (hf : ∀ d en, (∀ b, d ≠ .lst b) → f (d, en) = .bad) (ok : Ok C.B C.K F H σ en) (h : ResS C fr D F ((evE C.T n e en).o f))
    (q : ∀ ds en' p us F' H', Go σ F H en F' H' en' → Ok C.B C.K F' H' σ en' → H p = none → F' p = none → H' p = some (.lst us) → DnA C.K F' us ds → (∀ (i : Nat) (l : List Vm.D), en'[i]? = some (Slot.own l) → σ[i]? ≠ some (some (V.ref p))) → ResS C fr D F' (f (.lst ds, en')) → Q (.ref p) H') : tF C n e σ H Q := by
  refine ⟨F, en, ok, ?_⟩
  cases r : evE C.T n e en with
  | bad => rw [r] at h; exact h
  | ex c l => rw [r] at h; exact WishS.w h
  | ok p =>
    rw [r] at h
    obtain ⟨d, en1⟩ := p
    have h : ResS C fr D F (f (d, en1)) := h
    by_cases hb : ∃ b, d = .lst b
    · obtain ⟨b, rfl⟩ := hb
      exact ⟨b, rfl, fun p us F' H' g k h1 h2 h3 h4 h5 => q b en1 p us F' H' g k h1 h2 h3 h4 h5 (ResS.mono h g.sub)⟩
    · rw [hf d en1 fun b e => hb ⟨b, e⟩] at h
      exact h.elim
theorem o_runL {l : List E} {f : List Vm.D × En → O} {Q : List V → Hp → Prop} (ok : Ok C.B C.K F H σ en) (h : ResS C fr D F ((evList (evE C.T n) l en).o f)) (q : ∀ p vs F' H', Go σ F H en F' H' p.2 → Ok C.B C.K F' H' σ p.2 → DnA C.K F' vs p.1 → ResS C fr D F' (f p) → Q vs H') : tLs C n l σ H Q := by
  refine list_run l ok ?_
  cases r : evList (evE C.T n) l en with
  | bad => rw [r] at h; exact h
  | ex c l => rw [r] at h; exact WishS.w h
  | ok p => rw [r] at h; exact fun vs F' H' g k dn => q p vs F' H' g k dn (ResS.mono h g.sub)
theorem bk_none {p : Addr} (k : Ok C.B C.K F H σ en) (h : H p = none) : C.B.H p = none := by
  cases z : C.B.H p with
  | none => rfl
  | some o => exact absurd h (k.bdom p (some_ne z))
/-- a sequence -/
theorem seq_run {r : O} {f : En → O} (h : ResS C fr D F (r.seq f)) : ResS C fr { D with nx := tS C fr f D } F r := by
  cases r with
  | nx en => exact fun σ' F' H' s k => ⟨F', en, k, ResS.mono h s⟩
  | bk en => exact h
  | ct en => exact h
  | rt d en => exact h
  | ex c l => exact h
  | bad => exact h
/-- a body's end -/
theorem turn_run {r : O} {f : En → O} (h : ResS C fr D F (r.turn f)) : ResS C fr { D with nx := tS C fr f D, ct := tS C fr f D, bk := D.nx } F r := by
  cases r with
  | nx en => exact fun σ' F' H' s k => ⟨F', en, k, ResS.mono h s⟩
  | bk en => exact h
  | ct en => exact fun σ' F' H' s k => ⟨F', en, k, ResS.mono h s⟩
  | rt d en => exact h
  | ex c l => exact h
  | bad => exact h
theorem Gs.loc (G : Gs C X N sc io) : ∀ x, locB sc x = true → L2.Loc X.env.scope x ∧ (X.fn x = true ∨ X.env.scope.names.lookup x = some .local) := fun x h => by
  refine ⟨loc_of G.hs h, ?_⟩
  unfold locB at h
  split at h
  · rename_i e; exact .inr (by rw [G.hs]; exact e)
  · rename_i e; exact .inl (G.fn x e)
  · cases h
/-! stores -/
theorem setMany_no {j : Nat} : ∀ {is : List Nat} {ds : List Vm.D} {en en2 : En}, setMany is ds en = some en2 → j ∈ is → ownAt en j = none
  | i :: is, d :: ds, en, en2, h, hj => by
    unfold setMany at h
    split at h
    · cases h
    · rename_i z
      have z : ownAt en i = none := by
        cases o : ownAt en i with
        | none => rfl
        | some l => rw [o] at z; exact absurd rfl z
      by_cases e : j = i
      · rw [e]; exact z
      · have q := setMany_no h ((List.mem_cons.mp hj).resolve_left e)
        unfold ownAt at q ⊢
        rw [List.getElem?_set_ne (Ne.symm e)] at q
        exact q
  | [], _, _, _, _, hj => by cases hj
  | _ :: _, [], _, _, h, _ => by cases h
theorem setTg_no {tg : Tg} {d : Vm.D} {en en2 : En} (h : setTg tg d en = some en2) : ∀ j ∈ tgS tg, ownAt en j = none := by
  cases tg with
  | n i =>
    intro j hj
    rw [List.mem_singleton.mp hj]
    have h : (if (ownAt en i).isSome then none else some (en.set i (.val d))) = some en2 := h
    cases o : ownAt en i with
    | none => rfl
    | some l => rw [o] at h; cases h
  | t is =>
    cases d <;> first | cases h | skip
    exact fun j hj => setMany_no h hj
theorem store_run {tg : Tg} {d : Vm.D} {v : V} {en1 : En} (k : Ok C.B C.K F H σ en) (dn : Dn C.K F v d) (e : setTg tg d en = some en1) (h : ResS C fr D F (.nx en1)) : gT C.K tg v σ H D.nx :=
  setTg_run (vs := tgS tg) e k dn (fun _ z => z) (setTg_no e) fun σ2 k2 _ => h σ2 F H (Same.refl _) k2
def thnO (r : Option En) : O := match r with
  | some en1 => .nx en1
  | none => .bad
theorem lc_sw {t a : Expr} {l : Nat} {env : PySem.Env} (h : isLc a = false) : swapsWithSole [t] a l env = pure false := by
  cases a <;> first | rfl | cases h
theorem sw_none {t a : Expr} {env : PySem.Env} (h : swN sc t a = true) : swappedStores [t] a env = pure none := by
  cases t <;> first
    | (cases a <;> first | rfl | cases h; done)
    | rfl
    | skip
  rename_i ts k p
  cases a <;> first
    | rfl
    | cases h
    | skip
  rename_i vs k2 p2
  have h : (!(ts.length == 2 || ts.length == 3) || vs.all (foldedForSure 8) && !(vs.any fun | .Starred .. => true | _ => false)) = true := h
  unfold swappedStores
  simp only
  by_cases c1 : (!(ts.length == 2 || ts.length == 3) || vs.length != ts.length || env.blockKind != .function) = true
  · simp only [c1, if_true]
  · simp only [c1]
    have c0 : (!(ts.length == 2 || ts.length == 3)) = false := by
      cases z : (!(ts.length == 2 || ts.length == 3)) with
      | false => rfl
      | true => rw [z] at c1; exact absurd rfl c1
    rw [c0] at h
    obtain ⟨h1, h2⟩ := and2 (show (vs.all (foldedForSure 8) && !(vs.any fun | .Starred .. => true | _ => false)) = true from h)
    have h3 : (vs.any fun | .Starred .. => true | _ => false) = false := by
      cases z : (vs.any fun | .Starred .. => true | _ => false) with
      | false => rfl
      | true => rw [z] at h2; cases h2
    simp only [Bool.false_eq_true, if_false]
    split
    · rfl
    · split
      · rfl
      · rfl
def starF : Expr → Bool := fun | .Starred .. => true | _ => false
theorem starF_of {e : Expr} (h : isStar e = false) : starF e = false := by
  cases e <;> first | rfl | cases h
theorem star_any2 {a b : Expr} (ha : isStar a = false) (hb : isStar b = false) : ([a, b].any fun | .Starred .. => true | _ => false) = false := by
  have q : [a, b].any starF = false := by
    rw [List.any_cons, List.any_cons, starF_of ha, starF_of hb]
    rfl
  exact q
theorem sw_par {x y : Str} {px py pt p2 : Pos} {kt k2 : Nat} {a b : Expr} {env : PySem.Env} (hs : env.scope = sc) (hk : sc.kind = .function) (h : parB sc (.Tuple [.Name x px, .Name y py] kt pt) (.Tuple [a, b] k2 p2) = true) :
    swappedStores [.Tuple [.Name x px, .Name y py] kt pt] (.Tuple [a, b] k2 p2) env = pure (some [x, y]) ∧ x ≠ y ∧ env.scope.names.lookup x = some .local ∧ env.scope.names.lookup y = some .local := by
  unfold parB at h
  simp only at h
  obtain ⟨h, h8⟩ := and2 h
  obtain ⟨h, h7⟩ := and2 h
  obtain ⟨h, h6⟩ := and2 h
  obtain ⟨h, h5⟩ := and2 h
  obtain ⟨h, h4⟩ := and2 h
  obtain ⟨h, h3⟩ := and2 h
  obtain ⟨h1, h2⟩ := and2 h
  have nt : ∀ {b : Bool}, (!b) = true → b = false := fun {b} z => by cases b; rfl; cases z
  have h2 := nt h2
  have h5 := nt h5
  have h6 := nt h6
  have h7 := nt h7
  have h8 := nt h8
  have ne : x ≠ y := fun e => by subst e; simp at h2
  have h3 : sc.names.lookup x = some .local := of_decide_eq_true h3
  have h4 : sc.names.lookup y = some .local := of_decide_eq_true h4
  have kx : env.kindOf x = some .local := by unfold PySem.Env.kindOf; rw [hs]; exact h3
  have ky : env.kindOf y = some .local := by unfold PySem.Env.kindOf; rw [hs]; exact h4
  have bk : env.blockKind = .function := by unfold PySem.Env.blockKind; rw [hs, hk]; rfl
  refine ⟨?_, ne, by rw [hs]; exact h3, by rw [hs]; exact h4⟩
  unfold swappedStores
  have e1 : px.line = py.line := by simpa using h1
  simp only [star_any2 h5 h6, bk, h7, h8]
  simp [kx, ky, e1, Expr.pos, ne, List.eraseDups_cons]
  rw [if_neg (fun z => by
    rcases z with z | z
    · exact absurd (show starF a = true from z) (by rw [starF_of h5]; exact fun w => nomatch w)
    · exact absurd (show starF b = true from z) (by rw [starF_of h6]; exact fun w => nomatch w))]
  have ny : (y == x) = false := by simp [Ne.symm ne]
  simp [ny, List.eraseDups_cons]
end
end Vm
end
section
set_option Elab.async false
set_option linter.all false
set_option maxRecDepth 100000
namespace Vm
open PySem PySem.Spec L2
section
variable {C : Cg} {X : Cx} {N : List Str} {sc : Scope} {n : Nat} {io : Option Nat} {fr : Bool} {D : Ends} {σ : St} {F H F' H' : Hp} {en en' : En} {Q : VK} {Kf : Nat}
abbrev tSn (C : Cg) (Kf : Nat) (io : Option Nat) (fr : Bool) (n : Nat) (c : S) : TS := tS C fr (exS C.T Kf io fr n c)
theorem PS.imp {st : Stmt} {t t' : TS} (h : PS X st t) (i : ∀ D σ H, t' D σ H → t D σ H) : PS X st t' := ⟨fun pins s σ H D I q => h.run pins s σ H D I (i D σ H q)⟩
theorem PSs.imp {st : List Stmt} {t t' : TS} (h : PSs X st t) (i : ∀ D σ H, t' D σ H → t D σ H) : PSs X st t' := ⟨fun pins s σ H D I q => h.run pins s σ H D I (i D σ H q)⟩
theorem pe_nm (G : Gd C X N sc) {i : Nat} {a : Expr} (h : nmB N sc i a = true) : PE X a (tVar i) := by
  unfold nmB at h
  split at h
  · obtain ⟨h, h3⟩ := and2 h
    obtain ⟨h1, h2⟩ := and2 h
    obtain ⟨e1, e2⟩ := okName_of h3
    exact pe_var (by rw [G.hN]; exact of_decide_eq_true h1) (vis_of G.hs h2) e1 e2
  · cases h
/-! comprehension stored at a name -/
theorem lc_sw_true {sc scope : Scope} {t a : Expr} {y : Str} {py : Pos} {l : Nat} {env : PySem.Env} (hs : env.scope = sc) (hk : sc.kind = .function) (e : lcSc a = some scope) (ht : t = .Name y py) (h : lcName sc scope t a = true) :
    swapsWith a (some (.Name y py)) l env = pure true ∧ env.scope.names.lookup y = some .local := by
  subst ht
  cases a <;> first | cases e | skip
  unfold lcName at h
  obtain ⟨h, h3⟩ := and2 h
  obtain ⟨h1, h2⟩ := and2 h
  have k : env.scope.names.lookup y = some .local := by rw [hs]; exact of_decide_eq_true h1
  refine ⟨sw_true (by rw [hs]; exact hk) k h2 ?_, k⟩
  cases z : (List.any scope.names fun (n, k) => n == y && (k == .local || k == .cell)) with
  | false => rfl
  | true => rw [z] at h3; cases h3
/-- name = value, one text for both -/
theorem ps_setAny (G : Gs C X N sc io) {i : Nat} {t a : Expr} {te : TE} {pos : Pos} (hn : nameB N sc i t = true) (he : PE X a te) (hl : lcSc a = none) (hno : isLc a = false) : PS X (.Assign [t] a pos) (tAsg te (gName i)) := by
  unfold nameB at hn
  split at hn
  · obtain ⟨h1, h2⟩ := and2 hn
    obtain ⟨q1, q2⟩ := G.loc _ h2
    refine ps_set G.nd (by rw [G.hN]; exact of_decide_eq_true h1) q1 he ?_ q2
    cases a <;> first | rfl | cases hno
  · cases hn
theorem ps_setLcE (G : Gs C X N sc io) {i : Nat} {t a : Expr} {pos : Pos} {elt : E} {tg : Tg} {k : Ik} {l : List E} {cond : Option E} {vs : List Nat} (hn : nameB N sc i t = true) (h : matE (n + 1) C.T.dflt N sc (.lc elt tg k l cond vs) a = true) (hl : lcOk sc t a = true) :
    PS X (.Assign [t] a pos) (fun D σ H => tF C (n + 1) (.lc elt tg k l cond vs) σ H fun x H1 => gName i x σ H1 D.nx) := by
  obtain ⟨gt, gi, gf, x, scope, pos', own, rfl, ow, p1, p2, p3, p4, p5, p6, p7⟩ := lc_parts G.toGd (snd n) h
  unfold nameB at hn
  split at hn
  · obtain ⟨h1, h2⟩ := and2 hn
    obtain ⟨q1, q2⟩ := lc_sw_true (l := pos.line) G.hs G.kind (e := rfl) rfl hl
    refine PS.imp (ps_setLc G.calm G.nd (by rw [G.hN]; exact of_decide_eq_true h1) q2 q1 p1 p2 p3 p4 p5 p6) fun D σ H h => ?_
    rw [ow]
    exact lc_tF p7 h
  · cases hn
theorem lcSc_none {a : Expr} (h : lcSc a = none) (h2 : (!isLc a) = true) : isLc a = false := by
  cases z : isLc a with
  | false => rfl
  | true => rw [z] at h2; cases h2
/-- name = new list -/
theorem ps_asgO (G : Gs C X N sc io) {i : Nat} {e : E} {t a : Expr} {pos : Pos} (hn : nameB N sc i t = true) (h : matE n C.T.dflt N sc e a = true) (hf : frE C.T.fresh e = true) (hl : lcOk sc t a = true) : PS X (.Assign [t] a pos) (tSn C Kf io fr (n + 1) (.asgO i e)) := by
  have key : PS X (.Assign [t] a pos) (fun D σ H => tF C n e σ H fun x H1 => gName i x σ H1 D.nx) := by
    cases z : lcSc a with
    | none =>
      have hl2 := hl
      unfold lcOk at hl2
      rw [z] at hl2
      exact ps_setAny G hn (pe_F G.toGd hf h) z (lcSc_none z hl2)
    | some s =>
      have : ∃ elt tg k l cond vs, e = .lc elt tg k l cond vs := by
        cases n with
        | zero => cases h
        | succ n =>
          cases a <;> first | cases z | skip
          cases e <;> first
            | exact ⟨_, _, _, _, _, _, rfl⟩
            | (exfalso; unfold matE at h; simp only at h; first | cases h | (split at h <;> first | cases h | simp_all))
      obtain ⟨elt, tg, k, l, cond, vs, rfl⟩ := this
      cases n with
      | zero => cases h
      | succ n => exact ps_setLcE G hn h hl
  refine PS.imp key fun D σ H q => ?_
  obtain ⟨F, en, k, q⟩ := q
  have q : ResS C fr D F (if io = some i then .bad else (evE C.T n e en).o fun p => match p.1 with
      | .lst l => .nx (p.2.set i (.own l))
      | _ => .bad) := q
  by_cases hio : io = some i
  · rw [if_pos hio] at q; exact q.elim
  · rw [if_neg hio] at q
    refine o_runF (fun d en hb => ?_) k q fun ds en' p us F' H' g k' h1 h2 h3 h4 h5 r => ?_
    · cases d <;> first | rfl | (rename_i l; exact absurd rfl (hb l))
    · exact r _ F' H' (Same.refl _) (k'.new (bk_none k h1) h2 h3 h4 h5 fun q hq => hio (G.pinI i q hq))
/-- target = value -/
theorem ps_asgE (G : Gs C X N sc io) {tg : Tg} {e : E} {t a : Expr} {pos : Pos} (ht : matT N sc tg t = true) (h : matE n C.T.dflt N sc e a = true) (hw : swN sc t a = true) (hl : lcOk sc t a = true) : PS X (.Assign [t] a pos) (tSn C Kf io fr (n + 1) (.asg tg e)) := by
  have ih := (snd n C X N sc G.toGd e a h).1
  have fin : ∀ {D : Ends} {σ : St} {H : Hp}, tSn C Kf io fr (n + 1) (.asg tg e) D σ H → tE C n e σ H fun x H1 => gT C.K tg x σ H1 D.nx := fun {D σ H} q => by
    obtain ⟨F, en, k, q⟩ := q
    have q : ResS C fr D F ((evE C.T n e en).o fun p => match setTg tg p.1 p.2 with
      | some en1 => .nx en1
      | none => .bad) := q
    refine o_run k q fun p v F' H' g k' dn r => ?_
    cases e2 : setTg tg p.1 p.2 with
    | none => rw [e2] at r; exact r.elim
    | some en1 => rw [e2] at r; exact store_run k' dn e2 r
  cases z : lcSc a with
  | none =>
    have hl2 := hl
    unfold lcOk at hl2
    rw [z] at hl2
    have nl := lcSc_none z hl2
    refine PS.imp (ps_asg ih (pg_T G.hN G.nd G.calm G.loc ht) (lc_sw nl) (sw_none hw) ?_) fun D σ H q => ?_
    · cases t <;> first | rfl | (cases tg <;> cases ht)
    · rw [G.hK]; exact fin q
  | some s =>
    have : ∃ elt tg k l cond vs, e = .lc elt tg k l cond vs := by
      cases n with
      | zero => cases h
      | succ n =>
        cases a <;> first | cases z | skip
        cases e <;> first
          | exact ⟨_, _, _, _, _, _, rfl⟩
          | (exfalso; unfold matE at h; simp only at h; first | cases h | (split at h <;> first | cases h | simp_all))
    obtain ⟨elt, tg', k, l, cond, vs, rfl⟩ := this
    cases n with
    | zero => cases h
    | succ n =>
      cases tg with
      | n i =>
        refine PS.imp (ps_setLcE G ht h hl) fun D σ H q => ?_
        exact tF_of (fun en p e => lc_isL e) (fin q)
      | t is =>
        exfalso
        have hl2 := hl
        unfold lcOk at hl2
        rw [z] at hl2
        cases t <;> first | cases ht | cases hl2
/-- a, b = x, y -/
theorem ps_parE (G : Gs C X N sc io) {i j : Nat} {es : List E} {ts as : List Expr} {k k2 : Nat} {p p2 pos : Pos} (hp : parB sc (.Tuple ts k p) (.Tuple as k2 p2) = true) (ht : namesB N sc [i, j] ts = true) (h : matL (matE n C.T.dflt N sc) es as = true) : PS X (.Assign [.Tuple ts k p] (.Tuple as k2 p2) pos) (tSn C Kf io fr (n + 1) (.par [i, j] es)) := by
  have hp0 := hp
  unfold parB at hp
  split at hp
  · rename_i e1 e2
    cases e1
    cases e2
    obtain ⟨t1, t2⟩ := and2 ht
    obtain ⟨t3, _⟩ := and2 t2
    obtain ⟨q1, q2, q3, q4⟩ := sw_par G.hs G.kind hp0
    have n1 := of_decide_eq_true (and2 t1).1
    have n2 := of_decide_eq_true (and2 t3).1
    rw [← G.hN] at n1 n2
    have ij : i ≠ j := fun e => by subst e; rw [n1] at n2; exact q2 (Option.some.inj n2)
    refine PS.imp (ps_par G.calm G.nd n1 n2 ij q3 q4 (pa_L (snd n C X N sc G.toGd) h) q1 rfl) fun D σ H q => ?_
    obtain ⟨F, en, k, q⟩ := q
    have q : ResS C fr D F ((evList (evE C.T n) es en).o fun p => match setMany [i, j] p.1 p.2 with
      | some en1 => .nx en1
      | none => .bad) := q
    refine o_runL k q fun p vs F' H' g k' dn r => ?_
    cases e2 : setMany [i, j] p.1 p.2 with
    | none => rw [e2] at r; exact r.elim
    | some en1 =>
      rw [e2] at r
      have z := setMany_run (vs := [i, j]) (Q := D.nx) e2 k' dn (fun _ z => z) (fun a ha => setMany_no e2 ha) fun σ2 k2 _ => r σ2 F' H' (Same.refl _) k2
      obtain ⟨v, r1, ev, z⟩ := z
      obtain ⟨w, r2, ew, z⟩ := z
      obtain ⟨e0, z⟩ := z
      subst ev; subst ew; subst e0
      exact ⟨v, w, rfl, z⟩
  · cases hp
end
end Vm
end
section
set_option Elab.async false
set_option linter.all false
set_option maxRecDepth 100000
namespace Vm
open PySem PySem.Spec L2
section
variable {C : Cg} {X : Cx} {N : List Str} {sc : Scope} {n : Nat} {io : Option Nat} {fr : Bool} {D : Ends} {σ : St} {F H F' H' : Hp} {en en' : En} {Q : VK} {Kf : Nat}
theorem isOwn {en : En} {i : Nat} (h : (ownAt en i).isSome = true) : ∃ l, ownAt en i = some l := Option.isSome_iff_exists.mp h
theorem own_back {en1 en2 : En} {F1 H1 : Hp} {i : Nat} {l : List Vm.D} (g : Go σ F H en F1 H1 en1) (h : ownAt en1 i = some l) : ∃ m, ownAt en i = some m := by
  cases z : ownAt en i with
  | some m => exact ⟨m, rfl⟩
  | none =>
    have q := g.vals i z
    unfold ownAt at h z
    rw [q] at h
    rw [h] at z
    cases z
theorem plain_asg {o y : Expr} {p : Pos} (h : (!isSlice y) = true) {env : PySem.Env} : ∀ v, assign (.Subscript o y p) env v = (do
      let ov ← holding [v] (eval o env)
      let iv ← holding [v, ov] (eval y env)
      standAt p
      holding [v, ov, iv] (setItem ov iv v)
      release [v, ov, iv] []) := by
  cases y <;> first
    | exact fun _ => rfl
    | cases h
/-- own[ix] = value -/
theorem ps_setIE (G : Gs C X N sc io) {i : Nat} {ix e : E} {x y a : Expr} {p pos : Pos} (hn : nmB N sc i x = true) (hy : matE n C.T.dflt N sc ix y = true) (hs : (!isSlice y) = true) (h : matE n C.T.dflt N sc e a = true) : PS X (.Assign [.Subscript x y p] a pos) (tSn C Kf io fr (n + 1) (.setI i ix e)) := by
  refine PS.imp (ps_asg (snd n C X N sc G.toGd e a h).1 (pg_sub (pe_nm G.toGd hn) (snd n C X N sc G.toGd ix y hy).1 set_list (plain_asg hs)) ?_ ?_ rfl) fun D σ H q => ?_
  · cases a <;> rfl
  · rfl
  obtain ⟨F, en, k, q⟩ := q
  have q : ResS C fr D F (if (ownAt en i).isSome then (evE C.T n e en).o fun p => (evE C.T n ix p.2).o fun q => match q.1, ownAt q.2 i with
      | .int k, some l => (match ixN l.length k with
        | some j => .nx (q.2.set i (.own (l.set j p.1)))
        | none => .bad)
      | _, _ => .bad else .bad) := q
  cases ho : (ownAt en i).isSome with
  | false => rw [ho] at q; exact q.elim
  | true =>
    rw [ho, if_pos rfl] at q
    obtain ⟨l0, hl0⟩ := isOwn ho
    obtain ⟨p0, us0, w1, _⟩ := k.own i l0 (ownAt_some.mp hl0)
    refine o_run k q fun d1 v F1 H1 g1 k1 dn r => ⟨_, w1, ?_⟩
    refine o_run k1 r fun d2 u F2 H2 g2 k2 dn2 r2 => ?_
    obtain ⟨d2, en2⟩ := d2
    cases d2 <;> first | exact r2.elim | skip
    rename_i kk
    cases o : ownAt en2 i with
    | none => simp only [o] at r2; exact r2.elim
    | some l =>
      simp only [o] at r2
      cases e4 : ixN l.length kk with
      | none => rw [e4] at r2; exact r2.elim
      | some j =>
        rw [e4] at r2
        obtain ⟨p, us, f1, f2, f3, f4, f5⟩ := k2.own i l (ownAt_some.mp o)
        rw [w1] at f1
        cases f1
        cases dn2
        refine ⟨p0, us, kk, j, rfl, rfl, f2, by rw [f3.len]; exact e4, ?_⟩
        exact r2 _ F2 _ (Same.refl _) (k2.put (ownAt_some.mp o) w1 (DnA.set (dn.up g2.sub) j f3))
/-! methods -/
theorem ps_appE (G : Gs C X N sc io) {i : Nat} {e : E} {x a : Expr} {apos cpos pos : Pos} (hn : nmB N sc i x = true) (hl : (apos.endLine == cpos.line) = true) (h : matE n C.T.dflt N sc e a = true) : PS X (.Expr (.Call (.Attribute x "append" apos) [a] [] cpos) pos) (tSn C Kf io fr (n + 1) (.app i e)) := by
  have hs := (ev_ok h).1 X.env []
  have he := (snd n C X N sc G.toGd e a h).1
  have ha : PA X [a] (tCons (tE C n e) tNil) := pa_cons he pa_nil hs
  have hbase : attributeBase x "append" X.env (eval x X.env) = eval x X.env := by
    unfold nmB at hn
    split at hn
    · rfl
    · cases hn
  refine PS.imp (ps_expr (pe_bm PySem.F.plainAttrs_list PySem.F.slot_list_append PySem.F.type_list_append mt_append (pe_nm G.toGd hn) ha hbase (by rw [hs]; rfl) hl hs rfl) rfl) fun D σ H q => ?_
  obtain ⟨F, en, k, q⟩ := q
  have q : ResS C fr D F (if (ownAt en i).isSome then (evE C.T n e en).o fun p => match ownAt p.2 i with
      | some l => if l.length < lineN then .nx (p.2.set i (.own (l ++ [p.1]))) else .bad
      | none => .bad else .bad) := q
  cases ho : (ownAt en i).isSome with
  | false => rw [ho] at q; exact q.elim
  | true =>
    rw [ho, if_pos rfl] at q
    obtain ⟨l0, hl0⟩ := isOwn ho
    obtain ⟨p0, us0, w1, w2, _⟩ := k.own i l0 (ownAt_some.mp hl0)
    refine ⟨_, w1, .inl ⟨rfl, us0, SqL.of w2⟩, ?_⟩
    refine o_run k q fun d1 v F1 H1 g1 k1 dn r => ?_
    cases o : ownAt d1.2 i with
    | none => rw [o] at r; exact r.elim
    | some l =>
      rw [o] at r
      obtain ⟨p, us, f1, f2, f3, f4, f5⟩ := k1.own i l (ownAt_some.mp o)
      rw [w1] at f1
      cases f1
      by_cases z : l.length < lineN
      · simp only [z, if_true] at r
        refine ⟨p0, us, v, rfl, rfl, f2, ?_, ?_⟩
        · have : lineN ≤ sizeLine := by decide
          have := f3.len
          omega
        · exact r _ F1 _ (Same.refl _) (k1.put (ownAt_some.mp o) w1 (f3.app (.cons dn .nil)))
      · simp only [z, if_false] at r
        exact r.elim
theorem DnA.dropLast {K : PySem.W.Frag} {F : Hp} : ∀ {vs : List V} {ds : List Vm.D}, DnA K F vs ds → DnA K F vs.dropLast ds.dropLast
  | _, _, .nil => .nil
  | _, _, .cons _ .nil => .nil
  | _, _, .cons a (.cons b t) => .cons a (DnA.dropLast (.cons b t))
theorem ps_popE (G : Gs C X N sc io) {i : Nat} {x : Expr} {apos cpos pos : Pos} (hn : nmB N sc i x = true) (hl : (apos.endLine == cpos.line) = true) : PS X (.Expr (.Call (.Attribute x "pop" apos) [] [] cpos) pos) (tSn C Kf io fr (n + 1) (.pop i)) := by
  have hbase : attributeBase x "pop" X.env (eval x X.env) = eval x X.env := by
    unfold nmB at hn
    split at hn
    · rfl
    · cases hn
  refine PS.imp (ps_expr (pe_bm0 PySem.F.plainAttrs_list PySem.F.slot_list_pop PySem.F.type_list_pop mt_pop (pe_nm G.toGd hn) hbase hl) rfl) fun D σ H q => ?_
  obtain ⟨F, en, k, q⟩ := q
  have q : ResS C fr D F (match ownAt en i with
      | some l => if l = [] then .bad else .nx (en.set i (.own l.dropLast))
      | none => .bad) := q
  cases o : ownAt en i with
  | none => rw [o] at q; exact q.elim
  | some l =>
    rw [o] at q
    have q : ResS C fr D F (if l = [] then .bad else .nx (en.set i (.own l.dropLast))) := q
    by_cases z : l = []
    · rw [if_pos z] at q; exact q.elim
    · rw [if_neg z] at q
      obtain ⟨p, us, f1, f2, f3, f4, f5⟩ := k.own i l (ownAt_some.mp o)
      have ne : us ≠ [] := fun w => by
        have := f3.len
        rw [w] at this
        exact z (List.length_eq_zero_iff.mp this.symm)
      have lt : us.length - 1 < us.length := by
        have := List.length_pos_iff.mpr ne
        omega
      exact ⟨_, f1, .inl ⟨rfl, us, SqL.of f2⟩, p, us, us[us.length - 1], rfl, rfl, f2, List.getElem?_eq_getElem lt, q _ F _ (Same.refl _) (k.put (ownAt_some.mp o) f1 f3.dropLast)⟩
theorem ps_remE (G : Gs C X N sc io) {i : Nat} {e : E} {x a : Expr} {apos cpos pos : Pos} (hn : nmB N sc i x = true) (hl : (apos.endLine == cpos.line) = true) (h : matE n C.T.dflt N sc e a = true) (tk : Takes X C.W) : PS X (.Expr (.Call (.Attribute x "remove" apos) [a] [] cpos) pos) (tSn C Kf io fr (n + 1) (.rem i e)) := by
  have hs := (ev_ok h).1 X.env []
  have he := (snd n C X N sc G.toGd e a h).1
  have hbase : attributeBase x "remove" X.env (eval x X.env) = eval x X.env := by
    unfold nmB at hn
    split at hn
    · rfl
    · cases hn
  refine PS.imp (ps_expr (pe_remX G.calm tk (pe_nm G.toGd hn) he hbase (by rw [hs]; rfl) hl hs rfl) rfl) fun D σ H q => ?_
  obtain ⟨F, en, k, q⟩ := q
  have q : ResS C fr D F (if (ownAt en i).isSome then (evE C.T n e en).o fun p => match p.1, ownAt p.2 i with
      | .int k, some l => (match intsD l with
        | some ns => if k ∈ ns then .nx (p.2.set i (.own ((ns.erase k).map Vm.D.int))) else .bad
        | none => .bad)
      | _, _ => .bad else .bad) := q
  cases ho : (ownAt en i).isSome with
  | false => rw [ho] at q; exact q.elim
  | true =>
    rw [ho, if_pos rfl] at q
    obtain ⟨l0, hl0⟩ := isOwn ho
    obtain ⟨p0, us0, w1, w2, _⟩ := k.own i l0 (ownAt_some.mp hl0)
    refine ⟨_, w1, .inl ⟨rfl, us0, SqL.of w2⟩, ?_⟩
    refine o_run k q fun d1 v F1 H1 g1 k1 dn r => ?_
    obtain ⟨d1, en1⟩ := d1
    cases d1 <;> first | exact r.elim | skip
    rename_i kk
    cases o : ownAt en1 i with
    | none => simp only [o] at r; exact r.elim
    | some l =>
      simp only [o] at r
      cases e4 : intsD l with
      | none => rw [e4] at r; exact r.elim
      | some ns =>
        rw [e4] at r
        have r : ResS C fr D F1 (if kk ∈ ns then .nx (en1.set i (.own ((ns.erase kk).map Vm.D.int))) else .bad) := r
        obtain ⟨p, us, f1, f2, f3, f4, f5⟩ := k1.own i l (ownAt_some.mp o)
        rw [w1] at f1
        cases f1
        cases dn
        have e5 := intsD_dn e4 f3
        by_cases z : kk ∈ ns
        · rw [if_pos z] at r
          refine ⟨p0, ns, kk, rfl, rfl, by rw [← e5]; exact f2, fun _ => ?_, fun w => absurd z w⟩
          exact r _ F1 _ (Same.refl _) (k1.put (ownAt_some.mp o) w1 (dnInts _))
        · rw [if_neg z] at r; exact r.elim
/-! plain statements -/
theorem ps_exprE (G : Gs C X N sc io) {e : E} {a : Expr} {pos : Pos} (h : matE n C.T.dflt N sc e a = true) (hl : (!isLc a) = true) : PS X (.Expr a pos) (tSn C Kf io fr (n + 1) (.expr e)) := by
  refine PS.imp (ps_expr (snd n C X N sc G.toGd e a h).1 ?_) fun D σ H q => ?_
  · cases a <;> first | rfl | cases hl
  obtain ⟨F, en, k, q⟩ := q
  have q : ResS C fr D F ((evE C.T n e en).o fun p => .nx p.2) := q
  exact o_run k q fun d1 v F1 H1 g1 k1 dn r => r _ F1 H1 (Same.refl _) k1
theorem ps_retE (G : Gs C X N sc io) {e : E} {a : Expr} {pos : Pos} (h : matE n C.T.dflt N sc e a = true) : PS X (.Return (some a) pos) (tSn C Kf io fr (n + 1) (.ret e)) := by
  refine PS.imp (ps_ret (snd n C X N sc G.toGd e a h).1) fun D σ H q => ?_
  obtain ⟨F, en, k, q⟩ := q
  have q : ResS C fr D F (if fr then .bad else (evE C.T n e en).o fun p => .rt p.1 p.2) := q
  cases fr with
  | true => exact q.elim
  | false =>
    refine o_run k q fun d1 v F1 H1 g1 k1 dn r => r v _ F1 H1 (Same.refl _) k1 ?_
    unfold RetOk
    rw [if_neg (fun z => nomatch z)]
    exact dn
theorem ps_retFE (G : Gs C X N sc io) {e : E} {a : Expr} {pos : Pos} (h : matE n C.T.dflt N sc e a = true) (hf : frE C.T.fresh e = true) : PS X (.Return (some a) pos) (tSn C Kf io fr (n + 1) (.retF e)) := by
  refine PS.imp (ps_ret (pe_F G.toGd hf h)) fun D σ H q => ?_
  obtain ⟨F, en, k, q⟩ := q
  have q : ResS C fr D F (if fr then (evE C.T n e en).o fun p => match p.1 with
      | .lst l => .rt (.lst l) p.2
      | _ => .bad else .bad) := q
  cases fr with
  | false => exact q.elim
  | true =>
    have q : ResS C true D F ((evE C.T n e en).o fun p => match p.1 with
      | .lst l => .rt (.lst l) p.2
      | _ => .bad) := q
    refine o_runF (fun d en hb => ?_) k q fun ds en' p us F' H' g k' h1 h2 h3 h4 h5 r => ?_
    · cases d <;> first | rfl | (rename_i l; exact absurd rfl (hb l))
    · refine r _ _ F' H' (Same.refl _) k' ?_
      unfold RetOk
      rw [if_pos rfl]
      exact ⟨p, us, ds, rfl, rfl, bk_none k h1, h2, h3, h4⟩
theorem ps_retOE (G : Gs C X N sc io) {i : Nat} {a : Expr} {pos : Pos} (h : nmB N sc i a = true) : PS X (.Return (some a) pos) (tSn C Kf io fr (n + 1) (.retO i)) := by
  refine PS.imp (ps_ret (pe_nm G.toGd h)) fun D σ H q => ?_
  obtain ⟨F, en, k, q⟩ := q
  have q : ResS C fr D F (if io = some i then .bad else match ownAt en i with
      | some l => .rt (.lst l) (if fr then en else en.set i (.val (.lst l)))
      | none => .bad) := q
  by_cases hio : io = some i
  · rw [if_pos hio] at q; exact q.elim
  · rw [if_neg hio] at q
    cases o : ownAt en i with
    | none => rw [o] at q; exact q.elim
    | some l =>
      rw [o] at q
      have ni : ∀ q, ¬ C.B.pin i q := fun q hq => hio (G.pinI i q hq)
      obtain ⟨p, us, f1, f2, f3, f4, f5⟩ := k.own i l (ownAt_some.mp o)
      refine ⟨_, f1, ?_⟩
      cases fr with
      | true =>
        refine q _ _ F H (Same.refl _) k ?_
        unfold RetOk
        rw [if_pos rfl]
        exact ⟨p, us, l, rfl, rfl, own_newB k (ownAt_some.mp o) f1 G.pinP ni, f4, f2, f3⟩
      | false =>
        obtain ⟨F', p', s, g1, dn, k'⟩ := k.frz (ownAt_some.mp o) G.pinP ni
        rw [f1] at g1
        cases g1
        refine q _ _ F' H s k' ?_
        unfold RetOk
        rw [if_neg (fun z => nomatch z)]
        exact dn
/-! control -/
theorem iff_bad {a b : En → O} : ∀ d en, (∀ z, d ≠ Vm.D.bl z) → (fun p : Vm.D × En => match p.1 with
      | .bl true => a p.2
      | .bl false => b p.2
      | _ => .bad) (d, en) = .bad := fun d en h => by
  cases d <;> first | rfl | (rename_i z; exact absurd rfl (h z))
theorem ps_ite {t : E} {fa fb : En → O} {x : Expr} {p q : List Stmt} {pos : Pos} (ht : PT X x (tT C n t)) (ha : PSs X p (tS C fr fa)) (hb : PSs X q (tS C fr fb)) : PS X (.If x p q pos) (tS C fr fun en => (evE C.T n t en).o fun p => match p.1 with
      | .bl true => fa p.2
      | .bl false => fb p.2
      | _ => .bad) := by
  refine PS.imp (ps_if ht ha hb) fun D σ H q => ?_
  obtain ⟨F, en, k, q⟩ := q
  refine o_runT iff_bad k q fun b en' F' H' g k' r => ?_
  cases b with
  | true => rw [if_pos rfl]; exact ⟨F', en', k', r⟩
  | false => rw [if_neg (fun z => nomatch z)]; exact ⟨F', en', k', r⟩
theorem ps_whl (thru : PassesOwn (model X.prog X.w) X.A X.env X.xe) {t : E} {fb : En → O} {x : Expr} {p : List Stmt} {pos : Pos} (ht : PT X x (tT C n t)) (hb : PSs X p (tS C fr fb)) : PS X (.While x p [] pos) (tS C fr fun en => loopW (evE C.T n t) fb Kf en) := by
  refine PS.imp (ps_while thru ht hb) fun D σ H q => ?_
  obtain ⟨F, en, k, q⟩ := q
  refine ⟨fun m σ H => ∃ F en, Ok C.B C.K F H σ en ∧ ResS C fr D F (loopW (evE C.T n t) fb m en), ⟨Kf, F, en, k, q⟩, ?_⟩
  rintro m σ H ⟨F, en, k, q⟩
  cases m with
  | zero => exact q.elim
  | succ m =>
    have q : ResS C fr D F ((evE C.T n t en).o fun p => match p.1 with
      | .bl true => (fb p.2).turn (loopW (evE C.T n t) fb m)
      | .bl false => .nx p.2
      | _ => .bad) := q
    refine o_runT (iff_bad (a := fun en => (fb en).turn (loopW (evE C.T n t) fb m)) (b := fun en => .nx en)) k q fun b en' F' H' g k' r => ?_
    cases b with
    | false => rw [if_neg (fun z => nomatch z)]; exact r σ F' H' (Same.refl _) k'
    | true =>
      rw [if_pos rfl]
      exact ⟨tS C fr (loopW (evE C.T n t) fb m) D, fun σ' H' z => ⟨m, Nat.lt_succ_self m, z⟩, F', en', k', turn_run r⟩
theorem ps_forS (thru : PassesOwn (model X.prog X.w) X.A X.env X.xe) (G : Gd C X N sc) {tg : Tg} {k : Ik} {l : List E} {fb : En → O} {x a : Expr} {p : List Stmt} {pos : Pos} (hi : PI X x a (tI C n k l)) (hg : PG X x (gT C.K tg)) (hb : PSs X p (tS C fr fb)) (hs : ∀ x, foldedSetIterable a X.env x = pure x) :
    PS X (.For x a p [] pos) (tS C fr fun en => (evList (evE C.T n) l en).o fun p => match items k p.1 with
      | some ds => loopF tg fb ds p.2
      | none => .bad) := by
  refine PS.imp (ps_for thru G.calm hi hg hb hs) fun D σ H q => ?_
  obtain ⟨F, en, ok, q⟩ := q
  have q : ResS C fr D F ((evList (evE C.T n) l en).o fun p => match items k p.1 with
      | some ds => loopF tg fb ds p.2
      | none => .bad) := q
  refine ⟨F, en, ok, ?_⟩
  cases r : evList (evE C.T n) l en with
  | bad => rw [r] at q; exact q.elim
  | ex c l => rw [r] at q; exact WishS.w q
  | ok pp =>
    obtain ⟨ls, en1⟩ := pp
    rw [r] at q
    have q : ResS C fr D F (match items k ls with
      | some ds => loopF tg fb ds en1
      | none => .bad) := q
    cases e : items k ls with
    | none => rw [e] at q; exact q.elim
    | some ds =>
      rw [e] at q
      have q : ResS C fr D F (loopF tg fb ds en1) := q
      refine ⟨ds, e, fun J F1 H1 g1 k1 w => ?_⟩
      refine ⟨fun i m σ H => m = ds.length - i ∧ i ≤ ds.length ∧ ∃ F en, Same F1 F ∧ Ok C.B C.K F H σ en ∧ ResS C fr D F (loopF tg fb (ds.drop i) en), ⟨ds.length - 0, rfl, Nat.zero_le _, F1, en1, Same.refl _, k1, ResS.mono q g1.sub⟩, ?_⟩
      rintro i m σ H ⟨rfl, li, F2, en2, s2, k2, q2⟩
      obtain ⟨w1, w2⟩ := w i F2 H s2 k2.sub
      rcases Nat.lt_or_ge i ds.length with lt | ge
      · rw [List.drop_eq_getElem_cons lt] at q2
        have q2 : ResS C fr D F2 (match setTg tg ds[i] en2 with
          | none => .bad
          | some en3 => (fb en3).turn (loopF tg fb (ds.drop (i + 1)))) := q2
        cases e2 : setTg tg ds[i] en2 with
        | none => rw [e2] at q2; exact q2.elim
        | some en3 =>
          rw [e2] at q2
          have q2 : ResS C fr D F2 ((fb en3).turn (loopF tg fb (ds.drop (i + 1)))) := q2
          obtain ⟨go, yl⟩ := w1 ds[i] (List.getElem?_eq_getElem lt)
          refine .inr ⟨go, fun σ' H' => ∃ F en, Same F1 F ∧ Ok C.B C.K F H' σ' en ∧ ResS C fr D F (loopF tg fb (ds.drop (i + 1)) en), fun σ' H' z => ⟨ds.length - (i + 1), by omega, rfl, lt, z⟩, fun v H' y => ?_⟩
          obtain ⟨F3, px, dn⟩ := yl v H' y
          have k3 := k2.px px
          refine setTg_run (vs := tgS tg) e2 k3 dn (fun _ z => z) (setTg_no e2) fun σ3 k4 _ => ⟨F3, en3, k4, ?_⟩
          have q3 := ResS.mono q2 px.sub
          cases rr : fb en3 with
          | nx en => rw [rr] at q3; exact fun σ' F' H' s k => ⟨F', en, (s2.trans px.sub).trans s, k, ResS.mono q3 s⟩
          | bk en => rw [rr] at q3; exact q3
          | ct en => rw [rr] at q3; exact fun σ' F' H' s k => ⟨F', en, (s2.trans px.sub).trans s, k, ResS.mono q3 s⟩
          | rt d en => rw [rr] at q3; exact q3
          | ex c l => rw [rr] at q3; exact q3
          | bad => rw [rr] at q3; exact q3
      · refine .inl ⟨w2 (by omega), ?_⟩
        rw [List.drop_eq_nil_of_le ge] at q2
        exact q2 σ F2 H (Same.refl _) k2
theorem fold_ok {tg : Tg} {k : Ik} {l : List E} {a : Expr} (h : matI (matE n C.T.dflt N sc) sc tg k l a = true) : ∀ x, foldedSetIterable a X.env x = pure x := by
  unfold matI at h
  split at h
  · exact (ev_ok h).2 _
  all_goals first
    | (split at h
       · exact fun _ => rfl
       · cases h)
    | cases h
/-! ### the whole -/
theorem frz_run (G : Gs C X N sc io) {i : Nat} {f : En → O} {D : Ends} {σ : St} {H : Hp} (h : tS C fr (fun en => (if io = some i then .bad else match ownAt en i with
      | some l => .nx (en.set i (.val (.lst l)))
      | none => .bad : O).seq f) D σ H) : tS C fr f D σ H := by
  obtain ⟨F, en, k, q⟩ := h
  have q : ResS C fr D F ((if io = some i then .bad else match ownAt en i with
      | some l => .nx (en.set i (.val (.lst l)))
      | none => .bad : O).seq f) := q
  by_cases hio : io = some i
  · rw [if_pos hio] at q; exact q.elim
  · rw [if_neg hio] at q
    cases o : ownAt en i with
    | none => rw [o] at q; exact q.elim
    | some l =>
      rw [o] at q
      obtain ⟨F', p, s, _, _, k'⟩ := k.frz (ownAt_some.mp o) G.pinP fun q hq => hio (G.pinI i q hq)
      exact ⟨F', _, k', ResS.mono q s⟩
theorem wip_run (G : Gs C X N sc io) {vs : List Nat} {f : En → O} {D : Ends} {σ : St} {H : Hp} (h : tS C fr (fun en => (if ioIn io vs then .bad else .nx (wipeE en vs) : O).seq f) D σ H) : tS C fr f D σ H := by
  obtain ⟨F, en, k, q⟩ := h
  have q : ResS C fr D F ((if ioIn io vs then .bad else .nx (wipeE en vs) : O).seq f) := q
  cases hio : ioIn io vs with
  | true => rw [hio] at q; exact q.elim
  | false =>
    rw [hio] at q
    refine ⟨F, _, k.forget fun i p hp hi => ?_, q⟩
    have e := G.pinI i p hp
    rw [e] at hio
    have hio : vs.contains i = false := hio
    rw [List.contains_iff_mem.mpr hi] at hio
    cases hio
theorem sndL (G : Gs C X N sc io) {m : S → Stmt → Bool} {f : S → En → O} (hw : ∀ vs en, f (.wip vs) en = .bad ∨ f (.wip vs) en = if ioIn io vs then .bad else .nx (wipeE en vs)) (hf : ∀ i en, f (.frz i) en = .bad ∨ f (.frz i) en = if io = some i then .bad else match ownAt en i with
      | some l => .nx (en.set i (.val (.lst l)))
      | none => .bad) (hs : ∀ en, f .stop en = .bad) (ih : ∀ c st, m c st = true → PS X st (tS C fr (f c))) : ∀ (cs : List S) (sts : List Stmt), matSL m cs sts = true → PSs X sts (tS C fr (runL f cs))
  | [], [], _ => PSs.imp pss_nil fun D σ H ⟨F, en, k, q⟩ => q σ F H (Same.refl _) k
  | c :: cs, [], h => by
    cases c <;> first | cases h | skip
    · exact PSs.imp pss_never fun D σ H ⟨F, en, k, q⟩ => by
        have q : ResS C fr D F ((f .stop en).seq (runL f cs)) := q
        rw [hs] at q
        exact q
    · exact PSs.imp (sndL G hw hf hs ih cs [] h) fun D σ H q => frz_run (fr := fr) G (by
        obtain ⟨F, en, k, q⟩ := q
        exact ⟨F, en, k, by
          have q : ResS C fr D F ((f (.frz _) en).seq (runL f cs)) := q
          rcases hf _ en with e | e
          · rw [e] at q; exact q.elim
          · rw [e] at q
            exact q⟩)
    · exact PSs.imp (sndL G hw hf hs ih cs [] h) fun D σ H q => wip_run (fr := fr) G (by
        obtain ⟨F, en, k, q⟩ := q
        exact ⟨F, en, k, by
          have q : ResS C fr D F ((f (.wip _) en).seq (runL f cs)) := q
          rcases hw _ en with e | e
          · rw [e] at q; exact q.elim
          · rw [e] at q
            exact q⟩)
  | [], _ :: _, h => by cases h
  | c :: cs, st :: sts, h => by
    have gen : m c st = true → matSL m cs sts = true → PSs X (st :: sts) (tS C fr (runL f (c :: cs))) := fun h1 h2 =>
      PSs.imp (pss_cons (ih c st h1) (sndL G hw hf hs ih cs sts h2)) fun D σ H ⟨F, en, k, q⟩ => ⟨F, en, k, seq_run (f := runL f cs) q⟩
    cases c with
    | wip vs =>
      exact PSs.imp (sndL G hw hf hs ih cs (st :: sts) h) fun D σ H q => wip_run (fr := fr) G (by
        obtain ⟨F, en, k, q⟩ := q
        exact ⟨F, en, k, by
          have q : ResS C fr D F ((f (.wip _) en).seq (runL f cs)) := q
          rcases hw _ en with e | e
          · rw [e] at q; exact q.elim
          · rw [e] at q
            exact q⟩)
    | frz i =>
      exact PSs.imp (sndL G hw hf hs ih cs (st :: sts) h) fun D σ H q => frz_run (fr := fr) G (by
        obtain ⟨F, en, k, q⟩ := q
        exact ⟨F, en, k, by
          have q : ResS C fr D F ((f (.frz _) en).seq (runL f cs)) := q
          rcases hf _ en with e | e
          · rw [e] at q; exact q.elim
          · rw [e] at q
            exact q⟩)
    | stop =>
      exact PSs.imp pss_never fun D σ H ⟨F, en, k, q⟩ => by
        have q : ResS C fr D F ((f .stop en).seq (runL f cs)) := q
        rw [hs] at q
        exact q
    | asg _ _ => exact gen (and2 h).1 (and2 h).2
    | asgO _ _ => exact gen (and2 h).1 (and2 h).2
    | par _ _ => exact gen (and2 h).1 (and2 h).2
    | setI _ _ _ => exact gen (and2 h).1 (and2 h).2
    | app _ _ => exact gen (and2 h).1 (and2 h).2
    | pop _ => exact gen (and2 h).1 (and2 h).2
    | rem _ _ => exact gen (and2 h).1 (and2 h).2
    | expr _ => exact gen (and2 h).1 (and2 h).2
    | ret _ => exact gen (and2 h).1 (and2 h).2
    | retF _ => exact gen (and2 h).1 (and2 h).2
    | retO _ => exact gen (and2 h).1 (and2 h).2
    | ite _ _ _ => exact gen (and2 h).1 (and2 h).2
    | whl _ _ => exact gen (and2 h).1 (and2 h).2
    | for_ _ _ _ _ => exact gen (and2 h).1 (and2 h).2
    | brk => exact gen (and2 h).1 (and2 h).2
    | cont => exact gen (and2 h).1 (and2 h).2
    | pass => exact gen (and2 h).1 (and2 h).2
theorem sndS (G : Gs C X N sc io) (tk : Takes X C.W) : ∀ (n : Nat) (c : S) (st : Stmt), matS C.T.fresh C.T.dflt N sc n c st = true → PS X st (tSn C Kf io fr n c)
  | 0, _, _, h => by cases h
  | n + 1, c, st, h => by
    have ihL : ∀ cs sts, matSL (matS C.T.fresh C.T.dflt N sc n) cs sts = true → PSs X sts (tS C fr (runL (exS C.T Kf io fr n) cs)) := by
      cases n with
      | zero => exact fun cs sts h => sndL G (fun _ _ => .inl rfl) (fun _ _ => .inl rfl) (fun _ => rfl) (sndS G tk 0) cs sts h
      | succ n => exact fun cs sts h => sndL G (fun _ _ => .inr rfl) (fun _ _ => .inr rfl) (fun _ => rfl) (sndS G tk (n + 1)) cs sts h
    have ihE := snd n C X N sc G.toGd
    cases c with
    | frz i => cases h
    | wip vs => cases h
    | stop => exact PS.imp ps_never fun D σ H ⟨F, en, k, q⟩ => q
    | asg tg e =>
      unfold matS at h
      simp only at h
      split at h
      · obtain ⟨h, h4⟩ := and2 h
        obtain ⟨h, h3⟩ := and2 h
        obtain ⟨h1, h2⟩ := and2 h
        exact ps_asgE G h1 h2 h3 h4
      · cases h
    | asgO i e =>
      unfold matS at h
      simp only at h
      split at h
      · obtain ⟨h, h4⟩ := and2 h
        obtain ⟨h, h3⟩ := and2 h
        obtain ⟨h1, h2⟩ := and2 h
        exact ps_asgO G h1 h2 h3 h4
      · cases h
    | par is es =>
      unfold matS at h
      simp only at h
      split at h
      · obtain ⟨h, h3⟩ := and2 h
        obtain ⟨h1, h2⟩ := and2 h
        exact ps_parE G h1 h2 h3
      · cases h
    | setI i ix e =>
      unfold matS at h
      simp only at h
      split at h
      · obtain ⟨h, h4⟩ := and2 h
        obtain ⟨h, h3⟩ := and2 h
        obtain ⟨h1, h2⟩ := and2 h
        exact ps_setIE G h1 h2 h3 h4
      · cases h
    | app i e =>
      unfold matS at h
      simp only at h
      split at h
      · obtain ⟨h, h4⟩ := and2 h
        obtain ⟨h, h3⟩ := and2 h
        obtain ⟨h1, h2⟩ := and2 h
        have e := of_decide_eq_true h2
        subst e
        exact ps_appE G h1 h3 h4
      · cases h
    | pop i =>
      unfold matS at h
      simp only at h
      split at h
      · obtain ⟨h, h3⟩ := and2 h
        obtain ⟨h1, h2⟩ := and2 h
        have e := of_decide_eq_true h2
        subst e
        exact ps_popE G h1 h3
      · cases h
    | rem i e =>
      unfold matS at h
      simp only at h
      split at h
      · obtain ⟨h, h4⟩ := and2 h
        obtain ⟨h, h3⟩ := and2 h
        obtain ⟨h1, h2⟩ := and2 h
        have e := of_decide_eq_true h2
        subst e
        exact ps_remE G h1 h3 h4 tk
      · cases h
    | expr e =>
      unfold matS at h
      simp only at h
      split at h
      · exact ps_exprE G (and2 h).1 (and2 h).2
      · cases h
    | ret e =>
      unfold matS at h
      simp only at h
      split at h
      · exact ps_retE G h
      · cases h
    | retF e =>
      unfold matS at h
      simp only at h
      split at h
      · exact ps_retFE G (and2 h).1 (and2 h).2
      · cases h
    | retO i =>
      unfold matS at h
      simp only at h
      split at h
      · exact ps_retOE G h
      · cases h
    | ite t a b =>
      unfold matS at h
      simp only at h
      split at h
      · obtain ⟨h, h3⟩ := and2 h
        obtain ⟨h1, h2⟩ := and2 h
        exact ps_ite (ihE _ _ h1).2 (ihL _ _ h2) (ihL _ _ h3)
      · cases h
    | whl t b =>
      unfold matS at h
      simp only at h
      split at h
      · exact ps_whl G.thru (ihE _ _ (and2 h).1).2 (ihL _ _ (and2 h).2)
      · cases h
    | for_ tg k l b =>
      unfold matS at h
      simp only at h
      split at h
      · obtain ⟨h, h3⟩ := and2 h
        obtain ⟨h1, h2⟩ := and2 h
        refine ps_forS G.thru G.toGd (pi_E G.toGd ihE h1 h2) ?_ (ihL _ _ h3) (fold_ok h1)
        rw [← G.hK]
        exact pg_T G.hN G.nd G.calm G.loc h2
      · cases h
    | brk =>
      unfold matS at h
      simp only at h
      split at h
      · exact PS.imp ps_break fun D σ H ⟨F, en, k, q⟩ => q σ F H (Same.refl _) k
      · cases h
    | cont =>
      unfold matS at h
      simp only at h
      split at h
      · exact PS.imp ps_continue fun D σ H ⟨F, en, k, q⟩ => q σ F H (Same.refl _) k
      · cases h
    | pass =>
      unfold matS at h
      simp only at h
      split at h
      · exact PS.imp ps_pass fun D σ H ⟨F, en, k, q⟩ => q σ F H (Same.refl _) k
      · cases h
end
end Vm
end
section
set_option Elab.async false
set_option linter.all false
set_option maxRecDepth 100000
namespace Vm
open PySem PySem.Spec L2 PyProof.Rows
/-! ### defs -/
/-- what of a def the machine needs: name, the text's parts, its code -/
structure Fd where
  x : Str
  np : Nat
  nN : Nat
  io : Option Nat
  fr : Bool
  fuel : Nat
  code : List S
  dfl : List D
def slotsOk (io : Option Nat) : Nat → List Slot → Bool
  | _, [] => true
  | i, .own _ :: ss => decide (io = some i) && slotsOk io (i + 1) ss
  | i, .val _ :: ss => !decide (io = some i) && slotsOk io (i + 1) ss
  | _, .no :: _ => false
def outOf (io : Option Nat) (r : D) (en : En) : R (D × Option (List D)) := match io with
  | none => .ok (r, none)
  | some i => (match ownAt en i with
    | some l => .ok (r, some l)
    | none => .bad)
def endOf (io : Option Nat) (fr : Bool) (o : O) : R (D × Option (List D)) := match o with
  | .rt r en => outOf io r en
  | .nx en => if fr then .bad else outOf io .non en
  | .ex c l => .ex c l
  | _ => .bad
def runFd (T : Tab) (K : Nat) (d : Fd) (ss : List Slot) : R (D × Option (List D)) :=
  if decide (ss.length = d.np) && slotsOk d.io 0 ss && (match d.io with
    | none => true
    | some i => decide (i < d.np)) then endOf d.io d.fr (runL (exS T K d.io d.fr d.fuel) d.code (ss ++ List.replicate (d.nN - ss.length) .no)) else .bad
def Tab.add (T : Tab) (K : Nat) (d : Fd) : Tab where
  has f := if f = d.x then true else T.has f
  call f ss := if f = d.x then runFd T K d ss else T.call f ss
  glob := T.glob
  fresh f := if f = d.x then d.fr else T.fresh f
  dflt f := if f = d.x then d.dfl else T.dflt f
def Tab.nil (g : Str → Option D) : Tab := ⟨fun _ => false, fun _ _ => .bad, g, fun _ => false, fun _ => []⟩
section
variable {P : Program} {w : World} {K : PySem.W.Frag} {mg : Str → Option Value} {base : Heap} {xi : XI}
theorem FnG.mono {j k : Nat} {f : Addr} {fd : FuncData} {ps : List Str} {sp : Sp} (F : FnG P w K mg base j f fd ps sp) (h : j ≤ k) : FnG P w K mg base k f fd ps sp :=
  ⟨F.len, fun A outer s H args us vs Q E hg hr => F.run A outer s H args us vs Q E hg (hr.mono h)⟩
/-- all defs of a table keep their promises -/
def TabOk (P : Program) (w : World) (K : PySem.W.Frag) (mg : Str → Option Value) (base : Heap) (xi : XI) (k : Nat) (T : Tab) : Prop := ∀ f, T.has f = true → ∃ (fa : Addr) (fd : FuncData) (ps : List Str), mg f = some (.ref fa) ∧ PySem.W.keepIn K (.ref fa) = true ∧
  FnG P w K mg base k fa fd ps (SpOf K xi (T.fresh f) (T.call f)) ∧ ∀ dl : List D, (dl.isEmpty || lSame (T.dflt f) dl) = true → ∃ ds dvs, Binds K fd ps ds ∧ Vals dvs ds ∧ ∀ F, DnA K F dvs dl
theorem TabOk.nil (g : Str → Option D) (k : Nat) : TabOk P w K mg base xi k (Tab.nil g) := fun f h => by cases h
/-- a def, by its body: no repr is under way -/
theorem fnG_body {k : Nat} {f : Addr} {fd : FuncData} {x : Str} {params : Arguments} {body : List Stmt} {scope : Scope} {dvs : List V} {kws : List (Str × V)} {N ps : List Str} {sp : Sp} (Fu : FunD K x x params body scope dvs kws f fd) (S : FnScope N ps scope)
    (len : ∀ vs H Q E, sp vs H Q E → vs.length = ps.length)
    (go : ∀ (cdv : Value) (A : Around) (outer : List PySem.Env) (s : Shared) (H : Hp) (vs : List V) (Q : VK) (E : XK), A.guards = some [] → Room k (A.deeper (envOfC x scope s.heap.objs.size f cdv)) → sp vs H Q E →
      ∃ t, PSs (cxOf (L2.CX P w) P w K mg base N x scope f cdv A outer s H E) body t ∧ t { nx := fun _ H' => Q .non H', rt := Q } (L2.start N vs) H) :
    FnG P w K mg base (k + 1) f fd ps sp := by
  obtain ⟨oc, od, dV, kV, doc, pm, an, cdv, ct, osl, rfl, look, isCode, _, _⟩ := Fu.ex
  refine ⟨len, fun A outer s H args us vs Q E gu room e0 bd rel want => ?_⟩
  have inK : K.In s.heap := e0.mod.kin.keeps fun b o z => (e0.bs b o z).1
  refine codeAny_call_function room.depth (inK _ _ look) rfl S.co S.gen rfl (PySem.W.codeRec_of inK isCode) (bd _ _ _ _ ?_)
  refine wpAny_newFunctionEnv_cells S.kind (fun y hy => ?_) fun env same s1 inn => ?_
  · rcases S.par y.1 (List.of_mem_zip hy).1 with q | q
    · exact .inl q
    · exact .inr ⟨q, PySem.W.cellsFrom_some _ _ _ (.inl q)⟩
  subst same
  refine ⟨(e0.mod.nolimit.keeps fun b o z => (e0.bs b o z).1).keeps inn.toInCall.keep, codeAny_func ?_⟩
  obtain ⟨t, runs, wish⟩ := go cdv A outer s H vs Q E gu (room.deeper _) want
  have I := inv_start (CX := L2.CX P w) (E := E) S room.hd e0 (len _ _ _ _ want) rel inn
  refine wpAny_mono (runs.run [] s1 (L2.start N vs) H _ I wish) (fun out s2 z => ?_) fun _ _ z => z
  have leave : ∀ {σ2 : L2.St} {H2 : Hp} {v : V} {u : Value}, Inv (cxOf (L2.CX P w) P w K mg base N x scope f cdv A outer s H E) [] σ2 H2 s2 → RelV v u → Q v H2 → CE outer P w H s Q u s2 := fun {σ2 H2 v u} J r q => ⟨v, H2, J.os, J.bare, J.base, J.hok, r, q⟩
  match out, z with
  | .ret u, ⟨v, _, _, J, r, q⟩ => exact leave J r q
  | .next, ⟨_, _, J, q⟩ => exact leave (v := V.non) (u := Value.none) J rfl q
  | .brk, ⟨_, _, _, q⟩ => exact q.elim
  | .cont, ⟨_, _, _, q⟩ => exact q.elim
/-! the state at a def's entry -/
theorem slotsOk_own {io : Option Nat} {l : List D} : ∀ {ss : List Slot} {i j : Nat}, slotsOk io i ss = true → ss[j]? = some (.own l) → io = some (i + j)
  | [], _, _, _, e => by cases e
  | .own _ :: ss, i, 0, h, _ => of_decide_eq_true (and2 h).1
  | .val _ :: ss, i, 0, h, e => by cases e
  | .no :: _, _, _, h, _ => by cases h
  | .own _ :: ss, i, j + 1, h, e => by
    have q := slotsOk_own (ss := ss) (i := i + 1) (j := j) (and2 h).2 e
    rw [q]; congr 1; omega
  | .val _ :: ss, i, j + 1, h, e => by
    have q := slotsOk_own (ss := ss) (i := i + 1) (j := j) (and2 h).2 e
    rw [q]; congr 1; omega
theorem slotsOk_at {io : Option Nat} : ∀ {ss : List Slot} {i j : Nat}, slotsOk io i ss = true → io = some (i + j) → j < ss.length → ∃ l, ss[j]? = some (.own l)
  | [], _, _, _, _, lt => by cases lt
  | .own l :: ss, i, 0, h, _, _ => ⟨l, rfl⟩
  | .val _ :: ss, i, 0, h, e, _ => by
    have q := (and2 h).1
    rw [e] at q
    simp at q
  | .no :: _, _, _, h, _, _ => by cases h
  | .own _ :: ss, i, j + 1, h, e, lt => slotsOk_at (ss := ss) (i := i + 1) (j := j) (and2 h).2 (by rw [e]; congr 1; omega) (by simpa using lt)
  | .val _ :: ss, i, j + 1, h, e, lt => slotsOk_at (ss := ss) (i := i + 1) (j := j) (and2 h).2 (by rw [e]; congr 1; omega) (by simpa using lt)
theorem ArgsOk.len {F H : Hp} {vs : List V} {ss : List Slot} {o : Option Addr} (a : ArgsOk K F H vs ss o) : vs.length = ss.length := by
  induction a with
  | nil _ => rfl
  | val _ _ ih => rw [List.length_cons, List.length_cons, ih]
  | own _ _ _ _ ih => rw [List.length_cons, List.length_cons, ih]
theorem ArgsOk.val_at {F H : Hp} {vs : List V} {ss : List Slot} {o : Option Addr} (a : ArgsOk K F H vs ss o) : ∀ {i : Nat} {d : D}, ss[i]? = some (.val d) → ∃ v, vs[i]? = some v ∧ Dn K F v d := by
  induction a with
  | nil _ => intro i d e; cases e
  | val h _ ih =>
    intro i d e
    cases i with
    | zero => cases e; exact ⟨_, rfl, h⟩
    | succ i => exact ih (i := i) e
  | own _ _ _ _ ih =>
    intro i d e
    cases i with
    | zero => cases e
    | succ i => exact ih (i := i) e
theorem ArgsOk.own_at {F H : Hp} {vs : List V} {ss : List Slot} {o : Option Addr} (a : ArgsOk K F H vs ss o) : ∀ {i : Nat} {l : List D}, ss[i]? = some (Slot.own l) → ∃ p us, vs[i]? = some (.ref p) ∧ o = some p ∧ H p = some (.lst us) ∧ DnA K F us l ∧ F p = none := by
  induction a with
  | nil _ => intro i l e; cases e
  | val h _ ih =>
    intro i d e
    cases i with
    | zero => cases e
    | succ i => exact ih (i := i) e
  | @own p us l vs ss h1 h2 h3 t ih =>
    intro i d e
    cases i with
    | zero => cases e; exact ⟨p, us, rfl, rfl, h1, h2, h3⟩
    | succ i =>
      obtain ⟨_, _, _, z, _⟩ := ih (i := i) e
      cases z
theorem start_at {N : List Str} {vs : List V} {i : Nat} {v : V} (h : vs[i]? = some v) : (L2.start N vs)[i]? = some (some v) := by
  unfold L2.start
  have lt := (List.getElem?_eq_some_iff.mp h).1
  rw [List.getElem?_append_left (by simpa using lt), List.getElem?_map, h]
  rfl
theorem en_at {ss : List Slot} {m i : Nat} {s : Slot} (h : (ss ++ List.replicate m .no)[i]? = some s) (hs : s ≠ .no) : ss[i]? = some s := by
  by_cases lt : i < ss.length
  · rw [List.getElem?_append_left lt] at h; exact h
  · rw [List.getElem?_append_right (by omega), List.getElem?_replicate] at h
    split at h
    · cases h; exact absurd rfl hs
    · cases h
theorem runFd_len {T : Tab} {Kf : Nat} {d : Fd} {ss : List Slot} (h : runFd T Kf d ss ≠ .bad) : ss.length = d.np := by
  unfold runFd at h
  cases hc : (decide (ss.length = d.np) && slotsOk d.io 0 ss && (match d.io with
      | none => true
      | some i => decide (i < d.np))) with
  | false => rw [hc] at h; exact absurd rfl h
  | true => exact of_decide_eq_true (and2 (and2 hc).1).1
/-- THE STEP: a def whose code is right keeps its promise -/
theorem fnG_of {k : Nat} {T : Tab} {d : Fd} {Kf : Nat} {f : Addr} {fd : FuncData} {params : Arguments} {body : List Stmt} {scope : Scope} {dvs : List V} {kws : List (Str × V)} {N ps : List Str}
    (hT : TabOk P w K mg base xi k T) (hxi : ∀ c l cls dx F F' H, xi c l cls dx F H → xi c l cls dx F' H) (hgl : ∀ x d, T.glob x = some d → ∃ v u, mg x = some u ∧ RelV v u ∧ ∀ F, Dn K F v d) (hbl : ∀ x ∈ blts, mg x = none) (hk : 1 ≤ k)
    (Fu : FunD K d.x d.x params body scope dvs kws f fd) (S : FnScope N ps scope) (hn : ps.length = d.np) (hN : N.length = d.nN) (hm : matSL (matS T.fresh T.dflt N scope d.fuel) d.code body = true) (hf : 0 < d.fuel) :
    FnG P w K mg base (k + 1) f fd ps (SpOf K xi d.fr (runFd T Kf d)) := by
  refine fnG_body Fu S (fun vs H Q E h => ?_) fun cdv A outer s H vs Q E gu room want => ?_
  · obtain ⟨F, o, ss, _, a, h⟩ := h
    rw [a.len, hn]
    exact runFd_len fun e => by rw [e] at h; exact h
  · obtain ⟨F, o, ss, sub, a, h⟩ := want
    cases hc : (decide (ss.length = d.np) && slotsOk d.io 0 ss && (match d.io with
      | none => true
      | some i => decide (i < d.np))) with
    | false =>
      have e : runFd T Kf d ss = .bad := by
        unfold runFd
        rw [hc]
        rfl
      rw [e] at h
      exact h.elim
    | true =>
      have e : runFd T Kf d ss = endOf d.io d.fr (runL (exS T Kf d.io d.fr d.fuel) d.code (ss ++ List.replicate (d.nN - ss.length) .no)) := by
        unfold runFd
        rw [hc]
        rfl
      rw [e] at h
      obtain ⟨c0, c3⟩ := and2 hc
      obtain ⟨c1, c2⟩ := and2 c0
      have c1 : ss.length = d.np := of_decide_eq_true c1
      have lv : vs.length = ss.length := a.len
      let C : Cg := ⟨T, K, ⟨F, H, fun p => o = some p, fun i p => d.io = some i ∧ o = some p⟩, fun cls dx _ H' => E cls dx H', xi⟩
      have ioOwn : ∀ i, d.io = some i → ∃ l p us, ss[i]? = some (Slot.own l) ∧ vs[i]? = some (.ref p) ∧ o = some p ∧ H p = some (.lst us) := fun i hi => by
        rw [hi] at c3
        have lt : i < d.np := of_decide_eq_true c3
        obtain ⟨l, hl⟩ := slotsOk_at (i := 0) (j := i) c2 (by rw [hi, Nat.zero_add]) (by omega)
        obtain ⟨p, us, q1, q2, q3, _⟩ := a.own_at hl
        exact ⟨l, p, us, hl, q1, q2, q3⟩
      have oIo : ∀ p, o = some p → ∃ i, d.io = some i := fun p hp => by
        have : ∀ {vs : List V} {ss : List Slot} {o : Option Addr}, ArgsOk K F H vs ss o → o = some p → ∃ i l, ss[i]? = some (Slot.own l) := fun {vs ss o} a => by
          induction a with
          | nil e => intro z; rw [e] at z; cases z
          | val _ _ ih => intro z; obtain ⟨i, l, q⟩ := ih z; exact ⟨i + 1, l, q⟩
          | own _ _ _ _ _ => intro z; exact ⟨0, _, rfl⟩
        obtain ⟨i, l, q⟩ := this a hp
        exact ⟨0 + i, slotsOk_own c2 q⟩
      have G : Gs C (cxOf (L2.CX P w) P w K mg base N d.x scope f cdv A outer s H E) N scope d.io :=
        { hK := rfl
          hN := rfl
          hs := rfl
          calm := rfl
          guards := gu
          room := room.mono hk
          nd := S.nd
          glob := hgl
          blt := hbl
          call := fun g hg => by
            obtain ⟨fa, fd', ps', q1, q2, q3, q4⟩ := hT g hg
            exact ⟨k, fa, fd', ps', q1, q2, room, q3, q4⟩
          xif := hxi
          pass := fun σ => passAt (takes_of rfl rfl rfl rfl) σ
          fn := fun _ _ => rfl
          thru := passes_of rfl
          kind := S.kind
          pinP := fun q hq => by
            obtain ⟨i, hi⟩ := oIo q hq
            exact ⟨i, hi, hq⟩
          pinI := fun j q hq => hq.1 }
      have k0 : Ok C.B K F H (L2.start N vs) (ss ++ List.replicate (d.nN - ss.length) .no) := by
        refine ⟨?_, fun i dd e => ?_, fun i l e => ?_, fun i j l m p e1 e2 _ _ => ?_, sub, Same.refl _, fun _ z _ => z, fun _ _ z _ => z, fun _ z => z, fun i p hp => ?_⟩
        · unfold L2.start
          rw [List.length_append, List.length_append, List.length_replicate, List.length_replicate, List.length_map, lv, hN]
        · obtain ⟨v, q1, q2⟩ := a.val_at (en_at e (fun z => nomatch z))
          exact ⟨v, start_at q1, q2⟩
        · obtain ⟨p, us, q1, q2, q3, q4, q5⟩ := a.own_at (en_at e (fun z => nomatch z))
          exact ⟨p, us, start_at q1, q3, q4, q5, .inl q2⟩
        · have z1 := slotsOk_own c2 (en_at e1 (fun z => nomatch z))
          have z2 := slotsOk_own c2 (en_at e2 (fun z => nomatch z))
          rw [z1] at z2
          have := Option.some.inj z2
          omega
        · obtain ⟨l, p', us, q1, q2, q3, q4⟩ := ioOwn i hp.1
          have q5 := hp.2
          rw [q3] at q5
          cases q5
          refine ⟨start_at q2, ?_⟩
          have lt := (List.getElem?_eq_some_iff.mp q1).1
          have z : (ss ++ List.replicate (d.nN - ss.length) .no)[i]? = some (.own l) := by rw [List.getElem?_append_left lt]; exact q1
          rw [ownAt_some.mpr z]
          exact fun w => nomatch w
      have body_ : PSs (cxOf (L2.CX P w) P w K mg base N d.x scope f cdv A outer s H E) body (tS C d.fr (runL (exS T Kf d.io d.fr d.fuel) d.code)) := by
        obtain ⟨n, hn'⟩ : ∃ n, d.fuel = n + 1 := ⟨d.fuel - 1, by omega⟩
        rw [hn'] at hm ⊢
        exact sndL G (fun _ _ => .inr rfl) (fun _ _ => .inr rfl) (fun _ => rfl) (sndS G (takes_of rfl rfl rfl rfl) (n + 1)) d.code body hm
      refine ⟨_, body_, F, _, k0, ?_⟩
      have bk : ∀ {σ' F' H' en}, Ok C.B K F' H' σ' en → Bk ⟨F, H, fun p => o = some p, fun _ _ => False⟩ F' H' := fun {σ' F' H' en} k' => ⟨k'.sub, k'.bsub, k'.bnew, k'.bkeep, k'.bdom⟩
      have out : ∀ {σ' F' H' en r x}, Ok C.B K F' H' σ' en → outOf d.io r en = .ok x → x.1 = r ∧ OutOk K F' H' o x.2 := fun {σ' F' H' en r x} k' e => by
        unfold outOf at e
        cases hio : d.io with
        | none =>
          rw [hio] at e
          cases e
          refine ⟨rfl, ?_⟩
          cases ho : o with
          | none => trivial
          | some p =>
            obtain ⟨i, hi⟩ := oIo p ho
            rw [hio] at hi; cases hi
        | some i =>
          rw [hio] at e
          cases hw : ownAt en i with
          | none => simp only [hw] at e; cases e
          | some l =>
            simp only [hw] at e
            cases e
            refine ⟨rfl, ?_⟩
            obtain ⟨l0, p, us0, q1, q2, q3, q4⟩ := ioOwn i hio
            obtain ⟨p', us, f1, f2, f3, f4, f5⟩ := k'.own i l (ownAt_some.mp hw)
            obtain ⟨g1, _⟩ := k'.pin i p ⟨hio, q3⟩
            rw [g1] at f1
            cases f1
            rw [q3]
            exact ⟨f4, us, f2, f3⟩
      have noex : ∀ {r en c l}, outOf d.io r en ≠ .ex c l := fun {r en c l} e => by
        unfold outOf at e
        split at e
        · cases e
        · split at e <;> cases e
      cases r : runL (exS T Kf d.io d.fr d.fuel) d.code (ss ++ List.replicate (d.nN - ss.length) .no) with
      | nx en =>
        rw [r] at h
        have h : (match (if d.fr then .bad else outOf d.io .non en : R (D × Option (List D))) with
          | .ok r => ∀ v F' H', Bk ⟨F, H, fun a => o = some a, fun _ _ => False⟩ F' H' → OutOk K F' H' o r.2 → RetOk d.fr K F' H H' v r.1 → Q v H'
          | .ex c l => ∀ cls dx F' H', Bk ⟨F, H, fun a => o = some a, fun _ _ => False⟩ F' H' → xi c l cls dx F' H' → E cls dx H'
          | .bad => False) := h
        cases fr : d.fr with
        | true => rw [fr] at h; exact h.elim
        | false =>
          rw [fr] at h
          intro σ' F' H' s' k'
          cases e2 : outOf d.io .non en with
          | bad => simp only [e2] at h; exact h.elim
          | ex c l => exact absurd e2 noex
          | ok x =>
            simp only [e2] at h
            obtain ⟨o1, o2⟩ := out k' e2
            refine h .non F' H' (bk k') o2 ?_
            rw [o1]
            unfold RetOk
            rw [if_neg (fun z => nomatch z)]
            exact .non
      | rt rr en =>
        rw [r] at h
        intro v σ' F' H' s' k' ret
        have h : (match outOf d.io rr en with
          | .ok r => ∀ v F' H', Bk ⟨F, H, fun a => o = some a, fun _ _ => False⟩ F' H' → OutOk K F' H' o r.2 → RetOk d.fr K F' H H' v r.1 → Q v H'
          | .ex c l => ∀ cls dx F' H', Bk ⟨F, H, fun a => o = some a, fun _ _ => False⟩ F' H' → xi c l cls dx F' H' → E cls dx H'
          | .bad => False) := h
        cases e2 : outOf d.io rr en with
        | bad => rw [e2] at h; exact h.elim
        | ex c l => exact absurd e2 noex
        | ok x =>
          rw [e2] at h
          obtain ⟨o1, o2⟩ := out k' e2
          exact h v F' H' (bk k') o2 (by rw [o1]; exact ret)
      | ex c l =>
        rw [r] at h
        exact fun σ cls dx F' H' b x => h cls dx F' H' ⟨b.sub, b.bsub, b.bnew, b.bkeep, b.bdom⟩ x
      | bk en => rw [r] at h; exact h.elim
      | ct en => rw [r] at h; exact h.elim
      | bad => rw [r] at h; exact h.elim
/-- one more def -/
theorem TabOk.add {k : Nat} {T : Tab} {d : Fd} {Kf : Nat} {f : Addr} {fd : FuncData} {ps : List Str} (hT : TabOk P w K mg base xi k T) (hm : mg d.x = some (.ref f)) (hk : PySem.W.keepIn K (.ref f) = true) (F : FnG P w K mg base (k + 1) f fd ps (SpOf K xi d.fr (runFd T Kf d)))
    (hb : ∀ dl : List D, (dl.isEmpty || lSame d.dfl dl) = true → ∃ ds dvs, Binds K fd ps ds ∧ Vals dvs ds ∧ ∀ F, DnA K F dvs dl) : TabOk P w K mg base xi (k + 1) (T.add Kf d) := fun g hg => by
  by_cases e : g = d.x
  · subst e
    have e1 : (T.add Kf d).fresh d.x = d.fr := if_pos rfl
    have e2 : (T.add Kf d).call d.x = runFd T Kf d := funext fun ss => if_pos rfl
    have e3 : (T.add Kf d).dflt d.x = d.dfl := if_pos rfl
    rw [e1, e2, e3]
    exact ⟨f, fd, ps, hm, hk, F, hb⟩
  · have e0 : (T.add Kf d).has g = T.has g := if_neg e
    have e1 : (T.add Kf d).fresh g = T.fresh g := if_neg e
    have e2 : (T.add Kf d).call g = T.call g := funext fun ss => if_neg e
    have e3 : (T.add Kf d).dflt g = T.dflt g := if_neg e
    rw [e0] at hg
    rw [e1, e2, e3]
    obtain ⟨fa, fd', ps', q1, q2, q3, q4⟩ := hT g hg
    exact ⟨fa, fd', ps', q1, q2, q3.mono (Nat.le_succ k), q4⟩
end
end Vm
end
section
set_option Elab.async false
set_option linter.all false
set_option maxRecDepth 100000
namespace Vm
open PySem PySem.Spec L2 PyProof.Rows
/-! ### the law's def, called by the machine's caller -/
section
variable {P : Program} {w : World} {K : PySem.W.Frag} {mg mb : Str → Option Value}
/-- no exception goes up from here -/
def xi0 : XI := fun _ _ _ _ _ _ => False
theorem law_run {k : Nat} {fa a : Addr} {fd : FuncData} {x : Str} {rs : List Slot → R (D × Option (List D))} {s1 : Shared} {vs : List Value} {ns : List Int}
    (inK : K.In s1.heap) (gl : s1.heap.Ns mainGlobals mg) (bt : s1.heap.Ns builtinsNs mb) (btb : ∀ y : Str, y ≠ "__name__" → mb y = bootBuiltins y) (lim : s1.heap.NoLimit) (gens : s1.gens = #[])
    (obj : s1.heap.get? a = some { cls := .type "list", data := .seq vs.toArray }) (are : IntsAre vs ns) (small : ns.length ≤ sizeLine) (room : Room k callerA)
    (F : ∀ base : Heap, K.In base → base.Ns mainGlobals mg → FnG P w K mg base k fa fd [x] (SpOf K xi0 false rs)) (bd : ∀ (s : Shared) (u : Value), BindsTo s fd ⟨[u], []⟩ [(x, u)])
    (run : rs [.val (.scr ns)] = .ok (.bl true, none)) :
    codeAny (model P w) callerA (.call (.ref fa) ⟨[.ref a], []⟩) (fun r s' => r = .ok (.ret (.bool true)) ∧ OldK s1.heap s'.heap ∧ s'.os = s1.os ∧ AllBare s'.gens) s1 := by
  have vals := vals_ints are
  -- with a tracked heap H that holds the script at the most
  have main : ∀ H : Hp, (∀ b, H b = none ∨ (b = a ∧ K.lookup a = none ∧ ∃ o xs, H b = some (.frz o (.lst xs)))) → SqL K H a (ns.map V.int) → HOk P w H s1.heap →
      codeAny (model P w) callerA (.call (.ref fa) ⟨[.ref a], []⟩) (fun r s' => r = .ok (.ret (.bool true)) ∧ OldK s1.heap s'.heap ∧ s'.os = s1.os ∧ AllBare s'.gens) s1 := by
    intro H only sq ok
    have plain : ∀ {b : Addr} {o : Obj} {es : Array DictEntry} {ep : Nat}, s1.heap.get? b = some o → o.data = .dict es ep → H b = none := fun {b o es ep} e d => by
      rcases only b with z | ⟨z, _, _⟩
      · exact z
      · subst z
        rw [obj] at e
        cases e
        cases d
    have under : ∀ {b : Addr} {m : Str → Option Value}, s1.heap.Ns b m → (hidT s1.heap H).Ns b m := fun {b m} ⟨o, es, ep, e, d, r⟩ => ⟨o, es, ep, hidT_get e (plain e d), d, r⟩
    have inB : K.In (hidT s1.heap H) := fun b o e => hidT_get (inK b o e) (by
      rcases only b with z | ⟨z, z2, _⟩
      · exact z
      · subst z
        rw [z2] at e; cases e)
    obtain ⟨mc, l1, l2⟩ := lim
    have e0 : Env0 P w K mg (hidT s1.heap H) callerA [] s1 H :=
      ⟨rfl, ⟨inB, under gl, ⟨mb, under bt, btb⟩, ⟨mc, under l1, l2⟩⟩, fun b o e => of_hidT e, Nat.le_of_eq (hidT_size _ _), trivial, fun b hb => absurd (show b ∈ ([] : List Addr) from hb) (by simp), ok, .of_eq gens⟩
    have want : SpOf K xi0 false rs [.ref a] H (fun v _ => v = .bl true) fun _ _ _ => False := by
      refine ⟨H, none, [.val (.scr ns)], Same.refl _, .val (.scr sq) (.nil rfl), ?_⟩
      rw [run]
      intro v F' H' _ _ ret
      unfold RetOk at ret
      rw [if_neg (fun z => nomatch z)] at ret
      cases ret
      rfl
    refine codeAny_mono ((F _ inB (under gl)).run callerA [] s1 H ⟨[.ref a], []⟩ [.ref a] [.ref a] _ _ rfl room e0 (bd s1 (.ref a)) (.cons rfl .nil) want) fun r s' z => ?_
    match r, z with
    | .error e, ⟨_, _, _, _, _, _, _, _, _, _, _, _, no⟩ => exact no.elim
    | .ok .next, z => exact z.elim
    | .ok .brk, z => exact z.elim
    | .ok .cont, z => exact z.elim
    | .ok (.ret u), ⟨v, H', os, bare, un, ok', r', q⟩ =>
      have q : v = .bl true := q
      subst q
      obtain rfl : u = Value.bool true := r'
      refine ⟨rfl, OldK.of_keep fun b o e => ?_, os, bare⟩
      rcases only b with z | ⟨_, _, ob, xs, z⟩
      · exact un.keep b o e z (by intro y; exact absurd (show b ∈ ([] : List Addr) from y) (by simp)) (by simp)
      · obtain ⟨e1, _⟩ := ok b _ z
        obtain ⟨e2, _⟩ := ok' b _ (un.frzs b ob _ z)
        rw [e] at e1
        cases e1
        exact e2
  have len := are.length
  cases look : K.lookup a with
  | some o =>
    have e := inK a o look
    rw [obj] at e
    cases e
    exact main (fun _ => none) (fun _ => .inl rfl) (.inr ⟨_, vs.toArray, _, look, rfl, rfl, rfl, by rw [List.size_toArray, len]; exact small, by simpa using vals⟩) fun b u z => by
      have z : (none : Option HO) = some u := z
      cases z
  | none =>
    let H : Hp := fun b => if b = a then some (.frz { cls := .type "list", data := .seq vs.toArray } (.lst (ns.map V.int))) else none
    have at_ : H a = some (.frz { cls := .type "list", data := .seq vs.toArray } (.lst (ns.map V.int))) := if_pos rfl
    refine main H (fun b => ?_) (.inl (.inr ⟨{ cls := .type "list", data := .seq vs.toArray }, at_⟩)) fun b u z => ?_
    · by_cases e : b = a
      · subst e; exact .inr ⟨rfl, look, _, _, at_⟩
      · exact .inl (if_neg e)
    · by_cases e : b = a
      · subst e
        rw [at_] at z
        cases z
        exact ⟨obj, by rw [List.length_map]; exact small, vs, _, vals, obj⟩
      · have z2 : H b = none := if_neg e
        rw [z2] at z; cases z
end
/-- the end of a law -/
theorem walk_end {l : PySem.W.OpenLaw} {n k : Nat} {q : Program} {loose : List Str} {XP : (Str → Option Value) → Heap → Prop} {YP : World → Heap → Prop} {d : DefRec} {x : Str} {rs : List Slot → R (D × Option (List D))}
    (hn : l.most = some n) (hn2 : n ≤ sizeLine) (hdf : d.params.defaults = []) (hr : Room k callerA)
    (F : ∀ (w : World) (mg : Str → Option Value) (fa : Addr) (h : Heap), YP w h → h.Ns mainGlobals mg → mg d.name = some (.ref fa) → ∃ (K : PySem.W.Frag) (fd : FuncData), K.In h ∧ (∀ (s : Shared) (u : Value), BindsTo s fd ⟨[u], []⟩ [(x, u)]) ∧
      ∀ base : Heap, K.In base → base.Ns mainGlobals mg → FnG l.prog w K mg base k fa fd [x] (SpOf K xi0 false rs))
    (run : ∀ ns : List Int, ns.length ≤ n → (∀ z ∈ ns, Builtin.Int.intBits z ≤ 1048576) → rs [.val (.scr ns)] = .ok (.bl true, none)) :
    PySem.W.WalkO q loose XP YP l.row.toRowW d [] (fun f vs => PySem.call f vs) := by
  refine Att.attach_callB hn hdf fun w s₀ s₁ mg mb fa o pm cd doc a vs ns G Y ho hd hcd hmg hobj hints hlen hbits hg => ?_
  obtain ⟨K, fd, KX, hb, hF⟩ := F w mg fa _ Y G.T.g hmg
  exact law_run KX G.T.g G.T.b G.T.builtins G.T.nolimit hg hobj hints (Nat.le_trans hlen hn2) hr hF hb (run ns hlen hbits)

/-! ### what stands at the module's names: data -/
mutual
def datB (K : PySem.W.Frag) : Value → D → Bool
  | .none, .non => true
  | .bool a, .bl b => a == b
  | .int i _, .int j => decide (i = j)
  | .str x _, .str y => decide (x = y)
  | .ref a, .tup ds => (match K.lookup a with
    | some ⟨.type c, _, .seq its _, _⟩ => decide (c = "tuple") && decide (its.size ≤ sizeLine) && datAll K its.toList ds
    | _ => false)
  | _, _ => false
def datAll (K : PySem.W.Frag) : List Value → List D → Bool
  | [], [] => true
  | u :: us, d :: ds => datB K u d && datAll K us ds
  | _, _ => false
end
def rv : Value → V
  | .none => .non
  | .bool b => .bl b
  | .int i _ => .int i
  | .str x _ => .str x
  | .ref a => .ref a
  | _ => .non
mutual
theorem datB_ok {K : PySem.W.Frag} {H : Hp} : ∀ (d : D) (u : Value), datB K u d = true → RelV (rv u) u ∧ Dn K H (rv u) d
  | .non, u, h => by cases u <;> first | exact ⟨rfl, .non⟩ | cases h
  | .bl b, u, h => by
    cases u <;> first | cases h | skip
    rename_i a
    have e : a = b := eq_of_beq (show (a == b) = true from h)
    subst e
    exact ⟨rfl, .bl _⟩
  | .int i, u, h => by
    cases u <;> first | cases h | skip
    have e := of_decide_eq_true h
    subst e
    exact ⟨⟨_, rfl⟩, .int _⟩
  | .str x, u, h => by
    cases u <;> first | cases h | skip
    have e := of_decide_eq_true h
    subst e
    exact ⟨⟨_, rfl⟩, .str _⟩
  | .tup ds, u, h => by
    cases u <;> first | cases h | skip
    rename_i a
    have h : (match K.lookup a with
      | some ⟨.type c, _, .seq its _, _⟩ => decide (c = "tuple") && decide (its.size ≤ sizeLine) && datAll K its.toList ds
      | _ => false) = true := h
    split at h
    · rename_i c od its n osl e
      obtain ⟨h0, h3⟩ := and2 h
      obtain ⟨h1, h2⟩ := and2 h0
      obtain ⟨q1, q2⟩ := datAll_ok (H := H) ds its.toList h3
      exact ⟨rfl, .tup (.inr ⟨_, its, n, e, congrArg Value.type (of_decide_eq_true h1), rfl, of_decide_eq_true h2, q1⟩) q2⟩
    · cases h
  | .lst _, u, h => by cases u <;> cases h
  | .dic _, u, h => by cases u <;> cases h
  | .exc _ _, u, h => by cases u <;> cases h
  | .scr _, u, h => by cases u <;> cases h
theorem datAll_ok {K : PySem.W.Frag} {H : Hp} : ∀ (ds : List D) (us : List Value), datAll K us ds = true → Vals (us.map rv) us ∧ DnA K H (us.map rv) ds
  | [], [], _ => ⟨.nil, .nil⟩
  | d :: ds, u :: us, h => by
    obtain ⟨h1, h2⟩ := and2 (show (datB K u d && datAll K us ds) = true from h)
    obtain ⟨a1, a2⟩ := datB_ok (H := H) d u h1
    obtain ⟨b1, b2⟩ := datAll_ok (H := H) ds us h2
    exact ⟨.cons a1 b1, .cons a2 b2⟩
  | [], _ :: _, h => by cases h
  | _ :: _, [], h => by cases h
end
def gloB (K : PySem.W.Frag) (p : Str × D) : Bool := match PySem.W.nsIn K mainGlobals p.1 with
  | some (some u) => datB K u p.2
  | _ => false
theorem gloB_ok {K : PySem.W.Frag} {h : Heap} {mg : Str → Option Value} (X : K.In h) (G : h.Ns mainGlobals mg) {p : Str × D} (e : gloB K p = true) : ∃ v u, mg p.1 = some u ∧ RelV v u ∧ ∀ F, Dn K F v p.2 := by
  unfold gloB at e
  split at e
  · rename_i u q
    exact ⟨rv u, u, PySem.W.mg_of X G q, (datB_ok (H := fun _ => none) p.2 u e).1, fun F => (datB_ok (H := F) p.2 u e).2⟩
  · cases e
/-! ### the hook: defs, facts, data -/
abbrev AlV : Type := He.AlD × Bool
def obsV (fa : List He.Fa) (fn : List He.DefD) (gs : List (Str × D)) (K : PySem.W.Frag) : AlV := (He.obsD fa fn K, gs.all (gloB K))
def SaysV (fa : List He.Fa) (fn : List He.DefD) (gs : List (Str × D)) (K : PySem.W.Frag) : Prop := obsV fa fn gs K = (He.valD fn, true)
def obsVG (n : Nat) (fa : List He.Fa) (fn : List He.DefD) (gs : List (Str × D)) (g : Addr → Option Obj) : AlV := obsV fa fn gs (He.frG g (He.asD g n))
def hookV (n : Nat) (fa : List He.Fa) (fn : List He.DefD) (gs : List (Str × D)) : PySem.W.Hook where
  α := AlV
  obs := fun s => obsVG n fa fn gs s.heap.get?
  val := fun _ => (He.valD fn, true)
  says := fun _ h => ∃ K : PySem.W.Frag, K.In h ∧ SaysV fa fn gs K
  of := fun _ _ e => ⟨_, He.frG_in, e⟩
  keeps := fun _ _ _ ⟨K, hK, c⟩ k => ⟨K, PySem.W.Frag.In.keeps hK k, c⟩
theorem obsVG_eq {n : Nat} {fa : List He.Fa} {fn : List He.DefD} {gs : List (Str × D)} {g : Addr → Option Obj} {s : Shared} (h : ∀ a, g a = s.heap.get? a) : obsVG n fa fn gs g = (hookV n fa fn gs).obs s := by
  have e : g = s.heap.get? := funext h
  rw [e]
  rfl
section
variable {fa : List He.Fa} {fn : List He.DefD} {gs : List (Str × D)} {K : PySem.W.Frag}
theorem SaysV.d (c : SaysV fa fn gs K) : He.SaysD fa fn K := congrArg Prod.fst c
theorem SaysV.g (c : SaysV fa fn gs K) : gs.all (gloB K) = true := congrArg Prod.snd c
end
end Vm
end
section
set_option Elab.async false
set_option linter.all false
set_option maxRecDepth 100000
namespace Vm
open PySem PySem.Spec L2 PyProof.Rows
/-! ### a table from the head's facts -/
def facts (names : List Str) : List He.Fa := names.map He.Fa.glo ++ blts.map He.Fa.free
structure Top (K : PySem.W.Frag) (mg : Str → Option Value) (names : List Str) (g : Str → Option D) : Prop where
  bl : ∀ x ∈ blts, mg x = none
  nm : ∀ x ∈ names, mg x = some (.ref (He.ga K x))
  gl : ∀ x d, g x = some d → ∃ v u, mg x = some u ∧ RelV v u ∧ ∀ F, Dn K F v d
def gOf (gs : List (Str × D)) (x : Str) : Option D := gs.lookup x
theorem top_of {K : PySem.W.Frag} {h : Heap} {mg : Str → Option Value} {names : List Str} {fn : List He.DefD} {gs : List (Str × D)} (X : K.In h) (G : h.Ns mainGlobals mg) (c : SaysV (facts names) fn gs K) : Top K mg names (gOf gs) := by
  have all : ∀ f ∈ facts names, f.ok K = true := fun f hf => by
    have c1 := (He.ba (show (((facts names).all fun f => f.ok K) && fn.all fun d => d.ok K) = true from congrArg (fun z : He.AlD => z.1) c.d)).1
    exact List.all_eq_true.mp c1 f hf
  refine ⟨fun x hx => He.free_ok X G (all _ (List.mem_append_right _ (List.mem_map.mpr ⟨x, hx, rfl⟩))), fun x hx => He.glo_ok X G (all _ (List.mem_append_left _ (List.mem_map.mpr ⟨x, hx, rfl⟩))), fun x d e => ?_⟩
  have m : (x, d) ∈ gs := by
    unfold gOf at e
    exact PySem.mem_of_lookup e
  exact gloB_ok X G (List.all_eq_true.mp c.g (x, d) m)
section
variable {P : Program} {w : World} {K : PySem.W.Frag} {mg : Str → Option Value} {base : Heap} {names : List Str}
theorem lSame_nil {dl : List D} (h : (dl.isEmpty || lSame [] dl) = true) : dl = [] := by
  cases dl with
  | nil => rfl
  | cons _ _ => cases h
theorem lSame_one {i : Int} {dl : List D} (h : (dl.isEmpty || lSame [.int i] dl) = true) : dl = [] ∨ dl = [.int i] := by
  cases dl with
  | nil => exact .inl rfl
  | cons a l =>
    have h : (dSame (.int i) a && lSame [] l) = true := h
    obtain ⟨h1, h2⟩ := and2 h
    cases l with
    | cons _ _ => cases h2
    | nil =>
      cases a <;> first | cases h1 | skip
      have e := of_decide_eq_true h1
      subst e
      exact .inr rfl
/-- one more def, from its text -/
theorem TabOk.step {k : Nat} {T : Tab} (hT : TabOk P w K mg base xi0 k T) (tp : Top K mg names T.glob) (hk : 1 ≤ k) {d : Fd} {Kf : Nat} {params : Arguments} {body : List Stmt} {scope : Scope} {dfl : List He.Dv} {N ps : List Str}
    (fu : ∃ fd, FunD K d.x d.x params body scope (dfl.map (He.Dv.v K)) [] (He.ga K d.x) fd) (hx : d.x ∈ names) (S : C8.scC N ps scope = true) (hn : ps.length = d.np) (hN : N.length = d.nN) (hf : 0 < d.fuel) (hm : matSL (matS T.fresh T.dflt N scope d.fuel) d.code body = true)
    (hb : ∀ fd, FunD K d.x d.x params body scope (dfl.map (He.Dv.v K)) [] (He.ga K d.x) fd → ∀ dl : List D, (dl.isEmpty || lSame d.dfl dl) = true → ∃ ds dvs, Binds K fd ps ds ∧ Vals dvs ds ∧ ∀ F, DnA K F dvs dl) : TabOk P w K mg base xi0 (k + 1) (T.add Kf d) := by
  obtain ⟨fd, Fu⟩ := fu
  exact hT.add (tp.nm _ hx) Fu.kp (fnG_of hT (fun _ _ _ _ _ _ _ z => z) tp.gl tp.bl hk Fu (C8.fnScope_by S) hn hN hm hf) (hb fd Fu)
theorem binds_none {d : Fd} {params : Arguments} {body : List Stmt} {scope : Scope} {ps : List Str} (hd : d.dfl = [])
    (h : ∀ (kV doc pm : Value) (an : Option Addr) (cdv ct : Value) (us : List Value), us.length = ps.length → bindArgs (PySem.W.fnOf d.x d.x params body scope .none kV doc pm an cdv ct) ⟨us, []⟩ = pure (ps.zip us)) :
    ∀ fd, FunD K d.x d.x params body scope (([] : List He.Dv).map (He.Dv.v K)) [] (He.ga K d.x) fd → ∀ dl : List D, (dl.isEmpty || lSame d.dfl dl) = true → ∃ ds dvs, Binds K fd ps ds ∧ Vals dvs ds ∧ ∀ F, DnA K F dvs dl := fun fd Fu dl e => by
  rw [hd] at e
  have e := lSame_nil e
  subst e
  exact ⟨[], [], FunD.bindsN Fu h, .nil, fun _ => .nil⟩
theorem binds_one {d : Fd} {params : Arguments} {body : List Stmt} {scope : Scope} {ps : List Str} {i : Int} {m : Nat} (hd : d.dfl = [.int i]) (hm : ps.length = m + 1)
    (h1 : ∀ (T : Addr) (kV doc pm : Value) (an : Option Addr) (cdv ct : Value) (us its : List Value), us.length = m → its.length = 1 →
      ∃ k, bindArgs (PySem.W.fnOf d.x d.x params body scope (.ref T) kV doc pm an cdv ct) ⟨us, []⟩ = seqItems? (.ref T) >>= k ∧ k (some its.toArray) = pure (ps.zip (us ++ its.drop 0)))
    (h2 : ∀ (T : Addr) (kV doc pm : Value) (an : Option Addr) (cdv ct : Value) (us its : List Value), us.length = m + 1 → its.length = 1 →
      ∃ k, bindArgs (PySem.W.fnOf d.x d.x params body scope (.ref T) kV doc pm an cdv ct) ⟨us, []⟩ = seqItems? (.ref T) >>= k ∧ k (some its.toArray) = pure (ps.zip (us ++ its.drop 1))) :
    ∀ fd, FunD K d.x d.x params body scope (([.int i] : List He.Dv).map (He.Dv.v K)) [] (He.ga K d.x) fd → ∀ dl : List D, (dl.isEmpty || lSame d.dfl dl) = true → ∃ ds dvs, Binds K fd ps ds ∧ Vals dvs ds ∧ ∀ F, DnA K F dvs dl := fun fd Fu dl e => by
  rw [hd] at e
  rcases lSame_one e with z | z
  · subst z
    obtain ⟨ds, q1, q2⟩ := FunD.binds1 (ps := ps) Fu (m + 1) 1 (by simp) (by simp [hm]) h2
    exact ⟨ds, [], q2, q1, fun _ => .nil⟩
  · subst z
    obtain ⟨ds, q1, q2⟩ := FunD.binds1 (ps := ps) Fu m 0 (by simp) (by simp [hm]) h1
    exact ⟨ds, [.int i], q2, q1, fun _ => .cons (.int i) .nil⟩
theorem fun_of {fa : List He.Fa} {fn : List He.DefD} (c : He.SaysD fa fn K) (i : Nat) {x : Str} {params : Arguments} {body : List Stmt} {scope : Scope} {dfl : List He.Dv} (h : fn[i]? = some ⟨(x, none), x, x, params, body, scope, dfl, []⟩) :
    ∃ fd, FunD K x x params body scope (dfl.map (He.Dv.v K)) [] (He.ga K x) fd := c.def_ i h
end
end Vm
end
section
set_option Elab.async false
set_option linter.all false
set_option maxRecDepth 100000
namespace Vm
open PySem PySem.Spec L2
/-! ### running codes by rewriting -/
section
variable {T : Tab} {n K : Nat} {io : Option Nat} {fr : Bool} {en : En} {f : E → En → R (D × En)} {es : List E}
theorem b_ok {α β : Type} (a : α) (f : α → R β) : (R.ok a).bind f = f a := rfl
theorem b_bad {α β : Type} (f : α → R β) : (R.bad : R α).bind f = .bad := rfl
theorem b_ex {α β : Type} (c : Str) (l : List D) (f : α → R β) : (R.ex c l : R α).bind f = .ex c l := rfl
theorem b_if {α β : Type} (p : Prop) [Decidable p] (a b : R α) (f : α → R β) : (if p then a else b).bind f = if p then a.bind f else b.bind f := by split <;> rfl
theorem o_ok {α : Type} (a : α) (f : α → O) : (R.ok a).o f = f a := rfl
theorem o_bad {α : Type} (f : α → O) : (R.bad : R α).o f = .bad := rfl
theorem o_ex {α : Type} (c : Str) (l : List D) (f : α → O) : (R.ex c l : R α).o f = .ex c l := rfl
theorem s_nx (en : En) (f : En → O) : (O.nx en).seq f = f en := rfl
theorem s_rt (d : D) (en : En) (f : En → O) : (O.rt d en).seq f = .rt d en := rfl
theorem s_bk (en : En) (f : En → O) : (O.bk en).seq f = .bk en := rfl
theorem s_ct (en : En) (f : En → O) : (O.ct en).seq f = .ct en := rfl
theorem s_bad (f : En → O) : O.bad.seq f = .bad := rfl
theorem s_if (p : Prop) [Decidable p] (a b : O) (f : En → O) : (if p then a else b).seq f = if p then a.seq f else b.seq f := by split <;> rfl
theorem t_nx (en : En) (f : En → O) : (O.nx en).turn f = f en := rfl
theorem t_ct (en : En) (f : En → O) : (O.ct en).turn f = f en := rfl
theorem t_bk (en : En) (f : En → O) : (O.bk en).turn f = .nx en := rfl
theorem t_rt (d : D) (en : En) (f : En → O) : (O.rt d en).turn f = .rt d en := rfl
theorem t_bad (f : En → O) : O.bad.turn f = .bad := rfl
theorem e_c (d : D) : evE T (n + 1) (.c d) en = .ok (d, en) := rfl
theorem e_v (i : Nat) : evE T (n + 1) (.v i) en = match valAt en i with
      | some d => .ok (d, en)
      | none => .bad := rfl
theorem e_g (x : Str) : evE T (n + 1) (.g x) en = match T.glob x with
      | some d => .ok (d, en)
      | none => .bad := rfl
def prR (p : Pr) (q : List AV × En) : R (D × En) := match resolveD q.2 q.1 with
      | none => .bad
      | some ds => (prim p ds).bind fun d => .ok (d, q.2)
theorem e_pr (p : Pr) (l : List E) : evE T (n + 1) (.pr p l) en = (evArgs (evE T n) l en).bind (prR p) := rfl
def andR (k : En → R (D × En)) (p : D × En) : R (D × En) := match p.1 with
      | .bl true => k p.2
      | .bl false => .ok (.bl false, p.2)
      | _ => .bad
def orR (k : En → R (D × En)) (p : D × En) : R (D × En) := match p.1 with
      | .bl true => .ok (.bl true, p.2)
      | .bl false => k p.2
      | _ => .bad
def iteR (a b : En → R (D × En)) (p : D × En) : R (D × En) := match p.1 with
      | .bl true => a p.2
      | .bl false => b p.2
      | _ => .bad
theorem e_and (a b : E) : evE T (n + 1) (.and_ a b) en = (evE T n a en).bind (andR (evE T n b)) := rfl
theorem e_or (a b : E) : evE T (n + 1) (.or_ a b) en = (evE T n a en).bind (orR (evE T n b)) := rfl
theorem e_ite (t a b : E) : evE T (n + 1) (.ite t a b) en = (evE T n t en).bind (iteR (evE T n a) (evE T n b)) := rfl
theorem and_bl (k : En → R (D × En)) (b : Bool) (en : En) : andR k (.bl b, en) = if b = true then k en else .ok (.bl false, en) := by cases b <;> rfl
theorem or_bl (k : En → R (D × En)) (b : Bool) (en : En) : orR k (.bl b, en) = if b = true then .ok (.bl true, en) else k en := by cases b <;> rfl
theorem ite_bl (x y : En → R (D × En)) (b : Bool) (en : En) : iteR x y (.bl b, en) = if b = true then x en else y en := by cases b <;> rfl
def callR (T : Tab) (f : Str) (dl : List D) (q : List AV × En) : R (D × En) := if ioFine q.1 then (match resolve q.2 q.1 with
      | none => .bad
      | some ss => (T.call f (ss ++ dl.map .val)).bind fun r => if safeB (T.fresh f) q.1 r then (putBack q.1 r.2 q.2).bind fun en2 => .ok (r.1, en2) else .bad) else .bad
theorem e_call (x : Str) (l : List E) (dl : List D) (h : T.has x = true) : evE T (n + 1) (.call x l dl) en = (evArgs (evE T n) l en).bind (callR T x dl) := if_pos h
theorem cr_ok {x : Str} {dl : List D} {as : List AV} {ss : List Slot} {d : D} (h1 : ioCount as = 0) (h2 : ioOf as = none) (h3 : resolve en as = some ss) (h4 : T.call x (ss ++ dl.map .val) = .ok (d, none)) (h5 : safeB (T.fresh x) as (d, none) = true) : callR T x dl (as, en) = .ok (d, en) := by
  have fine : ioFine as = true := by unfold ioFine; rw [h1, h2]; rfl
  unfold callR
  simp only [fine, h3, if_true]
  rw [h4]
  show (if safeB (T.fresh x) as (d, none) then (putBack as none en).bind fun en2 => .ok (d, en2) else .bad) = _
  rw [h5]
  unfold putBack
  rw [h2]
  rfl
/-- one own list is handed on -/
theorem cr_io {x : Str} {dl : List D} {as : List AV} {ss : List Slot} {d : D} {i : Nat} {l : List D} (h1 : ioFine as = true) (h2 : ioOf as = some i) (h3 : resolve en as = some ss) (h4 : T.call x (ss ++ dl.map .val) = .ok (d, some l)) (h5 : safeB (T.fresh x) as (d, some l) = true) : callR T x dl (as, en) = .ok (d, en.set i (.own l)) := by
  unfold callR
  simp only [h1, h3, if_true]
  rw [h4]
  show (if safeB (T.fresh x) as (d, some l) then (putBack as (some l) en).bind fun en2 => .ok (d, en2) else .bad) = _
  rw [h5]
  unfold putBack
  rw [h2]
  rfl
theorem a_nil : evArgs f [] en = .ok ([], en) := rfl
def consR (k : En → R (List AV × En)) (p : D × En) : R (List AV × En) := (k p.2).bind fun q => .ok (.d p.1 :: q.1, q.2)
theorem a_c (d : D) : evArgs f (.c d :: es) en = (f (.c d) en).bind (consR (evArgs f es)) := rfl
theorem a_g (d : Str) : evArgs f (.g d :: es) en = (f (.g d) en).bind (consR (evArgs f es)) := rfl
theorem a_v (d : Nat) : evArgs f (.v d :: es) en = (f (.v d) en).bind (consR (evArgs f es)) := rfl
theorem a_pr (p : Pr) (l : List E) : evArgs f (.pr p l :: es) en = (f (.pr p l) en).bind (consR (evArgs f es)) := rfl
theorem a_and (a b : E) : evArgs f (.and_ a b :: es) en = (f (.and_ a b) en).bind (consR (evArgs f es)) := rfl
theorem a_or (a b : E) : evArgs f (.or_ a b :: es) en = (f (.or_ a b) en).bind (consR (evArgs f es)) := rfl
theorem a_ite (t a b : E) : evArgs f (.ite t a b :: es) en = (f (.ite t a b) en).bind (consR (evArgs f es)) := rfl
theorem a_ch (o p : Pr) (a b c : E) : evArgs f (.ch o p a b c :: es) en = (f (.ch o p a b c) en).bind (consR (evArgs f es)) := rfl
theorem a_call (x : Str) (l : List E) (dl : List D) : evArgs f (.call x l dl :: es) en = (f (.call x l dl) en).bind (consR (evArgs f es)) := rfl
theorem a_lc (e : E) (t : Tg) (k : Ik) (l : List E) (c : Option E) (v : List Nat) : evArgs f (.lc e t k l c v :: es) en = (f (.lc e t k l c v) en).bind (consR (evArgs f es)) := rfl
theorem cons_ok (k : En → R (List AV × En)) (d : D) (en : En) : consR k (d, en) = (k en).bind fun q => .ok (.d d :: q.1, q.2) := rfl
theorem a_bw (i : Nat) : evArgs f (.bw i :: es) en = if (ownAt en i).isSome then (evArgs f es en).bind fun q => .ok (.b i :: q.1, q.2) else .bad := rfl
theorem a_io (i : Nat) : evArgs f (.io i :: es) en = if (ownAt en i).isSome then (evArgs f es en).bind fun q => .ok (.o i :: q.1, q.2) else .bad := rfl
theorem v_0 (d : D) (en : En) : valAt (.val d :: en) 0 = some d := rfl
theorem v_s (s : Slot) (en : En) (i : Nat) : valAt (s :: en) (i + 1) = valAt en i := by
  unfold valAt
  rw [List.getElem?_cons_succ]
theorem w_0 (l : List D) (en : En) : ownAt (.own l :: en) 0 = some l := rfl
theorem w_v (d : D) (en : En) : ownAt (.val d :: en) 0 = none := rfl
theorem w_n (en : En) : ownAt (.no :: en) 0 = none := rfl
theorem w_s (s : Slot) (en : En) (i : Nat) : ownAt (s :: en) (i + 1) = ownAt en i := by
  unfold ownAt
  rw [List.getElem?_cons_succ]
theorem rd_nil : resolveD en [] = some [] := rfl
theorem rd_d (d : D) (l : List AV) : resolveD en (.d d :: l) = (resolveD en l).map (d :: ·) := rfl
theorem rd_b (i : Nat) (l : List AV) : resolveD en (.b i :: l) = match ownAt en i with
    | some ds => (resolveD en l).map (.lst ds :: ·)
    | none => none := rfl
theorem r_nil : resolve en [] = some [] := rfl
theorem r_d (d : D) (l : List AV) : resolve en (.d d :: l) = (resolve en l).map (.val d :: ·) := rfl
theorem r_b (i : Nat) (l : List AV) : resolve en (.b i :: l) = match ownAt en i with
    | some ds => (resolve en l).map (.val (.lst ds) :: ·)
    | none => none := rfl
theorem r_o (i : Nat) (l : List AV) : resolve en (.o i :: l) = match ownAt en i with
    | some ds => (resolve en l).map (.own ds :: ·)
    | none => none := rfl
theorem pr_some (p : Pr) {as : List AV} {ds : List D} (h : resolveD en as = some ds) : prR p (as, en) = (prim p ds).bind fun d => .ok (d, en) := by
  unfold prR
  rw [h]
theorem om_some {α β : Type} (f : α → β) (a : α) : (some a).map f = some (f a) := rfl
theorem ix_at {l : List D} {i : Int} {j : Nat} {d : D} (h : ixN l.length i = some j) (h2 : l[j]? = some d) : ixL l i = .ok d := by
  unfold ixL
  rw [h]
  simp only
  rw [h2]
theorem ix_0 (a : D) (l : List D) : ixL (a :: l) 0 = .ok a := ix_at (j := 0) (by unfold ixN; simp) rfl
theorem ix_1 (a b : D) (l : List D) : ixL (a :: b :: l) 1 = .ok b := ix_at (j := 1) (by unfold ixN; simp; omega) rfl
theorem ix_2 (a b c : D) (l : List D) : ixL (a :: b :: c :: l) 2 = .ok c := ix_at (j := 2) (by unfold ixN; simp; omega) rfl
/-! statements -/
theorem l_nil (g : S → En → O) : runL g [] en = .nx en := rfl
theorem l_cons (g : S → En → O) (s : S) (ss : List S) : runL g (s :: ss) en = (g s en).seq (runL g ss) := rfl
def asgR (tg : Tg) (p : D × En) : O := match setTg tg p.1 p.2 with
      | some en1 => .nx en1
      | none => .bad
theorem x_asg (tg : Tg) (e : E) : exS T K io fr (n + 1) (.asg tg e) en = (evE T n e en).o (asgR tg) := rfl
theorem x_ret (e : E) : exS T K io false (n + 1) (.ret e) en = (evE T n e en).o fun p => .rt p.1 p.2 := rfl
def iteO (a b : En → O) (p : D × En) : O := match p.1 with
      | .bl true => a p.2
      | .bl false => b p.2
      | _ => .bad
theorem x_ite (t : E) (a b : List S) : exS T K io fr (n + 1) (.ite t a b) en = (evE T n t en).o (iteO (runL (exS T K io fr n) a) (runL (exS T K io fr n) b)) := rfl
theorem iteO_bl (x y : En → O) (b : Bool) (en : En) : iteO x y (.bl b, en) = if b = true then x en else y en := by cases b <;> rfl
def parR (is : List Nat) (p : List D × En) : O := match setMany is p.1 p.2 with
      | some en1 => .nx en1
      | none => .bad
theorem x_par (is : List Nat) (es : List E) : exS T K io fr (n + 1) (.par is es) en = (evList (evE T n) es en).o (parR is) := rfl
theorem x_whl (t : E) (b : List S) : exS T K io fr (n + 1) (.whl t b) en = loopW (evE T n t) (runL (exS T K io fr n) b) K en := rfl
theorem el_nil : evList f [] en = .ok ([], en) := rfl
def elcR (k : En → R (List D × En)) (p : D × En) : R (List D × En) := (k p.2).bind fun q => .ok (p.1 :: q.1, q.2)
theorem el_cons (e : E) : evList f (e :: es) en = (f e en).bind (elcR (evList f es)) := rfl
theorem elc_ok (k : En → R (List D × En)) (d : D) (en : En) : elcR k (d, en) = (k en).bind fun q => .ok (d :: q.1, q.2) := rfl
theorem x_stop : exS T K io fr (n + 1) .stop en = .bad := rfl
theorem p_add_i (i j : Int) : prim .add [.int i, .int j] = .ok (.int (i + j)) := rfl
theorem p_sub_i (i j : Int) : prim .sub [.int i, .int j] = .ok (.int (i - j)) := rfl
theorem p_neg_i (i : Int) : prim .neg [.int i] = .ok (.int (-i)) := rfl
theorem p_mul_i (i j : Int) : prim .mul [.int i, .int j] = if mulOk i j = true then .ok (.int (i * j)) else .bad := rfl
theorem p_fdiv_i (i j : Int) : prim .fdiv [.int i, .int j] = if divOk j = true then .ok (.int (i / j)) else .bad := rfl
theorem p_mod_i (i j : Int) : prim .mod [.int i, .int j] = if j ≠ 0 then .ok (.int (i.fmod j)) else .bad := rfl
theorem p_ix_t (l : List D) (i : Int) : prim .ix [.tup l, .int i] = ixL l i := rfl
theorem p_ix_l (l : List D) (i : Int) : prim .ix [.lst l, .int i] = ixL l i := rfl
theorem p_lt_i (i j : Int) : prim .lt [.int i, .int j] = .ok (.bl (decide (i < j))) := rfl
theorem p_le_i (i j : Int) : prim .le [.int i, .int j] = .ok (.bl (decide (i ≤ j))) := rfl
theorem p_gt_i (i j : Int) : prim .gt [.int i, .int j] = .ok (.bl (decide (j < i))) := rfl
theorem p_ge_i (i j : Int) : prim .ge [.int i, .int j] = .ok (.bl (decide (j ≤ i))) := rfl
theorem p_abs_i (i : Int) : prim .abs [.int i] = .ok (.int (if i < 0 then -i else i)) := rfl
theorem p_not_b (b : Bool) : prim .not [.bl b] = .ok (.bl (!b)) := rfl
theorem p_len_t (l : List D) : prim .len [.tup l] = .ok (.int l.length) := rfl
theorem p_len_l (l : List D) : prim .len [.lst l] = .ok (.int l.length) := rfl
theorem p_tup2 (a b : D) : prim .tup [a, b] = .ok (.tup [a, b]) := rfl
theorem p_tup1 (a : D) : prim .tup [a] = .ok (.tup [a]) := rfl
theorem p_tup0 : prim .tup [] = .ok (.tup []) := rfl
theorem p_tup3 (a b c : D) : prim .tup [a, b, c] = .ok (.tup [a, b, c]) := rfl
theorem p_lst0 : prim .lst [] = .ok (.lst []) := rfl
theorem p_lst1 (a : D) : prim .lst [a] = .ok (.lst [a]) := rfl
theorem p_lst2 (a b : D) : prim .lst [a, b] = .ok (.lst [a, b]) := rfl
theorem p_eq_i (i j : Int) : prim .eq [.int i, .int j] = .ok (.bl (decide (i = j))) := by
  show (if (D.int i).okEq && (D.int j).okEq then R.ok (D.bl ((D.int i).eqv (.int j))) else .bad) = _
  have h : ∀ i : Int, (D.int i).okEq = true := fun i => rfl
  rw [h, h]
  have e : (D.int i).eqv (.int j) = decide (i = j) := rfl
  rw [e]
  rfl
theorem p_ne_i (i j : Int) : prim .ne [.int i, .int j] = .ok (.bl (!decide (i = j))) := by
  show (if (D.int i).okEq && (D.int j).okEq then R.ok (D.bl (!(D.int i).eqv (.int j))) else .bad) = _
  have h : ∀ i : Int, (D.int i).okEq = true := fun i => rfl
  rw [h, h]
  have e : (D.int i).eqv (.int j) = decide (i = j) := rfl
  rw [e]
  rfl
theorem st_n (i : Nat) (d : D) (en : En) : setTg (.n i) d en = if (ownAt en i).isSome then none else some (en.set i (.val d)) := rfl
theorem st_t (is : List Nat) (ds : List D) (en : En) : setTg (.t is) (.tup ds) en = setMany is ds en := rfl
theorem sm_nil (en : En) : setMany [] [] en = some en := rfl
theorem sm_cons (i : Nat) (is : List Nat) (d : D) (ds : List D) (en : En) : setMany (i :: is) (d :: ds) en = if (ownAt en i).isSome then none else setMany is ds (en.set i (.val d)) := rfl
theorem asg_some {tg : Tg} {d : D} {en en1 : En} (h : setTg tg d en = some en1) : asgR tg (d, en) = .nx en1 := by
  unfold asgR
  rw [h]
theorem fls_iff {α : Type} (a b : α) : (if false = true then a else b) = b := rfl
theorem tru_iff {α : Type} (a b : α) : (if true = true then a else b) = a := rfl
theorem n_isSome {α : Type} : (none : Option α).isSome = false := rfl
theorem s_isSome {α : Type} (a : α) : (some a).isSome = true := rfl
end
section
variable {T : Tab} {n K : Nat} {io : Option Nat} {fr : Bool} {en : En}
def setR1 (i : Nat) (d : D) (q : D × En) : O := match q.1, ownAt q.2 i with
      | .int k, some l => (match ixN l.length k with
        | some j => .nx (q.2.set i (.own (l.set j d)))
        | none => .bad)
      | _, _ => .bad
def setR (g : En → R (D × En)) (i : Nat) (p : D × En) : O := (g p.2).o (setR1 i p.1)
theorem x_setI (i : Nat) (ix e : E) : exS T K io fr (n + 1) (.setI i ix e) en = if (ownAt en i).isSome then (evE T n e en).o (setR (evE T n ix) i) else .bad := rfl
theorem setR_eq (g : En → R (D × En)) (i : Nat) (d : D) (en : En) : setR g i (d, en) = (g en).o (setR1 i d) := rfl
theorem setR1_ok {i : Nat} {d : D} {en : En} {k : Int} {l : List D} {j : Nat} (h : ownAt en i = some l) (h2 : ixN l.length k = some j) : setR1 i d (.int k, en) = .nx (en.set i (.own (l.set j d))) := by
  unfold setR1
  simp only [h, h2]
def appR (i : Nat) (p : D × En) : O := match ownAt p.2 i with
      | some l => if l.length < lineN then .nx (p.2.set i (.own (l ++ [p.1]))) else .bad
      | none => .bad
theorem x_app (i : Nat) (e : E) : exS T K io fr (n + 1) (.app i e) en = if (ownAt en i).isSome then (evE T n e en).o (appR i) else .bad := rfl
theorem appR_ok {i : Nat} {d : D} {en : En} {l : List D} (h : ownAt en i = some l) (h2 : l.length < lineN) : appR i (d, en) = .nx (en.set i (.own (l ++ [d]))) := by
  unfold appR
  simp only [h, h2, if_true]
def forR (tg : Tg) (k : Ik) (b : En → O) (p : List D × En) : O := match items k p.1 with
      | some ds => loopF tg b ds p.2
      | none => .bad
theorem x_for (tg : Tg) (k : Ik) (l : List E) (b : List S) : exS T K io fr (n + 1) (.for_ tg k l b) en = (evList (evE T n) l en).o (forR tg k (runL (exS T K io fr n) b)) := rfl
theorem forR_ok {tg : Tg} {k : Ik} {b : En → O} {ls : List D} {ds : List D} {en : En} (h : items k ls = some ds) : forR tg k b (ls, en) = loopF tg b ds en := by
  unfold forR
  rw [h]
theorem x_asgO (i : Nat) (e : E) (h : io ≠ some i) : exS T K io fr (n + 1) (.asgO i e) en = (evE T n e en).o fun p => match p.1 with
      | .lst l => .nx (p.2.set i (.own l))
      | _ => .bad := if_neg h
theorem x_frz (i : Nat) (h : io ≠ some i) : exS T K io fr (n + 1) (.frz i) en = match ownAt en i with
      | some l => .nx (en.set i (.val (.lst l)))
      | none => .bad := if_neg h
theorem x_retF (e : E) : exS T K io true (n + 1) (.retF e) en = (evE T n e en).o fun p => match p.1 with
      | .lst l => .rt (.lst l) p.2
      | _ => .bad := rfl
theorem x_pop (i : Nat) : exS T K io fr (n + 1) (.pop i) en = match ownAt en i with
      | some l => if l = [] then .bad else .nx (en.set i (.own l.dropLast))
      | none => .bad := rfl
/-! loops over items -/
theorem f_nil (tg : Tg) (b : En → O) (en : En) : loopF tg b [] en = .nx en := rfl
theorem f_cons {tg : Tg} {b : En → O} {d : D} {ds : List D} {en en1 : En} (h : setTg tg d en = some en1) : loopF tg b (d :: ds) en = (b en1).turn (loopF tg b ds) := by
  show (match setTg tg d en with
    | none => O.bad
    | some en1 => (b en1).turn (loopF tg b ds)) = _
  rw [h]
theorem loop_all {tg : Tg} {b : En → O} {P : En → Prop} {Q : D → Prop} (step : ∀ d en, Q d → P en → ∃ en1 en2, setTg tg d en = some en1 ∧ b en1 = .nx en2 ∧ P en2) : ∀ (ds : List D) (en : En), (∀ d ∈ ds, Q d) → P en → ∃ en', loopF tg b ds en = .nx en' ∧ P en'
  | [], en, _, p => ⟨en, rfl, p⟩
  | d :: ds, en, q, p => by
    obtain ⟨en1, en2, h1, h2, p2⟩ := step d en (q d List.mem_cons_self) p
    obtain ⟨en3, h3, p3⟩ := loop_all step ds en2 (fun x hx => q x (List.mem_cons_of_mem _ hx)) p2
    exact ⟨en3, by rw [f_cons h1, h2]; exact h3, p3⟩
theorem loop_ix {tg : Tg} {b : En → O} {P : Nat → En → Prop} : ∀ (ds : List D) (m : Nat) (en : En), (∀ i d en, ds[i]? = some d → P (m + i) en → ∃ en1 en2, setTg tg d en = some en1 ∧ b en1 = .nx en2 ∧ P (m + i + 1) en2) → P m en → ∃ en', loopF tg b ds en = .nx en' ∧ P (m + ds.length) en'
  | [], m, en, _, p => ⟨en, rfl, p⟩
  | d :: ds, m, en, step, p => by
    obtain ⟨en1, en2, h1, h2, p2⟩ := step 0 d en rfl p
    obtain ⟨en3, h3, p3⟩ := loop_ix ds (m + 1) en2 (fun i d en h q => by
      have e : m + 1 + i = m + (i + 1) := by omega
      rw [e] at q ⊢
      exact step (i + 1) d en h q) p2
    refine ⟨en3, by rw [f_cons h1, h2]; exact h3, ?_⟩
    have e : m + (d :: ds).length = m + 1 + ds.length := by rw [List.length_cons]; omega
    rw [e]
    exact p3
end
section
variable {T : Tab} {n K : Nat} {en : En}
def lcC (T : Tab) (n : Nat) : Option E → En → R (D × En)
  | some c => evE T n c
  | none => fun en => .ok (.bl true, en)
def lcR (T : Tab) (n : Nat) (elt : E) (tg : Tg) (k : Ik) (cond : Option E) (vs : List Nat) (q : List D × En) : R (D × En) := match items k q.1 with
      | none => .bad
      | some ds => if noOwn q.2 vs && decide (ds.length ≤ lineN) then
          (lcGo (lcC T n cond) (evE T n elt) tg vs ds (wipeE q.2 vs)).bind fun r => .ok (.lst r.1, restE q.2 vs r.2)
        else .bad
theorem e_lc (elt : E) (tg : Tg) (k : Ik) (l : List E) (cond : Option E) (vs : List Nat) : evE T (n + 1) (.lc elt tg k l cond vs) en = (evList (evE T n) l en).bind (lcR T n elt tg k cond vs) := by
  cases cond <;> rfl
theorem lcR_ok {elt : E} {tg : Tg} {k : Ik} {cond : Option E} {vs : List Nat} {ls ds xs : List D} {en' : En} (h : items k ls = some ds) (h2 : noOwn en vs = true) (h3 : ds.length ≤ lineN) (h4 : lcGo (lcC T n cond) (evE T n elt) tg vs ds (wipeE en vs) = .ok (xs, en')) :
    lcR T n elt tg k cond vs (ls, en) = .ok (.lst xs, restE en vs en') := by
  unfold lcR
  simp only [h, h2, decide_eq_true h3, Bool.and_true, if_true]
  rw [h4]
  rfl
theorem lc_one {elt : En → R (D × En)} {tg : Tg} {vs : List Nat} {d x : D} {ds : List D} {en en1 en2 : En} (h1 : setTg tg d en = some en1) (h2 : elt en1 = .ok (x, en2)) : lcGo (fun en => .ok (.bl true, en)) elt tg vs (d :: ds) en = (lcGo (fun en => .ok (.bl true, en)) elt tg vs ds (wipeE en2 vs)).bind fun r => .ok (x :: r.1, r.2) := by
  show (match setTg tg d en with
    | none => R.bad
    | some en1 => (R.ok (D.bl true, en1)).noex.bind fun p => match p.1 with
      | .bl true => (elt p.2).noex.bind fun q => (lcGo (fun en => .ok (.bl true, en)) elt tg vs ds (wipeE q.2 vs)).bind fun r => .ok (q.1 :: r.1, r.2)
      | .bl false => lcGo (fun en => .ok (.bl true, en)) elt tg vs ds (wipeE p.2 vs)
      | _ => .bad) = _
  rw [h1]
  show (elt en1).noex.bind _ = _
  rw [h2]
  rfl
/-- a comprehension that keeps the frame -/
theorem lc_map {elt : En → R (D × En)} {tg : Tg} {vs : List Nat} {g : D → D} {en : En} : ∀ (ds : List D), (∀ d ∈ ds, ∃ en1 en2, setTg tg d en = some en1 ∧ elt en1 = .ok (g d, en2) ∧ wipeE en2 vs = en) → lcGo (fun en => .ok (.bl true, en)) elt tg vs ds en = .ok (ds.map g, en)
  | [], _ => rfl
  | d :: ds, h => by
    obtain ⟨en1, en2, h1, h2, h3⟩ := h d List.mem_cons_self
    rw [lc_one h1 h2, h3, lc_map ds fun x hx => h x (List.mem_cons_of_mem _ hx)]
    rfl
inductive Rel2 (Q : D → D → Prop) : List D → List D → Prop
  | nil : Rel2 Q [] []
  | cons {a b : D} {l m : List D} : Q a b → Rel2 Q l m → Rel2 Q (a :: l) (b :: m)
/-- a comprehension that changes own lists -/
theorem lc_st {elt : En → R (D × En)} {tg : Tg} {vs : List Nat} {P : Nat → En → Prop} {Q : D → D → Prop} : ∀ (ds : List D) (m : Nat) (en : En), (∀ i d en, ds[i]? = some d → P (m + i) en → ∃ en1 x en2, setTg tg d en = some en1 ∧ elt en1 = .ok (x, en2) ∧ Q d x ∧ P (m + i + 1) (wipeE en2 vs)) → P m en →
    ∃ xs en', lcGo (fun en => .ok (.bl true, en)) elt tg vs ds en = .ok (xs, en') ∧ P (m + ds.length) en' ∧ Rel2 Q ds xs
  | [], m, en, _, p => ⟨[], en, rfl, p, .nil⟩
  | d :: ds, m, en, step, p => by
    obtain ⟨en1, x, en2, h1, h2, h3, p2⟩ := step 0 d en rfl p
    obtain ⟨xs, en3, h4, p3, f⟩ := lc_st ds (m + 1) _ (fun i d en h q => by
      have e : m + 1 + i = m + (i + 1) := by omega
      rw [e] at q ⊢
      exact step (i + 1) d en h q) p2
    refine ⟨x :: xs, en3, ?_, ?_, .cons h3 f⟩
    · rw [lc_one h1 h2, h4]
      rfl
    · have e : m + (d :: ds).length = m + 1 + ds.length := by rw [List.length_cons]; omega
      rw [e]
      exact p3
end
/-! slices -/
theorem take_min {l : List D} {i : Nat} : l.take (min i l.length) = l.take i := by
  by_cases h : i ≤ l.length
  · rw [Nat.min_eq_left h]
  · rw [Nat.min_eq_right (by omega), List.take_of_length_le (Nat.le_refl _), List.take_of_length_le (by omega)]
theorem drop_min {l : List D} {i : Nat} : l.drop (min i l.length) = l.drop i := by
  by_cases h : i ≤ l.length
  · rw [Nat.min_eq_left h]
  · rw [Nat.min_eq_right (by omega), List.drop_of_length_le (Nat.le_refl _), List.drop_of_length_le (by omega)]
theorem cut_to (l : List D) (i : Nat) : cut l none (some (i : Int)) = l.take i := by
  unfold cut
  rw [HT.sIx_nat, HT.sIx_none, List.drop_zero, Nat.sub_zero, take_min]
theorem cut_from (l : List D) (i : Nat) : cut l (some (i : Int)) none = l.drop i := by
  unfold cut
  rw [HT.sIx_nat, HT.sIx_none, drop_min, List.take_of_length_le]
  rw [List.length_drop]
  omega
theorem cut_mid (l : List D) (i j : Nat) : cut l (some (i : Int)) (some (j : Int)) = (l.drop i).take (j - i) := by
  unfold cut
  rw [HT.sIx_nat, HT.sIx_nat, drop_min]
  apply List.ext_getElem?
  intro m
  rw [List.getElem?_take, List.getElem?_take, List.getElem?_drop]
  by_cases h1 : m < j - i
  · rw [if_pos h1]
    by_cases h2 : m < min j l.length - min i l.length
    · rw [if_pos h2]
    · rw [if_neg h2, List.getElem?_eq_none (by omega)]
  · rw [if_neg h1]
    by_cases h2 : m < min j l.length - min i l.length
    · rw [if_pos h2, List.getElem?_eq_none (by omega)]
    · rw [if_neg h2]
end Vm
end
section
set_option Elab.async false
set_option linter.all false
set_option maxRecDepth 100000
namespace Vm
open PySem
/-! ### plain arithmetic -/
theorem big_ex (m : Nat) : ∃ n, ∀ x k : Nat, x < 2 ^ k → k ≤ m → x < n := ⟨2 ^ m, fun x k h hk => Nat.lt_of_lt_of_le h (Nat.pow_le_pow_right (by decide) hk)⟩
noncomputable def big : Nat := Classical.choose (big_ex 268435456)
theorem big_gt {x k : Nat} (h : x < 2 ^ k) (hk : k ≤ 268435456) : x < big := Classical.choose_spec (big_ex 268435456) x k h hk
/-- at most k bits -/
def Bd (k : Nat) (i : Int) : Prop := i.natAbs < 2 ^ k
theorem Bd.mono {k m : Nat} {i : Int} (h : Bd k i) (hk : k ≤ m) : Bd m i := Nat.lt_of_lt_of_le h (Nat.pow_le_pow_right (by decide) hk)
theorem Bd.log {k : Nat} {i : Int} (h : Bd k i) : i.natAbs.log2 ≤ k := by
  by_cases z : i.natAbs = 0
  · rw [z]; simp
  · exact Nat.le_of_lt ((Nat.log2_lt z).mpr h)
theorem Bd.mul {k m : Nat} {i j : Int} (h : Bd k i) (g : Bd m j) : Bd (k + m) (i * j) := by
  unfold Bd at *
  rw [Int.natAbs_mul, Nat.pow_add]
  exact Nat.mul_lt_mul'' h g
theorem Bd.add {k : Nat} {i j : Int} (h : Bd k i) (g : Bd k j) : Bd (k + 1) (i + j) := by
  unfold Bd at *
  have := Int.natAbs_add_le i j
  rw [Nat.pow_succ]
  omega
theorem Bd.neg {k : Nat} {i : Int} (h : Bd k i) : Bd k (-i) := by
  unfold Bd at *
  rw [Int.natAbs_neg]; exact h
theorem Bd.sub {k : Nat} {i j : Int} (h : Bd k i) (g : Bd k j) : Bd (k + 1) (i - j) := by
  rw [Int.sub_eq_add_neg]; exact h.add g.neg
theorem mulOk_bd {k m : Nat} {i j : Int} (h : Bd k i) (g : Bd m j) (hk : k + m ≤ 130000000 := by omega) : mulOk i j = true := by
  unfold mulOk
  have h1 := h.log
  have h2 := g.log
  exact decide_eq_true (by omega)
theorem divOk_bd {k : Nat} {j : Int} (h : Bd k j) (h0 : 0 < j) (hk : k < 9000 := by omega) : divOk j = true := by
  unfold divOk
  rw [decide_eq_true h0, decide_eq_true (Nat.lt_of_le_of_lt h.log hk)]
  rfl
theorem fmod_step {a b : Int} (hb : b ≠ 0) : (a.fmod b).natAbs < b.natAbs ∧ b.gcd (a.fmod b) = a.gcd b ∧ (0 ≤ a → 0 ≤ b → 0 ≤ a.fmod b) := by
  refine ⟨?_, ?_, fun h1 h2 => Int.fmod_nonneg h1 h2⟩
  · by_cases h : 0 < b
    · have h1 := Int.fmod_nonneg_of_pos a h
      have h2 := Int.fmod_lt_of_pos a h
      omega
    · have e : a.fmod b = -((-a).fmod (-b)) := by
        rw [Int.neg_fmod_neg, Int.neg_neg]
      have h3 : 0 < -b := by omega
      have h1 := Int.fmod_nonneg_of_pos (-a) h3
      have h2 := Int.fmod_lt_of_pos (-a) h3
      omega
  · rw [Int.fmod_def, Int.gcd_sub_mul_left_right, Int.gcd_comm]
/-- Euclid's loop, whatever the frame -/
theorem gcd_loop {test : En → R (D × En)} {body : En → O} {mk : Int → Int → En} (ht : ∀ a b, test (mk a b) = .ok (.bl (!decide (b = 0)), mk a b)) (hb : ∀ a b, b ≠ 0 → body (mk a b) = .nx (mk b (a.fmod b))) :
    ∀ (K : Nat) (a b : Int), b.natAbs < K → ∃ x : Int, loopW test body K (mk a b) = .nx (mk x 0) ∧ x.natAbs = a.gcd b ∧ (0 ≤ a → 0 ≤ b → 0 ≤ x)
  | 0, a, b, h => absurd h (Nat.not_lt_zero _)
  | K + 1, a, b, h => by
    by_cases z : b = 0
    · subst z
      refine ⟨a, ?_, by simp, fun h _ => h⟩
      show ((test (mk a 0)).o _) = _
      rw [ht]
      rfl
    · obtain ⟨s1, s2, s3⟩ := fmod_step (a := a) z
      obtain ⟨x, q1, q2, q3⟩ := gcd_loop ht hb K b (a.fmod b) (by omega)
      refine ⟨x, ?_, by rw [q2, s2], fun h1 h2 => q3 h2 (s3 h1 h2)⟩
      have e : test (mk a b) = .ok (.bl true, mk a b) := by rw [ht, decide_eq_false z]; rfl
      show ((test (mk a b)).o _) = _
      rw [e]
      show (body (mk a b)).turn (loopW test body K) = _
      rw [hb a b z]
      exact q1
/-! ### Euclid's def -/
def cdCode : List S := [
  .whl (.pr .ne [.v 1, .c (.int 0)]) [.par [0, 1] [.v 1, .pr .mod [.v 0, .v 1]]],
  .ret (.pr .abs [.v 0])]
def cdDef : Fd := ⟨"common_divisor", 2, 2, none, false, 40, cdCode, []⟩
theorem cd_run {T : Tab} {k : Nat} {a b : Int} (hb : Bd k b) (hk : k ≤ 268435456) : runFd T big cdDef [.val (.int a), .val (.int b)] = .ok (.int (a.gcd b), none) := by
  show endOf none false (runL (exS T big none false 40) cdCode [.val (.int a), .val (.int b)]) = _
  unfold cdCode
  obtain ⟨x, q1, q2, _⟩ := gcd_loop (test := evE T 39 (.pr .ne [.v 1, .c (.int 0)])) (body := runL (exS T big none false 39) [.par [0, 1] [.v 1, .pr .mod [.v 0, .v 1]]]) (mk := fun a b => [.val (.int a), .val (.int b)])
    (fun a b => by simp only [b_ok, b_bad, b_ex, o_ok, o_bad, o_ex, s_nx, s_rt, s_bk, s_ct, s_bad, t_nx, t_ct, t_bk, t_rt, t_bad, e_c, e_v, e_g, e_pr, e_and, e_or, e_ite, and_bl, or_bl, ite_bl, a_nil, a_c, a_g, a_v, a_pr, a_and, a_or, a_ite, a_ch, a_call, a_lc, cons_ok, a_bw, a_io, v_0, v_s, w_0, w_v, w_n, w_s, rd_nil, rd_d, rd_b, r_nil, r_d, r_b, r_o, om_some, ix_0, ix_1, ix_2, l_nil, l_cons, x_asg, x_ret, x_ite, iteO_bl, x_stop, p_add_i, p_sub_i, p_neg_i, p_mul_i, p_fdiv_i, p_mod_i, p_ix_t, p_ix_l, p_lt_i, p_le_i, p_gt_i, p_ge_i, p_abs_i, p_not_b, p_len_t, p_len_l, p_tup0, p_tup1, p_tup2, p_tup3, p_lst0, p_lst1, p_lst2, p_eq_i, p_ne_i, prR, asgR, st_n, st_t, sm_nil, sm_cons, List.set_cons_zero, List.set_cons_succ, fls_iff, tru_iff, n_isSome, s_isSome, if_true, if_false, Bool.false_eq_true, Bool.true_eq_false, x_setI, setR_eq, x_app, x_for, x_par, parR, el_nil, el_cons, elc_ok, x_whl, x_retF, x_pop, e_lc]) (fun a b h => by
      simp only [b_ok, b_bad, b_ex, o_ok, o_bad, o_ex, s_nx, s_rt, s_bk, s_ct, s_bad, t_nx, t_ct, t_bk, t_rt, t_bad, e_c, e_v, e_g, e_pr, e_and, e_or, e_ite, and_bl, or_bl, ite_bl, a_nil, a_c, a_g, a_v, a_pr, a_and, a_or, a_ite, a_ch, a_call, a_lc, cons_ok, a_bw, a_io, v_0, v_s, w_0, w_v, w_n, w_s, rd_nil, rd_d, rd_b, r_nil, r_d, r_b, r_o, om_some, ix_0, ix_1, ix_2, l_nil, l_cons, x_asg, x_ret, x_ite, iteO_bl, x_stop, p_add_i, p_sub_i, p_neg_i, p_mul_i, p_fdiv_i, p_mod_i, p_ix_t, p_ix_l, p_lt_i, p_le_i, p_gt_i, p_ge_i, p_abs_i, p_not_b, p_len_t, p_len_l, p_tup0, p_tup1, p_tup2, p_tup3, p_lst0, p_lst1, p_lst2, p_eq_i, p_ne_i, prR, asgR, st_n, st_t, sm_nil, sm_cons, List.set_cons_zero, List.set_cons_succ, fls_iff, tru_iff, n_isSome, s_isSome, if_true, if_false, Bool.false_eq_true, Bool.true_eq_false, x_setI, setR_eq, x_app, x_for, x_par, parR, el_nil, el_cons, elc_ok, x_whl, x_retF, x_pop, e_lc, x_par, el_nil, el_cons, elc_ok, parR]
      simp only [h, ne_eq, not_false_eq_true, if_true]
      simp only [b_ok, b_bad, b_ex, o_ok, o_bad, o_ex, s_nx, s_rt, s_bk, s_ct, s_bad, t_nx, t_ct, t_bk, t_rt, t_bad, e_c, e_v, e_g, e_pr, e_and, e_or, e_ite, and_bl, or_bl, ite_bl, a_nil, a_c, a_g, a_v, a_pr, a_and, a_or, a_ite, a_ch, a_call, a_lc, cons_ok, a_bw, a_io, v_0, v_s, w_0, w_v, w_n, w_s, rd_nil, rd_d, rd_b, r_nil, r_d, r_b, r_o, om_some, ix_0, ix_1, ix_2, l_nil, l_cons, x_asg, x_ret, x_ite, iteO_bl, x_stop, p_add_i, p_sub_i, p_neg_i, p_mul_i, p_fdiv_i, p_mod_i, p_ix_t, p_ix_l, p_lt_i, p_le_i, p_gt_i, p_ge_i, p_abs_i, p_not_b, p_len_t, p_len_l, p_tup0, p_tup1, p_tup2, p_tup3, p_lst0, p_lst1, p_lst2, p_eq_i, p_ne_i, prR, asgR, st_n, st_t, sm_nil, sm_cons, List.set_cons_zero, List.set_cons_succ, fls_iff, tru_iff, n_isSome, s_isSome, if_true, if_false, Bool.false_eq_true, Bool.true_eq_false, x_setI, setR_eq, x_app, x_for, x_par, parR, el_nil, el_cons, elc_ok, x_whl, x_retF, x_pop, e_lc, x_par, el_nil, el_cons, elc_ok, parR]) big a b (big_gt hb hk)
  simp only [b_ok, b_bad, b_ex, o_ok, o_bad, o_ex, s_nx, s_rt, s_bk, s_ct, s_bad, t_nx, t_ct, t_bk, t_rt, t_bad, e_c, e_v, e_g, e_pr, e_and, e_or, e_ite, and_bl, or_bl, ite_bl, a_nil, a_c, a_g, a_v, a_pr, a_and, a_or, a_ite, a_ch, a_call, a_lc, cons_ok, a_bw, a_io, v_0, v_s, w_0, w_v, w_n, w_s, rd_nil, rd_d, rd_b, r_nil, r_d, r_b, r_o, om_some, ix_0, ix_1, ix_2, l_nil, l_cons, x_asg, x_ret, x_ite, iteO_bl, x_stop, p_add_i, p_sub_i, p_neg_i, p_mul_i, p_fdiv_i, p_mod_i, p_ix_t, p_ix_l, p_lt_i, p_le_i, p_gt_i, p_ge_i, p_abs_i, p_not_b, p_len_t, p_len_l, p_tup0, p_tup1, p_tup2, p_tup3, p_lst0, p_lst1, p_lst2, p_eq_i, p_ne_i, prR, asgR, st_n, st_t, sm_nil, sm_cons, List.set_cons_zero, List.set_cons_succ, fls_iff, tru_iff, n_isSome, s_isSome, if_true, if_false, Bool.false_eq_true, Bool.true_eq_false, x_setI, setR_eq, x_app, x_for, x_par, parR, el_nil, el_cons, elc_ok, x_whl, x_retF, x_pop, e_lc, x_whl]
  rw [q1]
  simp only [b_ok, b_bad, b_ex, o_ok, o_bad, o_ex, s_nx, s_rt, s_bk, s_ct, s_bad, t_nx, t_ct, t_bk, t_rt, t_bad, e_c, e_v, e_g, e_pr, e_and, e_or, e_ite, and_bl, or_bl, ite_bl, a_nil, a_c, a_g, a_v, a_pr, a_and, a_or, a_ite, a_ch, a_call, a_lc, cons_ok, a_bw, a_io, v_0, v_s, w_0, w_v, w_n, w_s, rd_nil, rd_d, rd_b, r_nil, r_d, r_b, r_o, om_some, ix_0, ix_1, ix_2, l_nil, l_cons, x_asg, x_ret, x_ite, iteO_bl, x_stop, p_add_i, p_sub_i, p_neg_i, p_mul_i, p_fdiv_i, p_mod_i, p_ix_t, p_ix_l, p_lt_i, p_le_i, p_gt_i, p_ge_i, p_abs_i, p_not_b, p_len_t, p_len_l, p_tup0, p_tup1, p_tup2, p_tup3, p_lst0, p_lst1, p_lst2, p_eq_i, p_ne_i, prR, asgR, st_n, st_t, sm_nil, sm_cons, List.set_cons_zero, List.set_cons_succ, fls_iff, tru_iff, n_isSome, s_isSome, if_true, if_false, Bool.false_eq_true, Bool.true_eq_false, x_setI, setR_eq, x_app, x_for, x_par, parR, el_nil, el_cons, elc_ok, x_whl, x_retF, x_pop, e_lc, x_whl]
  show R.ok (D.int (if x < 0 then -x else x), none) = _
  have e : (if x < 0 then -x else x) = ((a.gcd b : Nat) : Int) := by
    split <;> omega
  rw [e]
/-! ### fractions -/
def fr (r : Rat) : D := .tup [.int r.num, .int r.den]
def frCode : List S := [
  .ite (.pr .eq [.v 1, .c (.int 0)]) [.stop] [],
  .asg (.n 2) (.call "common_divisor" [.v 0, .v 1] []),
  .asg (.n 3) (.ite (.pr .lt [.v 1, .c (.int 0)]) (.pr .neg [.c (.int 1)]) (.c (.int 1))),
  .ret (.pr .tup [.pr .fdiv [.pr .mul [.v 3, .v 0], .v 2], .pr .fdiv [.pr .mul [.v 3, .v 1], .v 2]])]
def frDef : Fd := ⟨"fraction", 2, 4, none, false, 40, frCode, [.int 1]⟩
theorem gcd_bd {k : Nat} {p q : Int} (h : Bd k q) (hq : q ≠ 0) : Bd k ((p.gcd q : Nat) : Int) ∧ (0 : Int) < ((p.gcd q : Nat) : Int) := by
  have h1 := Int.gcd_le_natAbs_right p hq
  have h2 : 0 < p.gcd q := Int.gcd_pos_of_ne_zero_right p hq
  unfold Bd at *
  constructor <;> omega
theorem fr_num {p q : Int} : (Rat.divInt p q).num = q.sign * p / (p.gcd q : Nat) := by rw [Rat.num_divInt, Int.gcd_comm]
theorem fr_den {p q : Int} (hq : q ≠ 0) : (((Rat.divInt p q).den : Nat) : Int) = q.sign * q / (p.gcd q : Nat) := by
  rw [Rat.den_divInt, if_neg hq, Int.gcd_comm, Int.natCast_ediv, Int.sign_mul_self]
theorem fr_run {T : Tab} {k : Nat} {p q : Int} (has : T.has "common_divisor" = true) (cd : ∀ {k : Nat} {a b : Int}, Bd k b → k ≤ 268435456 → T.call "common_divisor" [.val (.int a), .val (.int b)] = .ok (.int (a.gcd b), none)) (hq : q ≠ 0) (h1 : Bd k p) (h2 : Bd k q) (hk : k < 9000) :
    runFd T big frDef [.val (.int p), .val (.int q)] = .ok (fr (Rat.divInt p q), none) := by
  show endOf none false (runL (exS T big none false 40) frCode [.val (.int p), .val (.int q), .no, .no]) = _
  unfold frCode
  obtain ⟨g1, g2⟩ := gcd_bd (p := p) h2 hq
  have call : ∀ en, callR T "common_divisor" [] ([.d (.int p), .d (.int q)], en) = .ok (.int ((p.gcd q : Nat) : Int), en) := fun en => cr_ok rfl rfl rfl (cd (a := p) h2 (by omega)) rfl
  have s1 : mulOk (q.sign) p = true := mulOk_bd (k := 1) (m := k) (by unfold Bd; have := Int.natAbs_sign_of_ne_zero hq; omega) h1
  have s2 : mulOk (q.sign) q = true := mulOk_bd (k := 1) (m := k) (by unfold Bd; have := Int.natAbs_sign_of_ne_zero hq; omega) h2
  have dv : divOk ((p.gcd q : Nat) : Int) = true := divOk_bd g1 g2
  simp only [b_ok, b_bad, b_ex, o_ok, o_bad, o_ex, s_nx, s_rt, s_bk, s_ct, s_bad, t_nx, t_ct, t_bk, t_rt, t_bad, e_c, e_v, e_g, e_pr, e_and, e_or, e_ite, and_bl, or_bl, ite_bl, a_nil, a_c, a_g, a_v, a_pr, a_and, a_or, a_ite, a_ch, a_call, a_lc, cons_ok, a_bw, a_io, v_0, v_s, w_0, w_v, w_n, w_s, rd_nil, rd_d, rd_b, r_nil, r_d, r_b, r_o, om_some, ix_0, ix_1, ix_2, l_nil, l_cons, x_asg, x_ret, x_ite, iteO_bl, x_stop, p_add_i, p_sub_i, p_neg_i, p_mul_i, p_fdiv_i, p_mod_i, p_ix_t, p_ix_l, p_lt_i, p_le_i, p_gt_i, p_ge_i, p_abs_i, p_not_b, p_len_t, p_len_l, p_tup0, p_tup1, p_tup2, p_tup3, p_lst0, p_lst1, p_lst2, p_eq_i, p_ne_i, prR, asgR, st_n, st_t, sm_nil, sm_cons, List.set_cons_zero, List.set_cons_succ, fls_iff, tru_iff, n_isSome, s_isSome, if_true, if_false, Bool.false_eq_true, Bool.true_eq_false, x_setI, setR_eq, x_app, x_for, x_par, parR, el_nil, el_cons, elc_ok, x_whl, x_retF, x_pop, e_lc, e_call _ _ _ has, call, decide_eq_false hq]
  by_cases hs : q < 0
  · have e : q.sign = -1 := Int.sign_eq_neg_one_of_neg hs
    rw [e] at s1 s2
    simp only [b_ok, b_bad, b_ex, o_ok, o_bad, o_ex, s_nx, s_rt, s_bk, s_ct, s_bad, t_nx, t_ct, t_bk, t_rt, t_bad, e_c, e_v, e_g, e_pr, e_and, e_or, e_ite, and_bl, or_bl, ite_bl, a_nil, a_c, a_g, a_v, a_pr, a_and, a_or, a_ite, a_ch, a_call, a_lc, cons_ok, a_bw, a_io, v_0, v_s, w_0, w_v, w_n, w_s, rd_nil, rd_d, rd_b, r_nil, r_d, r_b, r_o, om_some, ix_0, ix_1, ix_2, l_nil, l_cons, x_asg, x_ret, x_ite, iteO_bl, x_stop, p_add_i, p_sub_i, p_neg_i, p_mul_i, p_fdiv_i, p_mod_i, p_ix_t, p_ix_l, p_lt_i, p_le_i, p_gt_i, p_ge_i, p_abs_i, p_not_b, p_len_t, p_len_l, p_tup0, p_tup1, p_tup2, p_tup3, p_lst0, p_lst1, p_lst2, p_eq_i, p_ne_i, prR, asgR, st_n, st_t, sm_nil, sm_cons, List.set_cons_zero, List.set_cons_succ, fls_iff, tru_iff, n_isSome, s_isSome, if_true, if_false, Bool.false_eq_true, Bool.true_eq_false, x_setI, setR_eq, x_app, x_for, x_par, parR, el_nil, el_cons, elc_ok, x_whl, x_retF, x_pop, e_lc, decide_eq_true hs, s1, s2, dv]
    unfold fr
    rw [fr_num, fr_den hq, e]
    rfl
  · have e : q.sign = 1 := Int.sign_eq_one_of_pos (by omega)
    rw [e] at s1 s2
    simp only [b_ok, b_bad, b_ex, o_ok, o_bad, o_ex, s_nx, s_rt, s_bk, s_ct, s_bad, t_nx, t_ct, t_bk, t_rt, t_bad, e_c, e_v, e_g, e_pr, e_and, e_or, e_ite, and_bl, or_bl, ite_bl, a_nil, a_c, a_g, a_v, a_pr, a_and, a_or, a_ite, a_ch, a_call, a_lc, cons_ok, a_bw, a_io, v_0, v_s, w_0, w_v, w_n, w_s, rd_nil, rd_d, rd_b, r_nil, r_d, r_b, r_o, om_some, ix_0, ix_1, ix_2, l_nil, l_cons, x_asg, x_ret, x_ite, iteO_bl, x_stop, p_add_i, p_sub_i, p_neg_i, p_mul_i, p_fdiv_i, p_mod_i, p_ix_t, p_ix_l, p_lt_i, p_le_i, p_gt_i, p_ge_i, p_abs_i, p_not_b, p_len_t, p_len_l, p_tup0, p_tup1, p_tup2, p_tup3, p_lst0, p_lst1, p_lst2, p_eq_i, p_ne_i, prR, asgR, st_n, st_t, sm_nil, sm_cons, List.set_cons_zero, List.set_cons_succ, fls_iff, tru_iff, n_isSome, s_isSome, if_true, if_false, Bool.false_eq_true, Bool.true_eq_false, x_setI, setR_eq, x_app, x_for, x_par, parR, el_nil, el_cons, elc_ok, x_whl, x_retF, x_pop, e_lc, decide_eq_false hs, s1, s2, dv]
    unfold fr
    rw [fr_num, fr_den hq, e]
    rfl
end Vm
end
section
set_option Elab.async false
set_option linter.all false
set_option maxRecDepth 100000
namespace Vm
open PySem
/-! ### what may be shown -/
mutual
def D.nodes : D → Nat
  | .tup l => 1 + D.nodesAll l
  | .lst l => 1 + D.nodesAll l
  | _ => 1
def D.nodesAll : List D → Nat
  | [] => 0
  | d :: l => d.nodes + D.nodesAll l
end
mutual
/-- ints, booleans, None, lists and tuples of them; ints of less than 1920 bits; at most k deep -/
def D.num : Nat → D → Bool
  | _, .non => true
  | _, .bl _ => true
  | _, .int i => decide (i.natAbs.log2 < 1920)
  | 0, _ => false
  | k + 1, .tup l => D.numAll k l
  | k + 1, .lst l => D.numAll k l
  | _, _ => false
def D.numAll : Nat → List D → Bool
  | _, [] => true
  | k, d :: l => d.num k && D.numAll k l
end
theorem int_shown {i : Int} (h : i.natAbs.log2 < 1920) : (PyData.int i).shown.length ≤ 1921 := PyProof.Rows.int_text_len_1921 h
mutual
theorem num_ok : ∀ (k : Nat) (d : D), d.num k = true → d.plain = true ∧ d.py.depth ≤ k ∧ d.py.showable = true ∧ d.py.shown.length + 5 ≤ 1926 * d.nodes
  | k, .non, _ => ⟨rfl, Nat.zero_le _, rfl, by have e : (D.non.py.shown).length = 4 := rfl; have e2 : D.non.nodes = 1 := rfl; omega⟩
  | k, .bl b, _ => ⟨rfl, Nat.zero_le _, rfl, by have e : ((D.bl b).py.shown).length ≤ 5 := by cases b <;> decide
                                                have e2 : (D.bl b).nodes = 1 := rfl
                                                omega⟩
  | k, .int i, h => by
    have h : decide (i.natAbs.log2 < 1920) = true := by cases k <;> exact h
    have l := int_shown (of_decide_eq_true h)
    refine ⟨rfl, Nat.zero_le _, h, ?_⟩
    have e2 : (D.int i).nodes = 1 := rfl
    have e3 : (D.int i).py.shown.length ≤ 1921 := l
    omega
  | 0, .tup _, h => by cases h
  | 0, .lst _, h => by cases h
  | k + 1, .tup l, h => by
    obtain ⟨q1, q2, q3, q4⟩ := numAll_ok k l h
    have t := tupleText_len_le (PyData.shownAll (D.pyAll l))
    have t2 : (PyData.shownAll (D.pyAll l)).length = (D.pyAll l).length := PyData.shownAll_length _
    refine ⟨q1, Nat.succ_le_succ q2, q3, ?_⟩
    have e : (D.tup l).py.shown = tupleText (PyData.shownAll (D.pyAll l)) := rfl
    have e2 : (D.tup l).nodes = 1 + D.nodesAll l := rfl
    rw [e, e2]
    omega
  | k + 1, .lst l, h => by
    obtain ⟨q1, q2, q3, q4⟩ := numAll_ok k l h
    have t := listText_len_le (PyData.shownAll (D.pyAll l))
    have t2 : (PyData.shownAll (D.pyAll l)).length = (D.pyAll l).length := PyData.shownAll_length _
    refine ⟨q1, Nat.succ_le_succ q2, q3, ?_⟩
    have e : (D.lst l).py.shown = listText (PyData.shownAll (D.pyAll l)) := rfl
    have e2 : (D.lst l).nodes = 1 + D.nodesAll l := rfl
    rw [e, e2]
    omega
  | k, .str _, h => by cases k <;> cases h
  | k, .dic _, h => by cases k <;> cases h
  | k, .exc _ _, h => by cases k <;> cases h
  | k, .scr _, h => by cases k <;> cases h
theorem numAll_ok : ∀ (k : Nat) (l : List D), D.numAll k l = true → D.plainAll l = true ∧ PyData.depthAll (D.pyAll l) ≤ k ∧ PyData.showableAll (D.pyAll l) = true ∧ ((PyData.shownAll (D.pyAll l)).map (·.length)).sum + 5 * (D.pyAll l).length ≤ 1926 * D.nodesAll l
  | k, [], _ => ⟨rfl, Nat.zero_le _, rfl, Nat.zero_le _⟩
  | k, d :: l, h => by
    obtain ⟨h1, h2⟩ := (Bool.and_eq_true _ _).mp (show (d.num k && D.numAll k l) = true from h)
    obtain ⟨a1, a2, a3, a4⟩ := num_ok k d h1
    obtain ⟨b1, b2, b3, b4⟩ := numAll_ok k l h2
    refine ⟨(Bool.and_eq_true _ _).mpr ⟨a1, b1⟩, Nat.max_le.mpr ⟨a2, b2⟩, (Bool.and_eq_true _ _).mpr ⟨a3, b3⟩, ?_⟩
    have e1 : ((PyData.shownAll (D.pyAll (d :: l))).map (·.length)).sum = d.py.shown.length + ((PyData.shownAll (D.pyAll l)).map (·.length)).sum := rfl
    have e2 : (D.pyAll (d :: l)).length = (D.pyAll l).length + 1 := rfl
    have e3 : D.nodesAll (d :: l) = d.nodes + D.nodesAll l := rfl
    rw [e1, e2, e3]
    omega
end
theorem show_ok {k : Nat} {d : D} (h : d.num k = true) (hk : k ≤ 64) (hn : d.nodes ≤ 8000) : d.okShow = true := by
  obtain ⟨a1, a2, a3, a4⟩ := num_ok k d h
  unfold D.okShow
  rw [a1, a3, decide_eq_true (Nat.le_trans a2 hk), decide_eq_true (show d.py.shown.length ≤ sizeLine by rw [sizeLine_eq]; omega)]
  rfl
theorem eq_ok_num {k : Nat} {d : D} (h : d.num k = true) (hk : k ≤ 64) : d.okEq = true := by
  obtain ⟨a1, a2, _⟩ := num_ok k d h
  unfold D.okEq
  rw [a1, decide_eq_true (Nat.le_trans a2 hk)]
  rfl
def alCode : List S := [.ret (.pr .eq [.pr .repr [.v 0], .pr .repr [.v 1]])]
def alDef : Fd := ⟨"_law_alike", 2, 2, none, false, 40, alCode, []⟩
theorem al_run {T : Tab} {K : Nat} {d : D} (h : d.okShow = true) : runFd T K alDef [.val d, .val d] = .ok (.bl true, none) := by
  show endOf none false (runL (exS T K none false 40) alCode [.val d, .val d]) = _
  unfold alCode
  have e : prim .repr [d] = .ok (.str d.py.shown) := if_pos h
  have e2 : prim .eq [.str d.py.shown, .str d.py.shown] = .ok (.bl true) := by
    show R.ok (D.bl (decide (d.py.shown = d.py.shown))) = _
    rw [decide_eq_true rfl]
  simp only [b_ok, b_bad, b_ex, o_ok, o_bad, o_ex, s_nx, s_rt, s_bk, s_ct, s_bad, t_nx, t_ct, t_bk, t_rt, t_bad, e_c, e_v, e_g, e_pr, e_and, e_or, e_ite, and_bl, or_bl, ite_bl, a_nil, a_c, a_g, a_v, a_pr, a_and, a_or, a_ite, a_ch, a_call, a_lc, cons_ok, a_bw, a_io, v_0, v_s, w_0, w_v, w_n, w_s, rd_nil, rd_d, rd_b, r_nil, r_d, r_b, r_o, om_some, ix_0, ix_1, ix_2, l_nil, l_cons, x_asg, x_ret, x_ite, iteO_bl, x_stop, p_add_i, p_sub_i, p_neg_i, p_mul_i, p_fdiv_i, p_mod_i, p_ix_t, p_ix_l, p_lt_i, p_le_i, p_gt_i, p_ge_i, p_abs_i, p_not_b, p_len_t, p_len_l, p_tup0, p_tup1, p_tup2, p_tup3, p_lst0, p_lst1, p_lst2, p_eq_i, p_ne_i, prR, asgR, st_n, st_t, sm_nil, sm_cons, List.set_cons_zero, List.set_cons_succ, fls_iff, tru_iff, n_isSome, s_isSome, if_true, if_false, Bool.false_eq_true, Bool.true_eq_false, x_setI, setR_eq, x_app, x_for, x_par, parR, el_nil, el_cons, elc_ok, x_whl, x_retF, x_pop, e_lc, e, e2]
  rfl
end Vm
end
section
set_option Elab.async false
set_option linter.all false
set_option maxRecDepth 100000
namespace Vm
open PySem
/-! ### heights of fractions -/
def Ht (k : Nat) (r : Rat) : Prop := Bd k r.num ∧ Bd k (r.den : Int)
theorem Ht.mono {k m : Nat} {r : Rat} (h : Ht k r) (hk : k ≤ m) : Ht m r := ⟨h.1.mono hk, h.2.mono hk⟩
theorem Ht.divInt {k : Nat} {p q : Int} (hq : q ≠ 0) (h1 : Bd k p) (h2 : Bd k q) : Ht k (Rat.divInt p q) := by
  have g : 0 < p.gcd q := Int.gcd_pos_of_ne_zero_right p hq
  constructor
  · rw [fr_num]
    unfold Bd at *
    refine Nat.lt_of_le_of_lt (Int.natAbs_ediv_le_natAbs _ _) ?_
    rw [Int.natAbs_mul, Int.natAbs_sign_of_ne_zero hq, Nat.one_mul]
    exact h1
  · rw [Rat.den_divInt, if_neg hq]
    unfold Bd at *
    rw [Int.natAbs_natCast]
    exact Nat.lt_of_le_of_lt (Nat.div_le_self _ _) h2
theorem den_ne (r : Rat) : (r.den : Int) ≠ 0 := by have := r.den_nz; omega
theorem add_eq (a b : Rat) : a + b = Rat.divInt (a.num * b.den + b.num * a.den) ((a.den : Int) * b.den) := by
  rw [Rat.add_def', ← Rat.divInt_ofNat]
  simp
theorem mul_eq (a b : Rat) : a * b = Rat.divInt (a.num * b.num) ((a.den : Int) * b.den) := by
  rw [Rat.mul_def', ← Rat.divInt_ofNat]
  simp
theorem div_eq (a b : Rat) : a / b = Rat.divInt (a.num * b.den) ((a.den : Int) * b.num) := by
  rw [Rat.div_def]
  have e : b⁻¹ = Rat.divInt b.den b.num := Rat.inv_def b
  have e2 : a = Rat.divInt a.num a.den := (Rat.num_divInt_den a).symm
  rw [e]
  conv => lhs; rw [e2]
  rw [Rat.divInt_mul_divInt]
theorem Ht.add {k m : Nat} {a b : Rat} (h : Ht k a) (g : Ht m b) : Ht (k + m + 1) (a + b) := by
  rw [add_eq]
  refine .divInt (Int.mul_ne_zero (den_ne a) (den_ne b)) ?_ ((h.2.mul g.2).mono (by omega))
  have h1 := h.1.mul g.2
  have h2 := g.1.mul h.2
  rw [Nat.add_comm m k] at h2
  exact h1.add h2
theorem Ht.mul {k m : Nat} {a b : Rat} (h : Ht k a) (g : Ht m b) : Ht (k + m) (a * b) := by
  rw [mul_eq]
  exact .divInt (Int.mul_ne_zero (den_ne a) (den_ne b)) (h.1.mul g.1) (h.2.mul g.2)
theorem Ht.div {k m : Nat} {a b : Rat} (hb : b ≠ 0) (h : Ht k a) (g : Ht m b) : Ht (k + m) (a / b) := by
  rw [div_eq]
  exact .divInt (Int.mul_ne_zero (den_ne a) (fun e => hb (Rat.num_eq_zero.mp e))) (h.1.mul g.2) (h.2.mul g.1)
theorem Ht.neg {k : Nat} {a : Rat} (h : Ht k a) : Ht k (-a) := ⟨h.1.neg, h.2⟩
theorem fr_num_ok {k n : Nat} {r : Rat} (h : Ht k r) (hk : k ≤ 1919) : (fr r).num (n + 1) = true := by
  show ((D.int r.num).num n && ((D.int r.den).num n && D.numAll n [])) = true
  have e1 : (D.int r.num).num n = true := by
    have q : decide (r.num.natAbs.log2 < 1920) = true := decide_eq_true (Nat.lt_of_le_of_lt h.1.log (by omega))
    cases n <;> exact q
  have e2 : (D.int r.den).num n = true := by
    have q : decide ((r.den : Int).natAbs.log2 < 1920) = true := decide_eq_true (Nat.lt_of_le_of_lt h.2.log (by omega))
    cases n <;> exact q
  rw [e1, e2]
  rfl
theorem fr_nodes (r : Rat) : (fr r).nodes = 3 := rfl
theorem fr_inj {a b : Rat} (h : fr a = fr b) : a = b := by
  unfold fr at h
  injection h with h
  injection h with h1 h2
  injection h2 with h2 _
  injection h1 with h1
  injection h2 with h2
  exact Rat.ext h1 (by omega)
/-! ### the defs that work on fractions: y is what makes a fraction of two ints -/
def Mk (T : Tab) (y : Str) : Prop := T.has y = true ∧ ∀ {k : Nat} {p q : Int}, q ≠ 0 → Bd k p → Bd k q → k < 9000 → T.call y [.val (.int p), .val (.int q)] = .ok (fr (Rat.divInt p q), none)
def addCode (y : Str) : List S := [
  .ret (.call y [.pr .add [.pr .mul [.pr .ix [.v 0, .c (.int 0)], .pr .ix [.v 1, .c (.int 1)]], .pr .mul [.pr .ix [.v 1, .c (.int 0)], .pr .ix [.v 0, .c (.int 1)]]], .pr .mul [.pr .ix [.v 0, .c (.int 1)], .pr .ix [.v 1, .c (.int 1)]]] [])]
def mulCode (y : Str) : List S := [
  .ret (.call y [.pr .mul [.pr .ix [.v 0, .c (.int 0)], .pr .ix [.v 1, .c (.int 0)]], .pr .mul [.pr .ix [.v 0, .c (.int 1)], .pr .ix [.v 1, .c (.int 1)]]] [])]
def divCode (y : Str) : List S := [
  .ret (.call y [.pr .mul [.pr .ix [.v 0, .c (.int 0)], .pr .ix [.v 1, .c (.int 1)]], .pr .mul [.pr .ix [.v 0, .c (.int 1)], .pr .ix [.v 1, .c (.int 0)]]] [])]
theorem add_run {T : Tab} {x y : Str} {k : Nat} {a b : Rat} (m : Mk T y) (h : Ht k a) (g : Ht k b) (hk : k < 4000) : runFd T big ⟨x, 2, 2, none, false, 40, addCode y, []⟩ [.val (fr a), .val (fr b)] = .ok (fr (a + b), none) := by
  show endOf none false (runL (exS T big none false 40) (addCode y) [.val (.tup [.int a.num, .int a.den]), .val (.tup [.int b.num, .int b.den])]) = _
  unfold addCode
  have h1 := h.1.mul g.2
  have h2 := g.1.mul h.2
  have h3 := h.2.mul g.2
  have q1 : mulOk a.num b.den = true := mulOk_bd h.1 g.2
  have q2 : mulOk b.num a.den = true := mulOk_bd g.1 h.2
  have q3 : mulOk a.den b.den = true := mulOk_bd h.2 g.2
  have call : ∀ en, callR T y [] ([.d (.int (a.num * b.den + b.num * a.den)), .d (.int ((a.den : Int) * b.den))], en) = .ok (fr (a + b), en) := fun en => by
    rw [add_eq]
    exact cr_ok rfl rfl rfl (m.2 (k := k + k + 1) (Int.mul_ne_zero (den_ne a) (den_ne b)) (h1.add h2) (h3.mono (by omega)) (by omega)) rfl
  simp only [b_ok, b_bad, b_ex, o_ok, o_bad, o_ex, s_nx, s_rt, s_bk, s_ct, s_bad, t_nx, t_ct, t_bk, t_rt, t_bad, e_c, e_v, e_g, e_pr, e_and, e_or, e_ite, and_bl, or_bl, ite_bl, a_nil, a_c, a_g, a_v, a_pr, a_and, a_or, a_ite, a_ch, a_call, a_lc, cons_ok, a_bw, a_io, v_0, v_s, w_0, w_v, w_n, w_s, rd_nil, rd_d, rd_b, r_nil, r_d, r_b, r_o, om_some, ix_0, ix_1, ix_2, l_nil, l_cons, x_asg, x_ret, x_ite, iteO_bl, x_stop, p_add_i, p_sub_i, p_neg_i, p_mul_i, p_fdiv_i, p_mod_i, p_ix_t, p_ix_l, p_lt_i, p_le_i, p_gt_i, p_ge_i, p_abs_i, p_not_b, p_len_t, p_len_l, p_tup0, p_tup1, p_tup2, p_tup3, p_lst0, p_lst1, p_lst2, p_eq_i, p_ne_i, prR, asgR, st_n, st_t, sm_nil, sm_cons, List.set_cons_zero, List.set_cons_succ, fls_iff, tru_iff, n_isSome, s_isSome, if_true, if_false, Bool.false_eq_true, Bool.true_eq_false, x_setI, setR_eq, x_app, x_for, x_par, parR, el_nil, el_cons, elc_ok, x_whl, x_retF, x_pop, e_lc, e_call _ _ _ m.1, q1, q2, q3, call]
  rfl
theorem mul_run {T : Tab} {x y : Str} {k : Nat} {a b : Rat} (m : Mk T y) (h : Ht k a) (g : Ht k b) (hk : k < 4000) : runFd T big ⟨x, 2, 2, none, false, 40, mulCode y, []⟩ [.val (fr a), .val (fr b)] = .ok (fr (a * b), none) := by
  show endOf none false (runL (exS T big none false 40) (mulCode y) [.val (.tup [.int a.num, .int a.den]), .val (.tup [.int b.num, .int b.den])]) = _
  unfold mulCode
  have q1 : mulOk a.num b.num = true := mulOk_bd h.1 g.1
  have q3 : mulOk a.den b.den = true := mulOk_bd h.2 g.2
  have call : ∀ en, callR T y [] ([.d (.int (a.num * b.num)), .d (.int ((a.den : Int) * b.den))], en) = .ok (fr (a * b), en) := fun en => by
    rw [mul_eq]
    exact cr_ok rfl rfl rfl (m.2 (k := k + k) (Int.mul_ne_zero (den_ne a) (den_ne b)) (h.1.mul g.1) (h.2.mul g.2) (by omega)) rfl
  simp only [b_ok, b_bad, b_ex, o_ok, o_bad, o_ex, s_nx, s_rt, s_bk, s_ct, s_bad, t_nx, t_ct, t_bk, t_rt, t_bad, e_c, e_v, e_g, e_pr, e_and, e_or, e_ite, and_bl, or_bl, ite_bl, a_nil, a_c, a_g, a_v, a_pr, a_and, a_or, a_ite, a_ch, a_call, a_lc, cons_ok, a_bw, a_io, v_0, v_s, w_0, w_v, w_n, w_s, rd_nil, rd_d, rd_b, r_nil, r_d, r_b, r_o, om_some, ix_0, ix_1, ix_2, l_nil, l_cons, x_asg, x_ret, x_ite, iteO_bl, x_stop, p_add_i, p_sub_i, p_neg_i, p_mul_i, p_fdiv_i, p_mod_i, p_ix_t, p_ix_l, p_lt_i, p_le_i, p_gt_i, p_ge_i, p_abs_i, p_not_b, p_len_t, p_len_l, p_tup0, p_tup1, p_tup2, p_tup3, p_lst0, p_lst1, p_lst2, p_eq_i, p_ne_i, prR, asgR, st_n, st_t, sm_nil, sm_cons, List.set_cons_zero, List.set_cons_succ, fls_iff, tru_iff, n_isSome, s_isSome, if_true, if_false, Bool.false_eq_true, Bool.true_eq_false, x_setI, setR_eq, x_app, x_for, x_par, parR, el_nil, el_cons, elc_ok, x_whl, x_retF, x_pop, e_lc, e_call _ _ _ m.1, q1, q3, call]
  rfl
theorem div_run {T : Tab} {x y : Str} {k : Nat} {a b : Rat} (m : Mk T y) (hb : b ≠ 0) (h : Ht k a) (g : Ht k b) (hk : k < 4000) : runFd T big ⟨x, 2, 2, none, false, 40, divCode y, []⟩ [.val (fr a), .val (fr b)] = .ok (fr (a / b), none) := by
  show endOf none false (runL (exS T big none false 40) (divCode y) [.val (.tup [.int a.num, .int a.den]), .val (.tup [.int b.num, .int b.den])]) = _
  unfold divCode
  have q1 : mulOk a.num b.den = true := mulOk_bd h.1 g.2
  have q3 : mulOk a.den b.num = true := mulOk_bd h.2 g.1
  have call : ∀ en, callR T y [] ([.d (.int (a.num * b.den)), .d (.int ((a.den : Int) * b.num))], en) = .ok (fr (a / b), en) := fun en => by
    rw [div_eq]
    exact cr_ok rfl rfl rfl (m.2 (k := k + k) (Int.mul_ne_zero (den_ne a) (fun e => hb (Rat.num_eq_zero.mp e))) (h.1.mul g.2) (h.2.mul g.1) (by omega)) rfl
  simp only [b_ok, b_bad, b_ex, o_ok, o_bad, o_ex, s_nx, s_rt, s_bk, s_ct, s_bad, t_nx, t_ct, t_bk, t_rt, t_bad, e_c, e_v, e_g, e_pr, e_and, e_or, e_ite, and_bl, or_bl, ite_bl, a_nil, a_c, a_g, a_v, a_pr, a_and, a_or, a_ite, a_ch, a_call, a_lc, cons_ok, a_bw, a_io, v_0, v_s, w_0, w_v, w_n, w_s, rd_nil, rd_d, rd_b, r_nil, r_d, r_b, r_o, om_some, ix_0, ix_1, ix_2, l_nil, l_cons, x_asg, x_ret, x_ite, iteO_bl, x_stop, p_add_i, p_sub_i, p_neg_i, p_mul_i, p_fdiv_i, p_mod_i, p_ix_t, p_ix_l, p_lt_i, p_le_i, p_gt_i, p_ge_i, p_abs_i, p_not_b, p_len_t, p_len_l, p_tup0, p_tup1, p_tup2, p_tup3, p_lst0, p_lst1, p_lst2, p_eq_i, p_ne_i, prR, asgR, st_n, st_t, sm_nil, sm_cons, List.set_cons_zero, List.set_cons_succ, fls_iff, tru_iff, n_isSome, s_isSome, if_true, if_false, Bool.false_eq_true, Bool.true_eq_false, x_setI, setR_eq, x_app, x_for, x_par, parR, el_nil, el_cons, elc_ok, x_whl, x_retF, x_pop, e_lc, e_call _ _ _ m.1, q1, q3, call]
  rfl
/-! the law's own reduction -/
def loCode : List S := [
  .par [2, 3] [.pr .abs [.v 0], .pr .abs [.v 1]],
  .whl (.pr .ne [.v 3, .c (.int 0)]) [.par [2, 3] [.v 3, .pr .mod [.v 2, .v 3]]],
  .asg (.n 4) (.ite (.pr .gt [.v 1, .c (.int 0)]) (.c (.int 1)) (.pr .sub [.c (.int 0), .c (.int 1)])),
  .ret (.pr .tup [.pr .fdiv [.pr .mul [.v 4, .v 0], .v 2], .pr .fdiv [.pr .abs [.v 1], .v 2]])]
def loDef : Fd := ⟨"_law_lowest", 2, 5, none, false, 40, loCode, []⟩
theorem abs_if (i : Int) : (if i < 0 then -i else i) = (i.natAbs : Int) := by split <;> omega
theorem lo_run {T : Tab} {k : Nat} {p q : Int} (hq : q ≠ 0) (h1 : Bd k p) (h2 : Bd k q) (hk : k < 9000) : runFd T big loDef [.val (.int p), .val (.int q)] = .ok (fr (Rat.divInt p q), none) := by
  show endOf none false (runL (exS T big none false 40) loCode [.val (.int p), .val (.int q), .no, .no, .no]) = _
  unfold loCode
  obtain ⟨g1, g2⟩ := gcd_bd (p := p) h2 hq
  obtain ⟨x, r1, r2, r3⟩ := gcd_loop (test := evE T 39 (.pr .ne [.v 3, .c (.int 0)])) (body := runL (exS T big none false 39) [.par [2, 3] [.v 3, .pr .mod [.v 2, .v 3]]]) (mk := fun a b => [.val (.int p), .val (.int q), .val (.int a), .val (.int b), .no])
    (fun a b => by simp only [b_ok, b_bad, b_ex, o_ok, o_bad, o_ex, s_nx, s_rt, s_bk, s_ct, s_bad, t_nx, t_ct, t_bk, t_rt, t_bad, e_c, e_v, e_g, e_pr, e_and, e_or, e_ite, and_bl, or_bl, ite_bl, a_nil, a_c, a_g, a_v, a_pr, a_and, a_or, a_ite, a_ch, a_call, a_lc, cons_ok, a_bw, a_io, v_0, v_s, w_0, w_v, w_n, w_s, rd_nil, rd_d, rd_b, r_nil, r_d, r_b, r_o, om_some, ix_0, ix_1, ix_2, l_nil, l_cons, x_asg, x_ret, x_ite, iteO_bl, x_stop, p_add_i, p_sub_i, p_neg_i, p_mul_i, p_fdiv_i, p_mod_i, p_ix_t, p_ix_l, p_lt_i, p_le_i, p_gt_i, p_ge_i, p_abs_i, p_not_b, p_len_t, p_len_l, p_tup0, p_tup1, p_tup2, p_tup3, p_lst0, p_lst1, p_lst2, p_eq_i, p_ne_i, prR, asgR, st_n, st_t, sm_nil, sm_cons, List.set_cons_zero, List.set_cons_succ, fls_iff, tru_iff, n_isSome, s_isSome, if_true, if_false, Bool.false_eq_true, Bool.true_eq_false, x_setI, setR_eq, x_app, x_for, x_par, parR, el_nil, el_cons, elc_ok, x_whl, x_retF, x_pop, e_lc]) (fun a b h => by
      simp only [b_ok, b_bad, b_ex, o_ok, o_bad, o_ex, s_nx, s_rt, s_bk, s_ct, s_bad, t_nx, t_ct, t_bk, t_rt, t_bad, e_c, e_v, e_g, e_pr, e_and, e_or, e_ite, and_bl, or_bl, ite_bl, a_nil, a_c, a_g, a_v, a_pr, a_and, a_or, a_ite, a_ch, a_call, a_lc, cons_ok, a_bw, a_io, v_0, v_s, w_0, w_v, w_n, w_s, rd_nil, rd_d, rd_b, r_nil, r_d, r_b, r_o, om_some, ix_0, ix_1, ix_2, l_nil, l_cons, x_asg, x_ret, x_ite, iteO_bl, x_stop, p_add_i, p_sub_i, p_neg_i, p_mul_i, p_fdiv_i, p_mod_i, p_ix_t, p_ix_l, p_lt_i, p_le_i, p_gt_i, p_ge_i, p_abs_i, p_not_b, p_len_t, p_len_l, p_tup0, p_tup1, p_tup2, p_tup3, p_lst0, p_lst1, p_lst2, p_eq_i, p_ne_i, prR, asgR, st_n, st_t, sm_nil, sm_cons, List.set_cons_zero, List.set_cons_succ, fls_iff, tru_iff, n_isSome, s_isSome, if_true, if_false, Bool.false_eq_true, Bool.true_eq_false, x_setI, setR_eq, x_app, x_for, x_par, parR, el_nil, el_cons, elc_ok, x_whl, x_retF, x_pop, e_lc, x_par, el_nil, el_cons, elc_ok, parR]
      simp only [h, ne_eq, not_false_eq_true, if_true]
      simp only [b_ok, b_bad, b_ex, o_ok, o_bad, o_ex, s_nx, s_rt, s_bk, s_ct, s_bad, t_nx, t_ct, t_bk, t_rt, t_bad, e_c, e_v, e_g, e_pr, e_and, e_or, e_ite, and_bl, or_bl, ite_bl, a_nil, a_c, a_g, a_v, a_pr, a_and, a_or, a_ite, a_ch, a_call, a_lc, cons_ok, a_bw, a_io, v_0, v_s, w_0, w_v, w_n, w_s, rd_nil, rd_d, rd_b, r_nil, r_d, r_b, r_o, om_some, ix_0, ix_1, ix_2, l_nil, l_cons, x_asg, x_ret, x_ite, iteO_bl, x_stop, p_add_i, p_sub_i, p_neg_i, p_mul_i, p_fdiv_i, p_mod_i, p_ix_t, p_ix_l, p_lt_i, p_le_i, p_gt_i, p_ge_i, p_abs_i, p_not_b, p_len_t, p_len_l, p_tup0, p_tup1, p_tup2, p_tup3, p_lst0, p_lst1, p_lst2, p_eq_i, p_ne_i, prR, asgR, st_n, st_t, sm_nil, sm_cons, List.set_cons_zero, List.set_cons_succ, fls_iff, tru_iff, n_isSome, s_isSome, if_true, if_false, Bool.false_eq_true, Bool.true_eq_false, x_setI, setR_eq, x_app, x_for, x_par, parR, el_nil, el_cons, elc_ok, x_whl, x_retF, x_pop, e_lc, x_par, el_nil, el_cons, elc_ok, parR]) big (p.natAbs : Int) (q.natAbs : Int) (big_gt (k := k) (by rw [Int.natAbs_natCast]; exact h2) (by omega))
  have ex : x = ((p.gcd q : Nat) : Int) := by
    have z := r3 (by omega) (by omega)
    have e : Int.gcd (p.natAbs : Int) (q.natAbs : Int) = p.gcd q := by simp [Int.gcd]
    omega
  subst ex
  have s1 : mulOk (q.sign) p = true := mulOk_bd (k := 1) (m := k) (by unfold Bd; have := Int.natAbs_sign_of_ne_zero hq; omega) h1
  have dv : divOk ((p.gcd q : Nat) : Int) = true := divOk_bd g1 g2
  simp only [b_ok, b_bad, b_ex, o_ok, o_bad, o_ex, s_nx, s_rt, s_bk, s_ct, s_bad, t_nx, t_ct, t_bk, t_rt, t_bad, e_c, e_v, e_g, e_pr, e_and, e_or, e_ite, and_bl, or_bl, ite_bl, a_nil, a_c, a_g, a_v, a_pr, a_and, a_or, a_ite, a_ch, a_call, a_lc, cons_ok, a_bw, a_io, v_0, v_s, w_0, w_v, w_n, w_s, rd_nil, rd_d, rd_b, r_nil, r_d, r_b, r_o, om_some, ix_0, ix_1, ix_2, l_nil, l_cons, x_asg, x_ret, x_ite, iteO_bl, x_stop, p_add_i, p_sub_i, p_neg_i, p_mul_i, p_fdiv_i, p_mod_i, p_ix_t, p_ix_l, p_lt_i, p_le_i, p_gt_i, p_ge_i, p_abs_i, p_not_b, p_len_t, p_len_l, p_tup0, p_tup1, p_tup2, p_tup3, p_lst0, p_lst1, p_lst2, p_eq_i, p_ne_i, prR, asgR, st_n, st_t, sm_nil, sm_cons, List.set_cons_zero, List.set_cons_succ, fls_iff, tru_iff, n_isSome, s_isSome, if_true, if_false, Bool.false_eq_true, Bool.true_eq_false, x_setI, setR_eq, x_app, x_for, x_par, parR, el_nil, el_cons, elc_ok, x_whl, x_retF, x_pop, e_lc, x_par, el_nil, el_cons, elc_ok, parR, x_whl, abs_if]
  rw [r1]
  have dn : ((q.natAbs : Nat) : Int) / (p.gcd q : Nat) = (((Rat.divInt p q).den : Nat) : Int) := by
    rw [Rat.den_divInt, if_neg hq, Int.gcd_comm, Int.natCast_ediv]
  by_cases hs : 0 < q
  · have e : q.sign = 1 := Int.sign_eq_one_of_pos hs
    rw [e] at s1
    simp only [b_ok, b_bad, b_ex, o_ok, o_bad, o_ex, s_nx, s_rt, s_bk, s_ct, s_bad, t_nx, t_ct, t_bk, t_rt, t_bad, e_c, e_v, e_g, e_pr, e_and, e_or, e_ite, and_bl, or_bl, ite_bl, a_nil, a_c, a_g, a_v, a_pr, a_and, a_or, a_ite, a_ch, a_call, a_lc, cons_ok, a_bw, a_io, v_0, v_s, w_0, w_v, w_n, w_s, rd_nil, rd_d, rd_b, r_nil, r_d, r_b, r_o, om_some, ix_0, ix_1, ix_2, l_nil, l_cons, x_asg, x_ret, x_ite, iteO_bl, x_stop, p_add_i, p_sub_i, p_neg_i, p_mul_i, p_fdiv_i, p_mod_i, p_ix_t, p_ix_l, p_lt_i, p_le_i, p_gt_i, p_ge_i, p_abs_i, p_not_b, p_len_t, p_len_l, p_tup0, p_tup1, p_tup2, p_tup3, p_lst0, p_lst1, p_lst2, p_eq_i, p_ne_i, prR, asgR, st_n, st_t, sm_nil, sm_cons, List.set_cons_zero, List.set_cons_succ, fls_iff, tru_iff, n_isSome, s_isSome, if_true, if_false, Bool.false_eq_true, Bool.true_eq_false, x_setI, setR_eq, x_app, x_for, x_par, parR, el_nil, el_cons, elc_ok, x_whl, x_retF, x_pop, e_lc, decide_eq_true hs, s1, dv, abs_if]
    unfold fr
    rw [fr_num, e, ← dn]
    rfl
  · have e : q.sign = -1 := Int.sign_eq_neg_one_of_neg (by omega)
    rw [e] at s1
    have z : (0 : Int) - 1 = -1 := rfl
    simp only [b_ok, b_bad, b_ex, o_ok, o_bad, o_ex, s_nx, s_rt, s_bk, s_ct, s_bad, t_nx, t_ct, t_bk, t_rt, t_bad, e_c, e_v, e_g, e_pr, e_and, e_or, e_ite, and_bl, or_bl, ite_bl, a_nil, a_c, a_g, a_v, a_pr, a_and, a_or, a_ite, a_ch, a_call, a_lc, cons_ok, a_bw, a_io, v_0, v_s, w_0, w_v, w_n, w_s, rd_nil, rd_d, rd_b, r_nil, r_d, r_b, r_o, om_some, ix_0, ix_1, ix_2, l_nil, l_cons, x_asg, x_ret, x_ite, iteO_bl, x_stop, p_add_i, p_sub_i, p_neg_i, p_mul_i, p_fdiv_i, p_mod_i, p_ix_t, p_ix_l, p_lt_i, p_le_i, p_gt_i, p_ge_i, p_abs_i, p_not_b, p_len_t, p_len_l, p_tup0, p_tup1, p_tup2, p_tup3, p_lst0, p_lst1, p_lst2, p_eq_i, p_ne_i, prR, asgR, st_n, st_t, sm_nil, sm_cons, List.set_cons_zero, List.set_cons_succ, fls_iff, tru_iff, n_isSome, s_isSome, if_true, if_false, Bool.false_eq_true, Bool.true_eq_false, x_setI, setR_eq, x_app, x_for, x_par, parR, el_nil, el_cons, elc_ok, x_whl, x_retF, x_pop, e_lc, decide_eq_false hs, s1, dv, abs_if, z]
    unfold fr
    rw [fr_num, e, ← dn]
    rfl
end Vm
end
section
set_option Elab.async false
set_option linter.all false
set_option maxRecDepth 100000
namespace Vm
open PySem PySem.Spec L2
/-! ### the laws' own chooser -/
theorem Bd.of_lt {k : Nat} {i m : Int} (h0 : 0 ≤ i) (h : i < m) (hm : m ≤ 2 ^ k) : Bd k i := by
  unfold Bd
  have : ((2 ^ k : Nat) : Int) = (2 : Int) ^ k := by simp
  omega
theorem fmod_pos {a m : Int} (hm : 0 < m) : 0 ≤ a.fmod m ∧ a.fmod m < m := ⟨Int.fmod_nonneg_of_pos a hm, Int.fmod_lt_of_pos a hm⟩
theorem rng1_items {n : Int} (h : -(2 ^ 62) ≤ n ∧ n < 2 ^ 62) : items .rng1 [.int n] = some (rngD 0 n.toNat) := if_pos h
def blCode (M A B a b c : Int) : List S := [
  .asg (.n 3) (.c (.int M)),
  .asg (.n 2) (.pr .mod [.pr .add [.pr .add [.pr .mul [.v 0, .c (.int A)], .pr .mul [.c (.int B), .v 1]], .c (.int 17)], .v 3]),
  .for_ (.n 4) .rng1 [.c (.int 4)] [.asg (.n 2) (.pr .mod [.pr .add [.pr .add [.pr .add [.pr .mul [.v 2, .v 2], .pr .mul [.c (.int a), .v 2]], .pr .mul [.c (.int b), .v 4]], .v 1], .v 3])],
  .ret (.pr .add [.pr .mul [.v 2, .v 3], .pr .mod [.pr .add [.pr .mul [.v 2, .c (.int c)], .v 1], .v 3]])]
theorem bl_run {T : Tab} {nm : Str} {M A B a b c x i : Int} (hM : 0 < M) (hM2 : M ≤ 2 ^ 64) (hA : Bd 64 A) (hB : Bd 64 B) (ha : Bd 64 a) (hb : Bd 64 b) (hc : Bd 64 c) (hx : Bd 200 x) (hi : Bd 200 i) (hi0 : 0 ≤ i) :
    ∃ r : Int, runFd T big ⟨nm, 2, 5, none, false, 40, blCode M A B a b c, []⟩ [.val (.int x), .val (.int i)] = .ok (.int r, none) ∧ 0 ≤ r := by
  have hM0 : M ≠ 0 := by omega
  have small : ∀ f : Int, 0 ≤ f ∧ f < M → Bd 64 f := fun f h => .of_lt h.1 h.2 hM2
  have loop := loop_all (tg := .n 4) (b := runL (exS T big none false 39) [.asg (.n 2) (.pr .mod [.pr .add [.pr .add [.pr .add [.pr .mul [.v 2, .v 2], .pr .mul [.c (.int a), .v 2]], .pr .mul [.c (.int b), .v 4]], .v 1], .v 3])])
    (P := fun en => ∃ f s, en = [.val (.int x), .val (.int i), .val (.int f), .val (.int M), s] ∧ (0 ≤ f ∧ f < M) ∧ ownAt [s] 0 = none) (Q := fun d => ∃ j, d = .int j ∧ Bd 64 j) (fun d en hd hp => by
      obtain ⟨j, rfl, hj⟩ := hd
      obtain ⟨f, s, rfl, hf, hs⟩ := hp
      have hf' := small f hf
      have m1 : mulOk f f = true := mulOk_bd hf' hf'
      have m2 : mulOk a f = true := mulOk_bd ha hf'
      have m3 : mulOk b j = true := mulOk_bd hb hj
      refine ⟨[.val (.int x), .val (.int i), .val (.int f), .val (.int M), .val (.int j)], _, ?_, by simp only [b_ok, b_bad, b_ex, o_ok, o_bad, o_ex, s_nx, s_rt, s_bk, s_ct, s_bad, t_nx, t_ct, t_bk, t_rt, t_bad, e_c, e_v, e_g, e_pr, e_and, e_or, e_ite, and_bl, or_bl, ite_bl, a_nil, a_c, a_g, a_v, a_pr, a_and, a_or, a_ite, a_ch, a_call, a_lc, cons_ok, a_bw, a_io, v_0, v_s, w_0, w_v, w_n, w_s, rd_nil, rd_d, rd_b, r_nil, r_d, r_b, r_o, om_some, ix_0, ix_1, ix_2, l_nil, l_cons, x_asg, x_ret, x_ite, iteO_bl, x_stop, p_add_i, p_sub_i, p_neg_i, p_mul_i, p_fdiv_i, p_mod_i, p_ix_t, p_ix_l, p_lt_i, p_le_i, p_gt_i, p_ge_i, p_abs_i, p_not_b, p_len_t, p_len_l, p_tup0, p_tup1, p_tup2, p_tup3, p_lst0, p_lst1, p_lst2, p_eq_i, p_ne_i, prR, asgR, st_n, st_t, sm_nil, sm_cons, List.set_cons_zero, List.set_cons_succ, fls_iff, tru_iff, n_isSome, s_isSome, if_true, if_false, Bool.false_eq_true, Bool.true_eq_false, x_setI, setR_eq, x_app, x_for, x_par, parR, el_nil, el_cons, elc_ok, x_whl, x_retF, x_pop, e_lc, m1, m2, m3, ne_eq, hM0, not_false_eq_true]; rfl, _, .val (.int j), rfl, fmod_pos hM, rfl⟩
      have e : ownAt [.val (.int x), .val (.int i), .val (.int f), .val (.int M), s] 4 = none := by rw [w_s, w_s, w_s, w_s]; exact hs
      rw [st_n, e]
      rfl)
  have r0 := fmod_pos (a := x * A + B * i + 17) hM
  have four : ∀ d ∈ rngD 0 4, ∃ j, d = .int j ∧ Bd 64 j := fun d hd => by
    unfold rngD at hd
    obtain ⟨k, hk, rfl⟩ := List.mem_map.mp hd
    have := List.mem_range.mp hk
    refine ⟨0 + (k : Int), rfl, ?_⟩
    unfold Bd
    have : (2 : Nat) ^ 64 > 4 := by decide
    omega
  obtain ⟨en', l1, f, s, rfl, hf, hs⟩ := loop (rngD 0 4) [.val (.int x), .val (.int i), .val (.int ((x * A + B * i + 17).fmod M)), .val (.int M), .no] four ⟨_, .no, rfl, r0, rfl⟩
  have hf' := small f hf
  have m1 : mulOk x A = true := mulOk_bd hx hA
  have m2 : mulOk B i = true := mulOk_bd hB hi
  have m3 : mulOk f M = true := mulOk_bd hf' (k := 64) (m := 65) (by unfold Bd; have : ((2 ^ 65 : Nat) : Int) = 2 ^ 65 := by simp
                                                                     have : (2 : Int) ^ 65 = 2 * 2 ^ 64 := by rfl
                                                                     have : ((2 : Nat) ^ 65) = 2 * 2 ^ 64 := by rfl
                                                                     omega)
  have m4 : mulOk f c = true := mulOk_bd hf' hc
  have r1 := fmod_pos (a := f * c + i) hM
  refine ⟨f * M + (f * c + i).fmod M, ?_, Int.add_nonneg (Int.mul_nonneg hf.1 (by omega)) r1.1⟩
  show endOf none false (runL (exS T big none false 40) (blCode M A B a b c) [.val (.int x), .val (.int i), .no, .no, .no]) = _
  unfold blCode
  have it : items .rng1 [.int 4] = some (rngD 0 4) := by
    exact rng1_items (by decide)
  simp only [b_ok, b_bad, b_ex, o_ok, o_bad, o_ex, s_nx, s_rt, s_bk, s_ct, s_bad, t_nx, t_ct, t_bk, t_rt, t_bad, e_c, e_v, e_g, e_pr, e_and, e_or, e_ite, and_bl, or_bl, ite_bl, a_nil, a_c, a_g, a_v, a_pr, a_and, a_or, a_ite, a_ch, a_call, a_lc, cons_ok, a_bw, a_io, v_0, v_s, w_0, w_v, w_n, w_s, rd_nil, rd_d, rd_b, r_nil, r_d, r_b, r_o, om_some, ix_0, ix_1, ix_2, l_nil, l_cons, x_asg, x_ret, x_ite, iteO_bl, x_stop, p_add_i, p_sub_i, p_neg_i, p_mul_i, p_fdiv_i, p_mod_i, p_ix_t, p_ix_l, p_lt_i, p_le_i, p_gt_i, p_ge_i, p_abs_i, p_not_b, p_len_t, p_len_l, p_tup0, p_tup1, p_tup2, p_tup3, p_lst0, p_lst1, p_lst2, p_eq_i, p_ne_i, prR, asgR, st_n, st_t, sm_nil, sm_cons, List.set_cons_zero, List.set_cons_succ, fls_iff, tru_iff, n_isSome, s_isSome, if_true, if_false, Bool.false_eq_true, Bool.true_eq_false, x_setI, setR_eq, x_app, x_for, x_par, parR, el_nil, el_cons, elc_ok, x_whl, x_retF, x_pop, e_lc, m1, m2, ne_eq, hM0, not_false_eq_true, forR_ok it]
  rw [l1]
  simp only [b_ok, b_bad, b_ex, o_ok, o_bad, o_ex, s_nx, s_rt, s_bk, s_ct, s_bad, t_nx, t_ct, t_bk, t_rt, t_bad, e_c, e_v, e_g, e_pr, e_and, e_or, e_ite, and_bl, or_bl, ite_bl, a_nil, a_c, a_g, a_v, a_pr, a_and, a_or, a_ite, a_ch, a_call, a_lc, cons_ok, a_bw, a_io, v_0, v_s, w_0, w_v, w_n, w_s, rd_nil, rd_d, rd_b, r_nil, r_d, r_b, r_o, om_some, ix_0, ix_1, ix_2, l_nil, l_cons, x_asg, x_ret, x_ite, iteO_bl, x_stop, p_add_i, p_sub_i, p_neg_i, p_mul_i, p_fdiv_i, p_mod_i, p_ix_t, p_ix_l, p_lt_i, p_le_i, p_gt_i, p_ge_i, p_abs_i, p_not_b, p_len_t, p_len_l, p_tup0, p_tup1, p_tup2, p_tup3, p_lst0, p_lst1, p_lst2, p_eq_i, p_ne_i, prR, asgR, st_n, st_t, sm_nil, sm_cons, List.set_cons_zero, List.set_cons_succ, fls_iff, tru_iff, n_isSome, s_isSome, if_true, if_false, Bool.false_eq_true, Bool.true_eq_false, x_setI, setR_eq, x_app, x_for, x_par, parR, el_nil, el_cons, elc_ok, x_whl, x_retF, x_pop, e_lc, m3, m4, ne_eq, hM0, not_false_eq_true]
  rfl
/-- what is left of the script: numbers, the next one's place, the number under way -/
def Sup (m : Nat) (l : List D) : Prop := ∃ (ns : List Int) (ix cur : Int), l = [.lst (ns.map D.int), .int ix, .int cur] ∧ (∀ n ∈ ns, 0 ≤ n) ∧ ns.length ≤ 18 ∧ 0 ≤ ix ∧ ix ≤ m ∧ 0 ≤ cur
theorem Sup.mono {m k : Nat} {l : List D} (h : Sup m l) (hk : m ≤ k) : Sup k l := by
  obtain ⟨ns, ix, cur, e, h1, h2, h3, h4, h5⟩ := h
  exact ⟨ns, ix, cur, e, h1, h2, h3, by omega, h5⟩
/-- y picks a number from x and the place -/
def Bl (T : Tab) (y : Str) : Prop := T.has y = true ∧ ∀ {x i : Int}, Bd 200 x → Bd 200 i → 0 ≤ i → ∃ r : Int, T.call y [.val (.int x), .val (.int i)] = .ok (.int r, none) ∧ 0 ≤ r
def beNext (y : Str) : List S := [.par [5, 3] [.pr .ix [.bw 0, .c (.int 0)], .pr .ix [.bw 0, .c (.int 1)]], .asg (.n 4) (.ite (.pr .ne [.v 5, .pr .lst []]) (.pr .ix [.v 5, .pr .mod [.v 3, .pr .len [.v 5]]]) (.c (.int 0))), .ite (.or_ (.pr .lt [.v 4, .pr .pow [.c (.int 10), .c (.int 18)]]) (.pr .ge [.v 3, .pr .len [.v 5]])) [.asg (.n 4) (.call y [.pr .add [.pr .mod [.v 4, .pr .pow [.c (.int 10), .c (.int 15)]], .pr .fdiv [.v 3, .pr .add [.pr .len [.v 5], .c (.int 1)]]], .v 3] [])] [], .setI 0 (.c (.int 1)) (.pr .add [.v 3, .c (.int 1)]), .setI 0 (.c (.int 2)) (.v 4)]
def beCode (y : Str) : List S := [
  .ite (.pr .lt [.pr .ix [.bw 0, .c (.int 2)], .v 1]) (beNext y) [],
  .asg (.n 2) (.pr .mod [.pr .ix [.bw 0, .c (.int 2)], .v 1]),
  .setI 0 (.c (.int 2)) (.pr .fdiv [.pr .ix [.bw 0, .c (.int 2)], .v 1]),
  .ret (.v 2)]
def beDef (y : Str) : Fd := ⟨"_law_below", 2, 6, some 0, false, 40, beCode y, []⟩
theorem ints_plain : ∀ ns : List Int, D.plainAll (ns.map D.int) = true
  | [] => rfl
  | n :: ns => ints_plain ns
theorem ints_depth : ∀ ns : List Int, PyData.depthAll (D.pyAll (ns.map D.int)) = 0
  | [] => rfl
  | n :: ns => by
    show max 0 (PyData.depthAll (D.pyAll (ns.map D.int))) = 0
    rw [ints_depth ns]
    rfl
theorem ints_okEq (ns : List Int) : (D.lst (ns.map D.int)).okEq = true := by
  unfold D.okEq
  have h1 : (D.lst (ns.map D.int)).plain = true := ints_plain ns
  have h2 : (D.lst (ns.map D.int)).py.depth = 1 := by
    show PyData.depthAll (D.pyAll (ns.map D.int)) + 1 = 1
    rw [ints_depth]
  rw [h1, h2]
  rfl
theorem eqv_nil (l : List D) : (D.lst l).eqv (.lst []) = l.isEmpty := by cases l <;> rfl
theorem ne_nil {l : List D} (h : (D.lst l).okEq = true) : prim .ne [.lst l, .lst []] = .ok (.bl (!l.isEmpty)) := by
  show (if (D.lst l).okEq && (D.lst []).okEq then R.ok (D.bl (!(D.lst l).eqv (.lst []))) else .bad) = _
  rw [h, eqv_nil]
  rfl
theorem ix_nn {l : List D} {i : Int} {d : D} (h0 : 0 ≤ i) (h : l[i.toNat]? = some d) : ixL l i = .ok d := by
  have lt := (List.getElem?_eq_some_iff.mp h).1
  refine ix_at (j := i.toNat) ?_ h
  unfold ixN
  rw [if_pos h0, if_pos (by omega)]
theorem pow_i {i j : Int} (h : powOk i j = true) : prim .pow [.int i, .int j] = .ok (.int (i ^ j.toNat)) := if_pos h
/-- the part that takes the next number -/
theorem be_next {T : Tab} {y : Str} {m : Nat} {ns : List Int} {ix cur size : Int} (bl : Bl T y) (hm : m < 2 ^ 60) (h1 : ∀ n ∈ ns, 0 ≤ n) (h2 : ns.length ≤ 18) (h3 : 0 ≤ ix) (h4 : ix ≤ m) :
    ∃ (r : Int), runL (exS T big (some 0) false 39) (beNext y)
      [.own [.lst (ns.map D.int), .int ix, .int cur], .val (.int size), .no, .no, .no, .no] = .nx [.own [.lst (ns.map D.int), .int (ix + 1), .int r], .val (.int size), .no, .val (.int ix), .val (.int r), .val (.lst (ns.map D.int))] ∧ 0 ≤ r := by
  unfold beNext
  -- the number that stands there
  have at_ : ∃ n : Int, 0 ≤ n ∧ evE T 38 (.ite (.pr .ne [.v 5, .pr .lst []]) (.pr .ix [.v 5, .pr .mod [.v 3, .pr .len [.v 5]]]) (.c (.int 0))) [.own [.lst (ns.map D.int), .int ix, .int cur], .val (.int size), .no, .val (.int ix), .no, .val (.lst (ns.map D.int))] =
      .ok (.int n, [.own [.lst (ns.map D.int), .int ix, .int cur], .val (.int size), .no, .val (.int ix), .no, .val (.lst (ns.map D.int))]) := by
    have ne := ne_nil (ints_okEq ns)
    cases hns : ns with
    | nil =>
      subst hns
      have ne' : prim .ne [.lst (([] : List Int).map D.int), .lst []] = .ok (.bl false) := ne
      refine ⟨0, Int.le_refl _, ?_⟩
      simp only [b_ok, b_bad, b_ex, o_ok, o_bad, o_ex, s_nx, s_rt, s_bk, s_ct, s_bad, t_nx, t_ct, t_bk, t_rt, t_bad, e_c, e_v, e_g, e_pr, e_and, e_or, e_ite, and_bl, or_bl, ite_bl, a_nil, a_c, a_g, a_v, a_pr, a_and, a_or, a_ite, a_ch, a_call, a_lc, cons_ok, a_bw, a_io, v_0, v_s, w_0, w_v, w_n, w_s, rd_nil, rd_d, rd_b, r_nil, r_d, r_b, r_o, om_some, ix_0, ix_1, ix_2, l_nil, l_cons, x_asg, x_ret, x_ite, iteO_bl, x_stop, p_add_i, p_sub_i, p_neg_i, p_mul_i, p_fdiv_i, p_mod_i, p_ix_t, p_ix_l, p_lt_i, p_le_i, p_gt_i, p_ge_i, p_abs_i, p_not_b, p_len_t, p_len_l, p_tup0, p_tup1, p_tup2, p_tup3, p_lst0, p_lst1, p_lst2, p_eq_i, p_ne_i, prR, asgR, st_n, st_t, sm_nil, sm_cons, List.set_cons_zero, List.set_cons_succ, fls_iff, tru_iff, n_isSome, s_isSome, if_true, if_false, Bool.false_eq_true, Bool.true_eq_false, x_setI, setR_eq, x_app, x_for, x_par, parR, el_nil, el_cons, elc_ok, x_whl, x_retF, x_pop, e_lc, ne']
    | cons n0 nr =>
      rw [← hns]
      have hl : 0 < ns.length := by rw [hns]; exact Nat.succ_pos _
      have hl2 : (0 : Int) < ((ns.map D.int).length : Int) := by rw [List.length_map]; omega
      have f := fmod_pos (a := ix) hl2
      have lt : (ix.fmod ((ns.map D.int).length : Int)).toNat < ns.length := by
        have := f.2
        rw [List.length_map] at this ⊢
        have f1 := f.1
        rw [List.length_map] at f1
        omega
      have e : ixL (ns.map D.int) (ix.fmod ((ns.map D.int).length : Int)) = .ok (.int ns[(ix.fmod ((ns.map D.int).length : Int)).toNat]) := ix_nn f.1 (by rw [List.getElem?_map, List.getElem?_eq_getElem lt]; rfl)
      have ne' : prim .ne [.lst (ns.map D.int), .lst []] = .ok (.bl true) := by rw [ne, hns]; rfl
      have nz : ((ns.map D.int).length : Int) ≠ 0 := by omega
      refine ⟨ns[(ix.fmod ((ns.map D.int).length : Int)).toNat], h1 _ (List.getElem_mem lt), ?_⟩
      simp only [b_ok, b_bad, b_ex, o_ok, o_bad, o_ex, s_nx, s_rt, s_bk, s_ct, s_bad, t_nx, t_ct, t_bk, t_rt, t_bad, e_c, e_v, e_g, e_pr, e_and, e_or, e_ite, and_bl, or_bl, ite_bl, a_nil, a_c, a_g, a_v, a_pr, a_and, a_or, a_ite, a_ch, a_call, a_lc, cons_ok, a_bw, a_io, v_0, v_s, w_0, w_v, w_n, w_s, rd_nil, rd_d, rd_b, r_nil, r_d, r_b, r_o, om_some, ix_0, ix_1, ix_2, l_nil, l_cons, x_asg, x_ret, x_ite, iteO_bl, x_stop, p_add_i, p_sub_i, p_neg_i, p_mul_i, p_fdiv_i, p_mod_i, p_ix_t, p_ix_l, p_lt_i, p_le_i, p_gt_i, p_ge_i, p_abs_i, p_not_b, p_len_t, p_len_l, p_tup0, p_tup1, p_tup2, p_tup3, p_lst0, p_lst1, p_lst2, p_eq_i, p_ne_i, prR, asgR, st_n, st_t, sm_nil, sm_cons, List.set_cons_zero, List.set_cons_succ, fls_iff, tru_iff, n_isSome, s_isSome, if_true, if_false, Bool.false_eq_true, Bool.true_eq_false, x_setI, setR_eq, x_app, x_for, x_par, parR, el_nil, el_cons, elc_ok, x_whl, x_retF, x_pop, e_lc, ne', e, ne_eq, nz, not_false_eq_true]
  obtain ⟨n, hn, at_⟩ := at_
  have p18 : prim .pow [.int 10, .int 18] = .ok (.int (10 ^ (18 : Int).toNat)) := pow_i rfl
  have p15 : prim .pow [.int 10, .int 15] = .ok (.int (10 ^ (15 : Int).toNat)) := pow_i rfl
  have t15 : (10 : Int) ^ (15 : Int).toNat = 1000000000000000 := by rfl
  have lp : (0 : Int) < (((ns.map D.int).length : Nat) : Int) + 1 := by omega
  have m15 := fmod_pos (a := n) (m := 10 ^ (15 : Int).toNat) (by rw [t15]; decide)
  have dv : divOk ((((ns.map D.int).length : Nat) : Int) + 1) = true := divOk_bd (k := 10) (by unfold Bd; rw [List.length_map]; have : (2 : Nat) ^ 10 = 1024 := rfl; omega) lp
  have q0 : 0 ≤ ix / ((((ns.map D.int).length : Nat) : Int) + 1) := Int.ediv_nonneg h3 (by omega)
  have q1 : ix / ((((ns.map D.int).length : Nat) : Int) + 1) ≤ ix := Int.ediv_le_self _ h3
  have hix : Bd 200 ix := .of_lt h3 (m := 2 ^ 60) (by have : ((2 ^ 60 : Nat) : Int) = 2 ^ 60 := by simp
                                                      omega) (by decide)
  have hx : Bd 200 (n.fmod (10 ^ (15 : Int).toNat) + ix / ((((ns.map D.int).length : Nat) : Int) + 1)) := .of_lt (by have := m15.1; omega) (m := 2 ^ 61) (by
    have h5 := m15.2
    rw [t15] at h5 ⊢
    have : ((2 ^ 60 : Nat) : Int) = 2 ^ 60 := by simp
    have : (2 : Int) ^ 61 = 2 * 2 ^ 60 := rfl
    omega) (by decide)
  obtain ⟨r0, rc, rn⟩ := bl.2 hx hix h3
  have nz15 : (10 : Int) ^ (15 : Int).toNat ≠ 0 := by rw [t15]; decide
  have call : ∀ en, callR T y [] ([.d (.int (n.fmod (10 ^ (15 : Int).toNat) + ix / ((((ns.map D.int).length : Nat) : Int) + 1))), .d (.int ix)], en) = .ok (.int r0, en) := fun en => cr_ok rfl rfl rfl rc rfl
  have set1 : ∀ (v : D) (en : En), setR1 0 v (.int 1, .own [.lst (ns.map D.int), .int ix, .int cur] :: en) = .nx (.own [.lst (ns.map D.int), v, .int cur] :: en) := fun v en => setR1_ok (i := 0) (k := 1) (l := [.lst (ns.map D.int), .int ix, .int cur]) (en := .own [.lst (ns.map D.int), .int ix, .int cur] :: en) (j := 1) rfl rfl
  have set2 : ∀ (u v : D) (en : En), setR1 0 v (.int 2, .own [.lst (ns.map D.int), u, .int cur] :: en) = .nx (.own [.lst (ns.map D.int), u, v] :: en) := fun u v en => setR1_ok (i := 0) (k := 2) (l := [.lst (ns.map D.int), u, .int cur]) (en := .own [.lst (ns.map D.int), u, .int cur] :: en) (j := 2) rfl rfl
  by_cases c : decide (n < 10 ^ (18 : Int).toNat) = true
  · refine ⟨r0, ?_, rn⟩
    simp only [b_ok, b_bad, b_ex, o_ok, o_bad, o_ex, s_nx, s_rt, s_bk, s_ct, s_bad, t_nx, t_ct, t_bk, t_rt, t_bad, e_c, e_v, e_g, e_pr, e_and, e_or, e_ite, and_bl, or_bl, ite_bl, a_nil, a_c, a_g, a_v, a_pr, a_and, a_or, a_ite, a_ch, a_call, a_lc, cons_ok, a_bw, a_io, v_0, v_s, w_0, w_v, w_n, w_s, rd_nil, rd_d, rd_b, r_nil, r_d, r_b, r_o, om_some, ix_0, ix_1, ix_2, l_nil, l_cons, x_asg, x_ret, x_ite, iteO_bl, x_stop, p_add_i, p_sub_i, p_neg_i, p_mul_i, p_fdiv_i, p_mod_i, p_ix_t, p_ix_l, p_lt_i, p_le_i, p_gt_i, p_ge_i, p_abs_i, p_not_b, p_len_t, p_len_l, p_tup0, p_tup1, p_tup2, p_tup3, p_lst0, p_lst1, p_lst2, p_eq_i, p_ne_i, prR, asgR, st_n, st_t, sm_nil, sm_cons, List.set_cons_zero, List.set_cons_succ, fls_iff, tru_iff, n_isSome, s_isSome, if_true, if_false, Bool.false_eq_true, Bool.true_eq_false, x_setI, setR_eq, x_app, x_for, x_par, parR, el_nil, el_cons, elc_ok, x_whl, x_retF, x_pop, e_lc, at_, p18, p15, c, ne_eq, nz15, not_false_eq_true, dv, e_call _ _ _ bl.1, call, set1, set2]
  · have c' : decide (n < 10 ^ (18 : Int).toNat) = false := by cases z : decide (n < 10 ^ (18 : Int).toNat) with
      | false => rfl
      | true => exact absurd z c
    by_cases c2 : decide ((((ns.map D.int).length : Nat) : Int) ≤ ix) = true
    · refine ⟨r0, ?_, rn⟩
      simp only [b_ok, b_bad, b_ex, o_ok, o_bad, o_ex, s_nx, s_rt, s_bk, s_ct, s_bad, t_nx, t_ct, t_bk, t_rt, t_bad, e_c, e_v, e_g, e_pr, e_and, e_or, e_ite, and_bl, or_bl, ite_bl, a_nil, a_c, a_g, a_v, a_pr, a_and, a_or, a_ite, a_ch, a_call, a_lc, cons_ok, a_bw, a_io, v_0, v_s, w_0, w_v, w_n, w_s, rd_nil, rd_d, rd_b, r_nil, r_d, r_b, r_o, om_some, ix_0, ix_1, ix_2, l_nil, l_cons, x_asg, x_ret, x_ite, iteO_bl, x_stop, p_add_i, p_sub_i, p_neg_i, p_mul_i, p_fdiv_i, p_mod_i, p_ix_t, p_ix_l, p_lt_i, p_le_i, p_gt_i, p_ge_i, p_abs_i, p_not_b, p_len_t, p_len_l, p_tup0, p_tup1, p_tup2, p_tup3, p_lst0, p_lst1, p_lst2, p_eq_i, p_ne_i, prR, asgR, st_n, st_t, sm_nil, sm_cons, List.set_cons_zero, List.set_cons_succ, fls_iff, tru_iff, n_isSome, s_isSome, if_true, if_false, Bool.false_eq_true, Bool.true_eq_false, x_setI, setR_eq, x_app, x_for, x_par, parR, el_nil, el_cons, elc_ok, x_whl, x_retF, x_pop, e_lc, at_, p18, p15, c', c2, ne_eq, nz15, not_false_eq_true, dv, e_call _ _ _ bl.1, call, set1, set2]
    · have c2' : decide ((((ns.map D.int).length : Nat) : Int) ≤ ix) = false := by cases z : decide ((((ns.map D.int).length : Nat) : Int) ≤ ix) with
        | false => rfl
        | true => exact absurd z c2
      refine ⟨n, ?_, hn⟩
      simp only [b_ok, b_bad, b_ex, o_ok, o_bad, o_ex, s_nx, s_rt, s_bk, s_ct, s_bad, t_nx, t_ct, t_bk, t_rt, t_bad, e_c, e_v, e_g, e_pr, e_and, e_or, e_ite, and_bl, or_bl, ite_bl, a_nil, a_c, a_g, a_v, a_pr, a_and, a_or, a_ite, a_ch, a_call, a_lc, cons_ok, a_bw, a_io, v_0, v_s, w_0, w_v, w_n, w_s, rd_nil, rd_d, rd_b, r_nil, r_d, r_b, r_o, om_some, ix_0, ix_1, ix_2, l_nil, l_cons, x_asg, x_ret, x_ite, iteO_bl, x_stop, p_add_i, p_sub_i, p_neg_i, p_mul_i, p_fdiv_i, p_mod_i, p_ix_t, p_ix_l, p_lt_i, p_le_i, p_gt_i, p_ge_i, p_abs_i, p_not_b, p_len_t, p_len_l, p_tup0, p_tup1, p_tup2, p_tup3, p_lst0, p_lst1, p_lst2, p_eq_i, p_ne_i, prR, asgR, st_n, st_t, sm_nil, sm_cons, List.set_cons_zero, List.set_cons_succ, fls_iff, tru_iff, n_isSome, s_isSome, if_true, if_false, Bool.false_eq_true, Bool.true_eq_false, x_setI, setR_eq, x_app, x_for, x_par, parR, el_nil, el_cons, elc_ok, x_whl, x_retF, x_pop, e_lc, at_, p18, p15, c', c2', ne_eq, nz15, not_false_eq_true, dv, e_call _ _ _ bl.1, call, set1, set2]
end Vm
end
section
set_option Elab.async false
set_option linter.all false
set_option maxRecDepth 100000
namespace Vm
open PySem PySem.Spec L2
theorem pw (k : Nat) : ((2 ^ k : Nat) : Int) = (2 : Int) ^ k := by simp
theorem two_le {k m : Nat} (h : k ≤ m) : (2 : Int) ^ k ≤ 2 ^ m := by
  rw [← pw, ← pw]
  exact Int.ofNat_le.mpr (Nat.pow_le_pow_right (by decide) h)
/-- y gives a number below the bound -/
def Be (T : Tab) (x : Str) : Prop := T.has x = true ∧ ∀ {m : Nat} {l : List D} {size : Int}, Sup m l → m < 2 ^ 60 → 0 < size → Bd 8000 size → ∃ (r : Int) (l' : List D), T.call x [.own l, .val (.int size)] = .ok (.int r, some l') ∧ 0 ≤ r ∧ r < size ∧ Sup (m + 1) l'
theorem be_run {T : Tab} {y : Str} {m : Nat} {l : List D} {size : Int} (bl : Bl T y) (sup : Sup m l) (hm : m < 2 ^ 60) (hs : 0 < size) (hb : Bd 8000 size) :
    ∃ (r : Int) (l' : List D), runFd T big (beDef y) [.own l, .val (.int size)] = .ok (.int r, some l') ∧ 0 ≤ r ∧ r < size ∧ Sup (m + 1) l' := by
  obtain ⟨ns, ix, cur, rfl, h1, h2, h3, h4, h5⟩ := sup
  have nz : size ≠ 0 := by omega
  have dv : divOk size = true := divOk_bd hb hs
  have set2 : ∀ (u v w : D) (en : En), setR1 0 v (.int 2, .own [.lst (ns.map D.int), u, w] :: en) = .nx (.own [.lst (ns.map D.int), u, v] :: en) := fun u v w en => setR1_ok (i := 0) (k := 2) (l := [.lst (ns.map D.int), u, w]) (en := .own [.lst (ns.map D.int), u, w] :: en) (j := 2) rfl rfl
  by_cases c : cur < size
  · obtain ⟨r, run, rn⟩ := be_next (cur := cur) (size := size) bl hm h1 h2 h3 h4
    have f := fmod_pos (a := r) hs
    refine ⟨r.fmod size, [.lst (ns.map D.int), .int (ix + 1), .int (r / size)], ?_, f.1, f.2, ns, ix + 1, r / size, rfl, h1, h2, by omega, by omega, Int.ediv_nonneg rn (by omega)⟩
    show endOf (some 0) false (runL (exS T big (some 0) false 40) (beCode y) [.own [.lst (ns.map D.int), .int ix, .int cur], .val (.int size), .no, .no, .no, .no]) = _
    unfold beCode
    simp only [b_ok, b_bad, b_ex, o_ok, o_bad, o_ex, s_nx, s_rt, s_bk, s_ct, s_bad, t_nx, t_ct, t_bk, t_rt, t_bad, e_c, e_v, e_g, e_pr, e_and, e_or, e_ite, and_bl, or_bl, ite_bl, a_nil, a_c, a_g, a_v, a_pr, a_and, a_or, a_ite, a_ch, a_call, a_lc, cons_ok, a_bw, a_io, v_0, v_s, w_0, w_v, w_n, w_s, rd_nil, rd_d, rd_b, r_nil, r_d, r_b, r_o, om_some, ix_0, ix_1, ix_2, l_nil, l_cons, x_asg, x_ret, x_ite, iteO_bl, x_stop, p_add_i, p_sub_i, p_neg_i, p_mul_i, p_fdiv_i, p_mod_i, p_ix_t, p_ix_l, p_lt_i, p_le_i, p_gt_i, p_ge_i, p_abs_i, p_not_b, p_len_t, p_len_l, p_tup0, p_tup1, p_tup2, p_tup3, p_lst0, p_lst1, p_lst2, p_eq_i, p_ne_i, prR, asgR, st_n, st_t, sm_nil, sm_cons, List.set_cons_zero, List.set_cons_succ, fls_iff, tru_iff, n_isSome, s_isSome, if_true, if_false, Bool.false_eq_true, Bool.true_eq_false, x_setI, setR_eq, x_app, x_for, x_par, parR, el_nil, el_cons, elc_ok, x_whl, x_retF, x_pop, e_lc, decide_eq_true c]
    rw [run]
    simp only [b_ok, b_bad, b_ex, o_ok, o_bad, o_ex, s_nx, s_rt, s_bk, s_ct, s_bad, t_nx, t_ct, t_bk, t_rt, t_bad, e_c, e_v, e_g, e_pr, e_and, e_or, e_ite, and_bl, or_bl, ite_bl, a_nil, a_c, a_g, a_v, a_pr, a_and, a_or, a_ite, a_ch, a_call, a_lc, cons_ok, a_bw, a_io, v_0, v_s, w_0, w_v, w_n, w_s, rd_nil, rd_d, rd_b, r_nil, r_d, r_b, r_o, om_some, ix_0, ix_1, ix_2, l_nil, l_cons, x_asg, x_ret, x_ite, iteO_bl, x_stop, p_add_i, p_sub_i, p_neg_i, p_mul_i, p_fdiv_i, p_mod_i, p_ix_t, p_ix_l, p_lt_i, p_le_i, p_gt_i, p_ge_i, p_abs_i, p_not_b, p_len_t, p_len_l, p_tup0, p_tup1, p_tup2, p_tup3, p_lst0, p_lst1, p_lst2, p_eq_i, p_ne_i, prR, asgR, st_n, st_t, sm_nil, sm_cons, List.set_cons_zero, List.set_cons_succ, fls_iff, tru_iff, n_isSome, s_isSome, if_true, if_false, Bool.false_eq_true, Bool.true_eq_false, x_setI, setR_eq, x_app, x_for, x_par, parR, el_nil, el_cons, elc_ok, x_whl, x_retF, x_pop, e_lc, ne_eq, nz, not_false_eq_true, dv, set2]
    rfl
  · have f := fmod_pos (a := cur) hs
    refine ⟨cur.fmod size, [.lst (ns.map D.int), .int ix, .int (cur / size)], ?_, f.1, f.2, ns, ix, cur / size, rfl, h1, h2, h3, by omega, Int.ediv_nonneg h5 (by omega)⟩
    show endOf (some 0) false (runL (exS T big (some 0) false 40) (beCode y) [.own [.lst (ns.map D.int), .int ix, .int cur], .val (.int size), .no, .no, .no, .no]) = _
    unfold beCode
    simp only [b_ok, b_bad, b_ex, o_ok, o_bad, o_ex, s_nx, s_rt, s_bk, s_ct, s_bad, t_nx, t_ct, t_bk, t_rt, t_bad, e_c, e_v, e_g, e_pr, e_and, e_or, e_ite, and_bl, or_bl, ite_bl, a_nil, a_c, a_g, a_v, a_pr, a_and, a_or, a_ite, a_ch, a_call, a_lc, cons_ok, a_bw, a_io, v_0, v_s, w_0, w_v, w_n, w_s, rd_nil, rd_d, rd_b, r_nil, r_d, r_b, r_o, om_some, ix_0, ix_1, ix_2, l_nil, l_cons, x_asg, x_ret, x_ite, iteO_bl, x_stop, p_add_i, p_sub_i, p_neg_i, p_mul_i, p_fdiv_i, p_mod_i, p_ix_t, p_ix_l, p_lt_i, p_le_i, p_gt_i, p_ge_i, p_abs_i, p_not_b, p_len_t, p_len_l, p_tup0, p_tup1, p_tup2, p_tup3, p_lst0, p_lst1, p_lst2, p_eq_i, p_ne_i, prR, asgR, st_n, st_t, sm_nil, sm_cons, List.set_cons_zero, List.set_cons_succ, fls_iff, tru_iff, n_isSome, s_isSome, if_true, if_false, Bool.false_eq_true, Bool.true_eq_false, x_setI, setR_eq, x_app, x_for, x_par, parR, el_nil, el_cons, elc_ok, x_whl, x_retF, x_pop, e_lc, decide_eq_false c, ne_eq, nz, not_false_eq_true, dv, set2]
    rfl
/-- y picks an item -/
def On (T : Tab) (x : Str) : Prop := T.has x = true ∧ ∀ {m : Nat} {l : List D} {ds : List D}, Sup m l → m < 2 ^ 60 → ds ≠ [] → ds.length ≤ 1000 → ∃ (d : D) (l' : List D), d ∈ ds ∧ T.call x [.own l, .val (.lst ds)] = .ok (d, some l') ∧ Sup (m + 1) l'
def onCode : List S := [.ret (.pr .ix [.v 1, .call "_law_below" [.io 0, .pr .len [.v 1]] []])]
def onDef : Fd := ⟨"_law_one_of", 2, 2, some 0, false, 40, onCode, []⟩
theorem on_run {T : Tab} {m : Nat} {l ds : List D} (be : Be T "_law_below") (sup : Sup m l) (hm : m < 2 ^ 60) (hd : ds ≠ []) (hl : ds.length ≤ 1000) :
    ∃ (d : D) (l' : List D), d ∈ ds ∧ runFd T big onDef [.own l, .val (.lst ds)] = .ok (d, some l') ∧ Sup (m + 1) l' := by
  have pos := List.length_pos_iff.mpr hd
  obtain ⟨r, l', call, r0, r1, s⟩ := be.2 (size := (ds.length : Int)) sup hm (by omega) (.of_lt (by omega) (m := 1001) (by omega) (by
    have : (1001 : Int) ≤ 2 ^ 10 := by decide
    have h2 : (2 : Int) ^ 10 ≤ 2 ^ 8000 := two_le (by decide)
    omega))
  have lt : r.toNat < ds.length := by omega
  have e : ixL ds r = .ok ds[r.toNat] := ix_nn r0 (List.getElem?_eq_getElem lt)
  refine ⟨ds[r.toNat], l', List.getElem_mem lt, ?_, s⟩
  have cr : ∀ en, callR T "_law_below" [] ([.o 0, .d (.int (ds.length : Int))], .own l :: en) = .ok (.int r, .own l' :: en) := fun en => cr_io (i := 0) (l := l') (ss := [.own l, .val (.int (ds.length : Int))]) rfl rfl rfl call rfl
  show endOf (some 0) false (runL (exS T big (some 0) false 40) onCode [.own l, .val (.lst ds)]) = _
  unfold onCode
  simp only [b_ok, b_bad, b_ex, o_ok, o_bad, o_ex, s_nx, s_rt, s_bk, s_ct, s_bad, t_nx, t_ct, t_bk, t_rt, t_bad, e_c, e_v, e_g, e_pr, e_and, e_or, e_ite, and_bl, or_bl, ite_bl, a_nil, a_c, a_g, a_v, a_pr, a_and, a_or, a_ite, a_ch, a_call, a_lc, cons_ok, a_bw, a_io, v_0, v_s, w_0, w_v, w_n, w_s, rd_nil, rd_d, rd_b, r_nil, r_d, r_b, r_o, om_some, ix_0, ix_1, ix_2, l_nil, l_cons, x_asg, x_ret, x_ite, iteO_bl, x_stop, p_add_i, p_sub_i, p_neg_i, p_mul_i, p_fdiv_i, p_mod_i, p_ix_t, p_ix_l, p_lt_i, p_le_i, p_gt_i, p_ge_i, p_abs_i, p_not_b, p_len_t, p_len_l, p_tup0, p_tup1, p_tup2, p_tup3, p_lst0, p_lst1, p_lst2, p_eq_i, p_ne_i, prR, asgR, st_n, st_t, sm_nil, sm_cons, List.set_cons_zero, List.set_cons_succ, fls_iff, tru_iff, n_isSome, s_isSome, if_true, if_false, Bool.false_eq_true, Bool.true_eq_false, x_setI, setR_eq, x_app, x_for, x_par, parR, el_nil, el_cons, elc_ok, x_whl, x_retF, x_pop, e_lc, e_call _ _ _ be.1, cr, e]
  rfl
/-- a random fraction -/
def Fr (T : Tab) (x : Str) : Prop := T.has x = true ∧ ∀ {m k : Nat} {l : List D} {size : Int}, Sup m l → m + 5 < 2 ^ 60 → 2 ≤ size → size ≤ 2 ^ k → 3 ≤ k → k ≤ 1000 → ∃ (q : Rat) (l' : List D), T.call x [.own l, .val (.int size)] = .ok (fr q, some l') ∧ Ht k q ∧ Sup (m + 3) l'
def rfCode : List S := [
  .asg (.n 2) (.pr .add [.pr .sub [.call "_law_below" [.io 0, .pr .sub [.pr .mul [.c (.int 2), .v 1], .c (.int 1)]] [], .v 1], .c (.int 1)]),
  .ret (.call "_law_lowest" [.v 2, .pr .add [.c (.int 1), .call "_law_below" [.io 0, .call "_law_one_of" [.io 0, .pr .lst [.c (.int 1), .c (.int 1), .c (.int 4), .pr .sub [.v 1, .c (.int 1)]]] []] []]] [])]
def rfDef : Fd := ⟨"_law_fraction", 2, 3, some 0, false, 40, rfCode, []⟩
theorem rf_run {T : Tab} {m k : Nat} {l : List D} {size : Int} (be : Be T "_law_below") (on : On T "_law_one_of") (lo : Mk T "_law_lowest") (sup : Sup m l) (hm : m + 5 < 2 ^ 60) (h2 : 2 ≤ size) (hk : size ≤ 2 ^ k) (k3 : 3 ≤ k) (k4 : k ≤ 1000) :
    ∃ (q : Rat) (l' : List D), runFd T big rfDef [.own l, .val (.int size)] = .ok (fr q, some l') ∧ Ht k q ∧ Sup (m + 3) l' := by
  have hk1 : (2 : Int) ^ (k + 1) = 2 * 2 ^ k := by rw [Int.pow_succ, Int.mul_comm]
  have k8 : (8 : Int) ≤ 2 ^ k := by
    have : (2 : Int) ^ 3 ≤ 2 ^ k := two_le k3
    have : (2 : Int) ^ 3 = 8 := rfl
    omega
  have b1 : Bd 8000 (2 * size - 1) := Bd.mono (.of_lt (k := k + 1) (by omega) (m := 2 * size) (by omega) (by omega)) (by omega)
  obtain ⟨r1, l1, c1, p1, p2, s1⟩ := be.2 sup (by omega) (by omega) b1
  obtain ⟨d, l2, dm, c2, s2⟩ := on.2 (ds := [.int 1, .int 1, .int 4, .int (size - 1)]) s1 (by omega) (by simp) (by simp)
  have dv : ∃ z : Int, d = .int z ∧ 1 ≤ z ∧ z < 2 ^ k := by
    simp only [List.mem_cons, List.not_mem_nil, or_false] at dm
    rcases dm with e | e | e | e
    · exact ⟨1, e, by omega, by omega⟩
    · exact ⟨1, e, by omega, by omega⟩
    · exact ⟨4, e, by omega, by omega⟩
    · exact ⟨size - 1, e, by omega, by omega⟩
  obtain ⟨z, rfl, z1, z2⟩ := dv
  obtain ⟨r3, l3, c3, p5, p6, s3⟩ := be.2 s2 (by omega) (show (0 : Int) < z by omega) (Bd.mono (.of_lt (by omega) z2 (Int.le_refl _)) (by omega))
  have ht : Bd k (r1 - size + 1) := by
    unfold Bd
    have := pw k
    omega
  have hb : Bd k (1 + r3) := by
    unfold Bd
    have := pw k
    omega
  have nz : (1 : Int) + r3 ≠ 0 := by omega
  refine ⟨Rat.divInt (r1 - size + 1) (1 + r3), l3, ?_, .divInt nz ht hb, s3⟩
  have m1 : mulOk 2 size = true := mulOk_bd (k := 2) (m := k + 1) (by unfold Bd; decide) (.of_lt (by omega) (m := 2 * size) (by omega) (by omega))
  have e1 : ∀ en, callR T "_law_below" [] ([.o 0, .d (.int (2 * size - 1))], .own l :: en) = .ok (.int r1, .own l1 :: en) := fun en => cr_io (i := 0) (l := l1) (ss := [.own l, .val (.int (2 * size - 1))]) rfl rfl rfl c1 rfl
  have e2 : ∀ en, callR T "_law_one_of" [] ([.o 0, .d (.lst [.int 1, .int 1, .int 4, .int (size - 1)])], .own l1 :: en) = .ok (.int z, .own l2 :: en) := fun en => cr_io (i := 0) (l := l2) (ss := [.own l1, .val (.lst [.int 1, .int 1, .int 4, .int (size - 1)])]) rfl rfl rfl c2 rfl
  have e3 : ∀ en, callR T "_law_below" [] ([.o 0, .d (.int z)], .own l2 :: en) = .ok (.int r3, .own l3 :: en) := fun en => cr_io (i := 0) (l := l3) (ss := [.own l2, .val (.int z)]) rfl rfl rfl c3 rfl
  have e4 : ∀ en, callR T "_law_lowest" [] ([.d (.int (r1 - size + 1)), .d (.int (1 + r3))], en) = .ok (fr (Rat.divInt (r1 - size + 1) (1 + r3)), en) := fun en => cr_ok rfl rfl rfl (lo.2 nz ht hb (by omega)) rfl
  have l4 : ∀ a b c d : D, prim .lst [a, b, c, d] = .ok (.lst [a, b, c, d]) := fun _ _ _ _ => rfl
  show endOf (some 0) false (runL (exS T big (some 0) false 40) rfCode [.own l, .val (.int size), .no]) = _
  unfold rfCode
  simp only [b_ok, b_bad, b_ex, o_ok, o_bad, o_ex, s_nx, s_rt, s_bk, s_ct, s_bad, t_nx, t_ct, t_bk, t_rt, t_bad, e_c, e_v, e_g, e_pr, e_and, e_or, e_ite, and_bl, or_bl, ite_bl, a_nil, a_c, a_g, a_v, a_pr, a_and, a_or, a_ite, a_ch, a_call, a_lc, cons_ok, a_bw, a_io, v_0, v_s, w_0, w_v, w_n, w_s, rd_nil, rd_d, rd_b, r_nil, r_d, r_b, r_o, om_some, ix_0, ix_1, ix_2, l_nil, l_cons, x_asg, x_ret, x_ite, iteO_bl, x_stop, p_add_i, p_sub_i, p_neg_i, p_mul_i, p_fdiv_i, p_mod_i, p_ix_t, p_ix_l, p_lt_i, p_le_i, p_gt_i, p_ge_i, p_abs_i, p_not_b, p_len_t, p_len_l, p_tup0, p_tup1, p_tup2, p_tup3, p_lst0, p_lst1, p_lst2, p_eq_i, p_ne_i, prR, asgR, st_n, st_t, sm_nil, sm_cons, List.set_cons_zero, List.set_cons_succ, fls_iff, tru_iff, n_isSome, s_isSome, if_true, if_false, Bool.false_eq_true, Bool.true_eq_false, x_setI, setR_eq, x_app, x_for, x_par, parR, el_nil, el_cons, elc_ok, x_whl, x_retF, x_pop, e_lc, m1, e_call _ _ _ be.1, e_call _ _ _ on.1, e_call _ _ _ lo.1, e1, e2, e3, e4, l4]
  rfl
end Vm
end
section
set_option Elab.async false
set_option linter.all false
set_option maxRecDepth 100000
namespace Vm
open PySem PySem.Spec L2
def suCode (a b : Int) (z : List E) : List S := [
  .asgO 3 (.lc (.pr .abs [.v 2]) (.n 2) .seq [.pr .slA [.v 0, .c (.int a)]] none [2]),
  .for_ (.t [1, 2]) .enum [.pr .slC [.v 0, .c (.int a), .c (.int b)]] [.setI 3 (.pr .mod [.v 1, .c (.int a)]) (.pr .add [.pr .ix [.bw 3, .pr .mod [.v 1, .c (.int a)]], .pr .abs [.v 2]])],
  .frz 3,
  .retF (.pr .lst z)]
def suDef (nm : Str) (a b : Int) (z : List E) : Fd := ⟨nm, 1, 4, none, true, 40, suCode a b z, []⟩
def absD : D → D
  | .int i => .int (if i < 0 then -i else i)
  | d => d
theorem enumD_at : ∀ (ds : List D) (k i : Nat) (d : D), (enumD k ds)[i]? = some d → ∃ x, ds[i]? = some x ∧ d = .tup [.int ((k + i : Nat) : Int), x]
  | [], k, i, d, h => by simp [enumD] at h
  | x :: ds, k, 0, d, h => by
    simp [enumD] at h
    exact ⟨x, rfl, h.symm⟩
  | x :: ds, k, i + 1, d, h => by
    have h : (enumD (k + 1) ds)[i]? = some d := by simpa [enumD] using h
    obtain ⟨y, h1, h2⟩ := enumD_at ds (k + 1) i d h
    exact ⟨y, by simpa using h1, by rw [h2, show k + 1 + i = k + (i + 1) by omega]⟩
theorem mem_enumD : ∀ (ds : List D) (k : Nat) (d : D), d ∈ enumD k ds → ∃ (i : Nat) (x : D), x ∈ ds ∧ d = .tup [.int (i : Int), x]
  | [], _, _, h => by cases h
  | x :: ds, k, d, h => by
    rcases List.mem_cons.mp (show d ∈ .tup [.int k, x] :: enumD (k + 1) ds from h) with e | e
    · exact ⟨k, x, List.mem_cons_self, e⟩
    · obtain ⟨i, y, h1, h2⟩ := mem_enumD ds (k + 1) d e
      exact ⟨i, y, List.mem_cons_of_mem _ h1, h2⟩
theorem abs_nn (i : Int) : 0 ≤ (if i < 0 then -i else i) := by split <;> omega
/-- a slot that holds no own list -/
def NoW (s : Slot) : Prop := ∀ en : En, ownAt (s :: en) 0 = none
theorem now_val (d : D) : NoW (.val d) := fun _ => rfl
theorem now_no : NoW .no := fun _ => rfl
theorem lcR_map {T : Tab} {n : Nat} {en : En} {elt : E} {tg : Tg} {k : Ik} {vs : List Nat} {ls ds : List D} {g : D → D} (h : items k ls = some ds) (h2 : noOwn en vs = true) (h3 : ds.length ≤ lineN) (h4 : ∀ d ∈ ds, ∃ en1 en2, setTg tg d (wipeE en vs) = some en1 ∧ evE T n elt en1 = .ok (g d, en2) ∧ wipeE en2 vs = wipeE en vs) :
    lcR T n elt tg k none vs (ls, en) = .ok (.lst (ds.map g), restE en vs (wipeE en vs)) := lcR_ok h h2 h3 (lc_map ds h4)
theorem su_run {T : Tab} {nm : Str} {ns : List Int} (hl : ns.length ≤ 63) : ∃ l, runFd T big (suDef nm 18 63 [.v 3, .c (.int 0), .c (.int 0)]) [.val (.scr ns)] = .ok (.lst l, none) ∧ Sup 0 l := by
  show ∃ l, endOf none true (runL (exS T big none true 40) (suCode 18 63 [.v 3, .c (.int 0), .c (.int 0)]) [.val (.scr ns), .no, .no, .no]) = .ok (.lst l, none) ∧ Sup 0 l
  let ms0 : List Int := (ns.take 18).map fun i => if i < 0 then -i else i
  have p1 : prim .slA [.scr ns, .int 18] = .ok (.lst ((ns.take 18).map D.int)) := by
    show R.ok (D.lst (cut (ns.map D.int) none (some ((18 : Nat) : Int)))) = _
    rw [cut_to, List.map_take]
  have p2 : prim .slC [.scr ns, .int 18, .int 63] = .ok (.lst (((ns.drop 18).take 45).map D.int)) := by
    show R.ok (D.lst (cut (ns.map D.int) (some ((18 : Nat) : Int)) (some ((63 : Nat) : Int)))) = _
    rw [cut_mid, List.map_take, List.map_drop]
  have l1 : lcR T 38 (.pr .abs [.v 2]) (.n 2) .seq none [2] ([.lst ((ns.take 18).map D.int)], [.val (.scr ns), .no, .no, .no]) = .ok (.lst (((ns.take 18).map D.int).map absD), [.val (.scr ns), .no, .no, .no]) := by
    refine lcR_map (n := 38) (en := [.val (.scr ns), .no, .no, .no]) (ds := (ns.take 18).map D.int) (g := absD) rfl rfl ?_ fun d hd => ?_
    · rw [List.length_map, List.length_take]
      unfold lineN
      omega
    · obtain ⟨i, _, rfl⟩ := List.mem_map.mp hd
      exact ⟨[.val (.scr ns), .no, .val (.int i), .no], [.val (.scr ns), .no, .val (.int i), .no], rfl, by simp only [b_ok, b_bad, b_ex, o_ok, o_bad, o_ex, s_nx, s_rt, s_bk, s_ct, s_bad, t_nx, t_ct, t_bk, t_rt, t_bad, e_c, e_v, e_g, e_pr, e_and, e_or, e_ite, and_bl, or_bl, ite_bl, a_nil, a_c, a_g, a_v, a_pr, a_and, a_or, a_ite, a_ch, a_call, a_lc, cons_ok, a_bw, a_io, v_0, v_s, w_0, w_v, w_n, w_s, rd_nil, rd_d, rd_b, r_nil, r_d, r_b, r_o, om_some, ix_0, ix_1, ix_2, l_nil, l_cons, x_asg, x_ret, x_ite, iteO_bl, x_stop, p_add_i, p_sub_i, p_neg_i, p_mul_i, p_fdiv_i, p_mod_i, p_ix_t, p_ix_l, p_lt_i, p_le_i, p_gt_i, p_ge_i, p_abs_i, p_not_b, p_len_t, p_len_l, p_tup0, p_tup1, p_tup2, p_tup3, p_lst0, p_lst1, p_lst2, p_eq_i, p_ne_i, prR, asgR, st_n, st_t, sm_nil, sm_cons, List.set_cons_zero, List.set_cons_succ, fls_iff, tru_iff, n_isSome, s_isSome, if_true, if_false, Bool.false_eq_true, Bool.true_eq_false, x_setI, setR_eq, x_app, x_for, x_par, parR, el_nil, el_cons, elc_ok, x_whl, x_retF, x_pop, e_lc]; rfl, rfl⟩
  have e0 : ((ns.take 18).map D.int).map absD = ms0.map D.int := by
    rw [List.map_map, List.map_map]
    rfl
  have nn0 : ∀ n ∈ ms0, 0 ≤ n := fun n hn => by
    obtain ⟨i, _, rfl⟩ := List.mem_map.mp hn
    exact abs_nn i
  have len0 : ms0.length = min 18 ns.length := by
    show ((ns.take 18).map _).length = _
    rw [List.length_map, List.length_take]
  have loop := loop_all (tg := .t [1, 2]) (b := runL (exS T big none true 39) [.setI 3 (.pr .mod [.v 1, .c (.int 18)]) (.pr .add [.pr .ix [.bw 3, .pr .mod [.v 1, .c (.int 18)]], .pr .abs [.v 2]])])
    (P := fun en => ∃ (ms : List Int) (s1 s2 : Slot), en = [.val (.scr ns), s1, s2, .own (ms.map D.int)] ∧ (∀ n ∈ ms, 0 ≤ n) ∧ ms.length = min 18 ns.length ∧ NoW s1 ∧ NoW s2) (Q := fun d => ∃ (k : Nat) (x : Int), d = .tup [.int k, .int x] ∧ 18 < ns.length) (fun d en hd hp => by
      obtain ⟨k, x, rfl, big_⟩ := hd
      obtain ⟨ms, s1, s2, rfl, h1, h2, h3, h4⟩ := hp
      have f := fmod_pos (a := (k : Int)) (m := 18) (by decide)
      have lt : ((k : Int).fmod 18).toNat < ms.length := by omega
      have ix : ixL (ms.map D.int) ((k : Int).fmod 18) = .ok (.int ms[((k : Int).fmod 18).toNat]) := ix_nn f.1 (by rw [List.getElem?_map, List.getElem?_eq_getElem lt]; rfl)
      have ixn : ixN (ms.map D.int).length ((k : Int).fmod 18) = some ((k : Int).fmod 18).toNat := by
        unfold ixN
        rw [if_pos f.1, if_pos (by rw [List.length_map]; omega)]
      have st : ∀ (v : D), setR1 3 v (.int ((k : Int).fmod 18), [.val (.scr ns), .val (.int k), .val (.int x), .own (ms.map D.int)]) = .nx [.val (.scr ns), .val (.int k), .val (.int x), .own ((ms.map D.int).set ((k : Int).fmod 18).toNat v)] := fun v => setR1_ok (i := 3) (l := ms.map D.int) (en := [.val (.scr ns), .val (.int k), .val (.int x), .own (ms.map D.int)]) rfl ixn
      have n18 : (18 : Int) ≠ 0 := by decide
      refine ⟨[.val (.scr ns), .val (.int k), .val (.int x), .own (ms.map D.int)], [.val (.scr ns), .val (.int k), .val (.int x), .own ((ms.set ((k : Int).fmod 18).toNat (ms[((k : Int).fmod 18).toNat] + (if x < 0 then -x else x))).map D.int)], ?_, ?_, _, _, _, rfl, ?_, by rw [List.length_set]; exact h2, now_val _, now_val _⟩
      · rw [st_t, sm_cons, w_s, h3]
        show (if (ownAt [.val (.scr ns), .val (.int k), s2, .own (ms.map D.int)] 2).isSome then none else _) = _
        rw [w_s, w_s, h4]
        rfl
      · simp only [b_ok, b_bad, b_ex, o_ok, o_bad, o_ex, s_nx, s_rt, s_bk, s_ct, s_bad, t_nx, t_ct, t_bk, t_rt, t_bad, e_c, e_v, e_g, e_pr, e_and, e_or, e_ite, and_bl, or_bl, ite_bl, a_nil, a_c, a_g, a_v, a_pr, a_and, a_or, a_ite, a_ch, a_call, a_lc, cons_ok, a_bw, a_io, v_0, v_s, w_0, w_v, w_n, w_s, rd_nil, rd_d, rd_b, r_nil, r_d, r_b, r_o, om_some, ix_0, ix_1, ix_2, l_nil, l_cons, x_asg, x_ret, x_ite, iteO_bl, x_stop, p_add_i, p_sub_i, p_neg_i, p_mul_i, p_fdiv_i, p_mod_i, p_ix_t, p_ix_l, p_lt_i, p_le_i, p_gt_i, p_ge_i, p_abs_i, p_not_b, p_len_t, p_len_l, p_tup0, p_tup1, p_tup2, p_tup3, p_lst0, p_lst1, p_lst2, p_eq_i, p_ne_i, prR, asgR, st_n, st_t, sm_nil, sm_cons, List.set_cons_zero, List.set_cons_succ, fls_iff, tru_iff, n_isSome, s_isSome, if_true, if_false, Bool.false_eq_true, Bool.true_eq_false, x_setI, setR_eq, x_app, x_for, x_par, parR, el_nil, el_cons, elc_ok, x_whl, x_retF, x_pop, e_lc, ix, ne_eq, n18, not_false_eq_true, st]
        rw [List.map_set]
      · intro n hn
        rcases List.mem_or_eq_of_mem_set hn with z | z
        · exact h1 n z
        · subst z
          exact Int.add_nonneg (h1 _ (List.getElem_mem lt)) (abs_nn x))
  have hq : ∀ d ∈ enumD 0 (((ns.drop 18).take 45).map D.int), ∃ (k : Nat) (x : Int), d = .tup [.int k, .int x] ∧ 18 < ns.length := fun d hd => by
    obtain ⟨i, x, h1, h2⟩ := mem_enumD _ 0 d hd
    obtain ⟨j, h3, rfl⟩ := List.mem_map.mp h1
    refine ⟨i, j, h2, ?_⟩
    have h4 := List.mem_of_mem_take h3
    have : 0 < (ns.drop 18).length := List.length_pos_of_mem h4
    rw [List.length_drop] at this
    omega
  obtain ⟨en', r1, ms, s1, s2, rfl, h1, h2, h3, h4⟩ := loop _ [.val (.scr ns), .no, .no, .own (ms0.map D.int)] hq ⟨ms0, .no, .no, rfl, nn0, len0, now_no, now_no⟩
  refine ⟨[.lst (ms.map D.int), .int 0, .int 0], ?_, ms, 0, 0, rfl, h1, by omega, by omega, by omega, by omega⟩
  unfold suCode
  have n3 : (none : Option Nat) ≠ some 3 := fun z => nomatch z
  have it : items .enum [.lst (((ns.drop 18).take 45).map D.int)] = some (enumD 0 (((ns.drop 18).take 45).map D.int)) := rfl
  have l3 : ∀ a b c : D, prim .lst [a, b, c] = .ok (.lst [a, b, c]) := fun _ _ _ => rfl
  have v3 : ∀ (x : D), valAt [.val (.scr ns), s1, s2, .val x] 3 = some x := fun x => by rw [v_s, v_s, v_s]; rfl
  simp only [b_ok, b_bad, b_ex, o_ok, o_bad, o_ex, s_nx, s_rt, s_bk, s_ct, s_bad, t_nx, t_ct, t_bk, t_rt, t_bad, e_c, e_v, e_g, e_pr, e_and, e_or, e_ite, and_bl, or_bl, ite_bl, a_nil, a_c, a_g, a_v, a_pr, a_and, a_or, a_ite, a_ch, a_call, a_lc, cons_ok, a_bw, a_io, v_0, v_s, w_0, w_v, w_n, w_s, rd_nil, rd_d, rd_b, r_nil, r_d, r_b, r_o, om_some, ix_0, ix_1, ix_2, l_nil, l_cons, x_asg, x_ret, x_ite, iteO_bl, x_stop, p_add_i, p_sub_i, p_neg_i, p_mul_i, p_fdiv_i, p_mod_i, p_ix_t, p_ix_l, p_lt_i, p_le_i, p_gt_i, p_ge_i, p_abs_i, p_not_b, p_len_t, p_len_l, p_tup0, p_tup1, p_tup2, p_tup3, p_lst0, p_lst1, p_lst2, p_eq_i, p_ne_i, prR, asgR, st_n, st_t, sm_nil, sm_cons, List.set_cons_zero, List.set_cons_succ, fls_iff, tru_iff, n_isSome, s_isSome, if_true, if_false, Bool.false_eq_true, Bool.true_eq_false, x_setI, setR_eq, x_app, x_for, x_par, parR, el_nil, el_cons, elc_ok, x_whl, x_retF, x_pop, e_lc, x_asgO _ _ n3, p1, l1, e0]
  simp only [b_ok, b_bad, b_ex, o_ok, o_bad, o_ex, s_nx, s_rt, s_bk, s_ct, s_bad, t_nx, t_ct, t_bk, t_rt, t_bad, e_c, e_v, e_g, e_pr, e_and, e_or, e_ite, and_bl, or_bl, ite_bl, a_nil, a_c, a_g, a_v, a_pr, a_and, a_or, a_ite, a_ch, a_call, a_lc, cons_ok, a_bw, a_io, v_0, v_s, w_0, w_v, w_n, w_s, rd_nil, rd_d, rd_b, r_nil, r_d, r_b, r_o, om_some, ix_0, ix_1, ix_2, l_nil, l_cons, x_asg, x_ret, x_ite, iteO_bl, x_stop, p_add_i, p_sub_i, p_neg_i, p_mul_i, p_fdiv_i, p_mod_i, p_ix_t, p_ix_l, p_lt_i, p_le_i, p_gt_i, p_ge_i, p_abs_i, p_not_b, p_len_t, p_len_l, p_tup0, p_tup1, p_tup2, p_tup3, p_lst0, p_lst1, p_lst2, p_eq_i, p_ne_i, prR, asgR, st_n, st_t, sm_nil, sm_cons, List.set_cons_zero, List.set_cons_succ, fls_iff, tru_iff, n_isSome, s_isSome, if_true, if_false, Bool.false_eq_true, Bool.true_eq_false, x_setI, setR_eq, x_app, x_for, x_par, parR, el_nil, el_cons, elc_ok, x_whl, x_retF, x_pop, e_lc, p2, forR_ok it, r1]
  simp only [b_ok, b_bad, b_ex, o_ok, o_bad, o_ex, s_nx, s_rt, s_bk, s_ct, s_bad, t_nx, t_ct, t_bk, t_rt, t_bad, e_c, e_v, e_g, e_pr, e_and, e_or, e_ite, and_bl, or_bl, ite_bl, a_nil, a_c, a_g, a_v, a_pr, a_and, a_or, a_ite, a_ch, a_call, a_lc, cons_ok, a_bw, a_io, v_0, v_s, w_0, w_v, w_n, w_s, rd_nil, rd_d, rd_b, r_nil, r_d, r_b, r_o, om_some, ix_0, ix_1, ix_2, l_nil, l_cons, x_asg, x_ret, x_ite, iteO_bl, x_stop, p_add_i, p_sub_i, p_neg_i, p_mul_i, p_fdiv_i, p_mod_i, p_ix_t, p_ix_l, p_lt_i, p_le_i, p_gt_i, p_ge_i, p_abs_i, p_not_b, p_len_t, p_len_l, p_tup0, p_tup1, p_tup2, p_tup3, p_lst0, p_lst1, p_lst2, p_eq_i, p_ne_i, prR, asgR, st_n, st_t, sm_nil, sm_cons, List.set_cons_zero, List.set_cons_succ, fls_iff, tru_iff, n_isSome, s_isSome, if_true, if_false, Bool.false_eq_true, Bool.true_eq_false, x_setI, setR_eq, x_app, x_for, x_par, parR, el_nil, el_cons, elc_ok, x_whl, x_retF, x_pop, e_lc, x_frz _ n3, v3, l3]
  rfl
end Vm
end
section
set_option Elab.async false
set_option linter.all false
set_option maxRecDepth 100000
namespace Vm
open PySem PySem.Spec L2
/-! ### polynomials of fractions -/
def frs (ps : List Rat) : List D := ps.map fr
def HtA (k : Nat) (ps : List Rat) : Prop := ∀ q ∈ ps, Ht k q
theorem HtA.mono {k m : Nat} {ps : List Rat} (h : HtA k ps) (hk : k ≤ m) : HtA m ps := fun q hq => (h q hq).mono hk
theorem frs_num {k n : Nat} : ∀ {ps : List Rat}, HtA k ps → k ≤ 1919 → D.numAll (n + 1) (frs ps) = true
  | [], _, _ => rfl
  | q :: ps, h, hk => by
    show ((fr q).num (n + 1) && D.numAll (n + 1) (frs ps)) = true
    rw [fr_num_ok (h q List.mem_cons_self) hk, frs_num (fun x hx => h x (List.mem_cons_of_mem _ hx)) hk]
    rfl
theorem frs_nodes : ∀ (ps : List Rat), D.nodesAll (frs ps) = 3 * ps.length
  | [] => rfl
  | q :: ps => by
    show (fr q).nodes + D.nodesAll (frs ps) = _
    rw [frs_nodes ps, fr_nodes, List.length_cons]
    omega
theorem frs_nol : ∀ (ps : List Rat), D.nolAll (frs ps) = true
  | [] => rfl
  | q :: ps => by
    show ((fr q).nol && D.nolAll (frs ps)) = true
    rw [frs_nol ps]
    rfl
theorem frs_len (ps : List Rat) : (frs ps).length = ps.length := List.length_map _
theorem frs_app (ps qs : List Rat) : frs (ps ++ qs) = frs ps ++ frs qs := List.map_append
theorem fr_eqv (a b : Rat) : (fr a).eqv (fr b) = decide (a = b) := by
  have e : (fr a).eqv (fr b) = (decide (a.num = b.num) && (decide ((a.den : Int) = b.den) && true)) := rfl
  rw [e, Bool.and_true]
  by_cases h : a = b
  · subst h
    simp
  · rw [decide_eq_false h]
    by_cases h1 : a.num = b.num
    · have h2 : ¬ (a.den : Int) = b.den := fun h2 => h (Rat.ext h1 (by omega))
      rw [decide_eq_false h2, Bool.and_false]
    · rw [decide_eq_false h1, Bool.false_and]
theorem fr_eq {k : Nat} {a b : Rat} (h : Ht k a) (g : Ht k b) (hk : k ≤ 1919) : prim .eq [fr a, fr b] = .ok (.bl (decide (a = b))) := by
  show (if (fr a).okEq && (fr b).okEq then R.ok (D.bl ((fr a).eqv (fr b))) else .bad) = _
  rw [eq_ok_num (fr_num_ok (n := 1) h hk) (by decide), eq_ok_num (fr_num_ok (n := 1) g hk) (by decide), fr_eqv]
  rfl
theorem ht_0 (k : Nat) (hk : 1 ≤ k) : Ht k 0 := Ht.mono (k := 1) ⟨by unfold Bd; decide, by unfold Bd; decide⟩ hk
theorem ht_1 (k : Nat) (hk : 1 ≤ k) : Ht k 1 := Ht.mono (k := 1) ⟨by unfold Bd; decide, by unfold Bd; decide⟩ hk
theorem tne_nil {k : Nat} {ps : List Rat} (h : HtA k ps) (hk : k ≤ 1919) : prim .ne [.tup (frs ps), .tup []] = .ok (.bl (!ps.isEmpty)) := by
  have ok : (D.tup (frs ps)).okEq = true := eq_ok_num (k := 3) (d := .tup (frs ps)) (frs_num (n := 1) h hk) (by decide)
  show (if (D.tup (frs ps)).okEq && (D.tup []).okEq then R.ok (D.bl (!(D.tup (frs ps)).eqv (.tup []))) else .bad) = _
  rw [ok]
  cases ps <;> rfl
theorem teq_nil {k : Nat} {ps : List Rat} (h : HtA k ps) (hk : k ≤ 1919) : prim .eq [.tup (frs ps), .tup []] = .ok (.bl ps.isEmpty) := by
  have ok : (D.tup (frs ps)).okEq = true := eq_ok_num (k := 3) (d := .tup (frs ps)) (frs_num (n := 1) h hk) (by decide)
  show (if (D.tup (frs ps)).okEq && (D.tup []).okEq then R.ok (D.bl ((D.tup (frs ps)).eqv (.tup []))) else .bad) = _
  rw [ok]
  cases ps <;> rfl
theorem lne_nil {k : Nat} {ps : List Rat} (h : HtA k ps) (hk : k ≤ 1919) : prim .ne [.lst (frs ps), .lst []] = .ok (.bl (!ps.isEmpty)) := by
  have ok : (D.lst (frs ps)).okEq = true := eq_ok_num (k := 3) (d := .lst (frs ps)) (frs_num (n := 1) h hk) (by decide)
  rw [ne_nil ok]
  cases ps <;> rfl
theorem ix_last {l : List D} {d : D} (h : l ≠ []) (e : l.getLast? = some d) : ixL l (-1) = .ok d := by
  have p := List.length_pos_iff.mpr h
  refine ix_at (j := l.length - 1) ?_ ?_
  · unfold ixN
    rw [if_neg (by decide)]
    rw [if_pos (by omega)]
    congr 1
    omega
  · rw [← List.getLast?_eq_getElem?]
    exact e
/-! zeros at the end go -/
def trimR : List Rat → List Rat
  | [] => []
  | q :: rs => if q = 0 then trimR rs else q :: rs
def trim (ps : List Rat) : List Rat := (trimR ps.reverse).reverse
theorem trimR_mem : ∀ {rs : List Rat} {q : Rat}, q ∈ trimR rs → q ∈ rs
  | [], _, h => h
  | r :: rs, q, h => by
    unfold trimR at h
    split at h
    · exact List.mem_cons_of_mem _ (trimR_mem h)
    · exact h
theorem trim_mem {ps : List Rat} {q : Rat} (h : q ∈ trim ps) : q ∈ ps := List.mem_reverse.mp (trimR_mem (List.mem_reverse.mp h))
theorem trimR_len : ∀ (rs : List Rat), (trimR rs).length ≤ rs.length
  | [] => Nat.le_refl _
  | r :: rs => by
    unfold trimR
    split
    · exact Nat.le_succ_of_le (trimR_len rs)
    · exact Nat.le_refl _
theorem trim_len (ps : List Rat) : (trim ps).length ≤ ps.length := by
  unfold trim
  rw [List.length_reverse]
  exact Nat.le_trans (trimR_len _) (by rw [List.length_reverse]; exact Nat.le_refl _)
theorem trim_ht {k : Nat} {ps : List Rat} (h : HtA k ps) : HtA k (trim ps) := fun q hq => h q (trim_mem hq)
theorem trim_zeros (ps : List Rat) : ∀ n : Nat, trim (ps ++ List.replicate n 0) = trim ps
  | 0 => by rw [List.replicate_zero, List.append_nil]
  | n + 1 => by
    rw [List.replicate_succ', ← List.append_assoc]
    have e : trim (ps ++ List.replicate n 0 ++ [0]) = trim (ps ++ List.replicate n 0) := by
      show (trimR (ps ++ List.replicate n 0 ++ [0]).reverse).reverse = (trimR (ps ++ List.replicate n 0).reverse).reverse
      rw [List.reverse_concat]
      rfl
    rw [e]
    exact trim_zeros ps n
theorem trimR_one {q : Rat} {rs : List Rat} (h : q ≠ 0) : trimR (q :: rs) = q :: rs := if_neg h
theorem trimR_fix : ∀ (rs : List Rat), trimR (trimR rs) = trimR rs
  | [] => rfl
  | r :: rs => by
    by_cases h : r = 0
    · rw [show trimR (r :: rs) = trimR rs from if_pos h]
      exact trimR_fix rs
    · rw [trimR_one h, trimR_one h]
theorem trim_fix (ps : List Rat) : trim (trim ps) = trim ps := by
  unfold trim
  rw [List.reverse_reverse, trimR_fix]
/-- a way to write zero -/
def Zr (T : Tab) (z : E) : Prop := (∀ n en, evE T (n + 2) z en = .ok (fr 0, en)) ∧ ∀ f es en, evArgs f (z :: es) en = (f z en).bind (consR (evArgs f es))
theorem zr_t (T : Tab) : Zr T (.pr .tup [.c (.int 0), .c (.int 1)]) := ⟨fun _ _ => rfl, fun _ _ _ => rfl⟩
theorem zr_g {T : Tab} {x : Str} (h : T.glob x = some (fr 0)) : Zr T (.g x) := ⟨fun n en => by rw [e_g, h], fun _ _ _ => rfl⟩
def trCode (z : E) : List S := [
  .asgO 1 (.pr .list [.v 0]),
  .whl (.and_ (.pr .ne [.bw 1, .pr .lst []]) (.pr .eq [.pr .ix [.bw 1, .pr .neg [.c (.int 1)]], z])) [.pop 1],
  .ret (.pr .tuple [.bw 1])]
def trDef (nm : Str) (z : E) : Fd := ⟨nm, 1, 2, none, false, 40, trCode z, []⟩
def firstZ : List Rat → Bool
  | [] => false
  | q :: _ => decide (q = 0)
theorem trim_loop {test : En → R (D × En)} {body : En → O} {mk : List Rat → En} {k : Nat} (ht : ∀ rs, HtA k rs.reverse → test (mk rs.reverse) = .ok (.bl (firstZ rs), mk rs.reverse)) (hb : ∀ q rs, body (mk (q :: rs).reverse) = .nx (mk rs.reverse)) :
    ∀ (K : Nat) (rs : List Rat), HtA k rs.reverse → rs.length < K → loopW test body K (mk rs.reverse) = .nx (mk (trimR rs).reverse)
  | 0, _, _, h => absurd h (Nat.not_lt_zero _)
  | K + 1, [], g, h => by
    show ((test (mk _)).o _) = _
    rw [ht [] g]
    rfl
  | K + 1, q :: rs, g, h => by
    show ((test (mk _)).o _) = _
    rw [ht _ g]
    by_cases z : q = 0
    · show ((R.ok (D.bl (decide (q = 0)), mk (q :: rs).reverse)).o _) = _
      rw [decide_eq_true z]
      show (body (mk (q :: rs).reverse)).turn (loopW test body K) = _
      rw [hb]
      have e : trimR (q :: rs) = trimR rs := if_pos z
      rw [e]
      exact trim_loop ht hb K rs (fun x hx => g x (by rw [List.reverse_cons]; exact List.mem_append_left _ hx)) (by rw [List.length_cons] at h; omega)
    · show ((R.ok (D.bl (decide (q = 0)), mk (q :: rs).reverse)).o _) = _
      rw [decide_eq_false z]
      have e : trimR (q :: rs) = q :: rs := if_neg z
      rw [e]
      rfl
theorem tr_run {T : Tab} {nm : Str} {z : E} {k : Nat} {ps : List Rat} {d : D} (zr : Zr T z) (hd : d = .tup (frs ps) ∨ d = .lst (frs ps)) (h : HtA k ps) (k1 : 1 ≤ k) (hk : k ≤ 1919) (hl : ps.length < 100000) : runFd T big (trDef nm z) [.val d] = .ok (.tup (frs (trim ps)), none) := by
  have e0 : prim .list [d] = .ok (.lst (frs ps)) := by
    rcases hd with rfl | rfl <;> rfl
  have n1 : (none : Option Nat) ≠ some 1 := fun z => nomatch z
  have tl : ∀ l : List D, prim .tuple [.lst l] = .ok (.tup l) := fun _ => rfl
  have t1 : ∀ rs : List Rat, HtA k rs.reverse → evE T 39 (.and_ (.pr .ne [.bw 1, .pr .lst []]) (.pr .eq [.pr .ix [.bw 1, .pr .neg [.c (.int 1)]], z])) [.val d, .own (frs rs.reverse)] = .ok (.bl (firstZ rs), [.val d, .own (frs rs.reverse)]) := by
    intro rs g
    have ne := lne_nil g hk
    cases rs with
    | nil =>
      have g0 : (!([] : List Rat).reverse.isEmpty) = false := rfl
      rw [g0] at ne
      simp only [b_ok, b_bad, b_ex, o_ok, o_bad, o_ex, s_nx, s_rt, s_bk, s_ct, s_bad, t_nx, t_ct, t_bk, t_rt, t_bad, e_c, e_v, e_g, e_pr, e_and, e_or, e_ite, and_bl, or_bl, ite_bl, a_nil, a_c, a_g, a_v, a_pr, a_and, a_or, a_ite, a_ch, a_call, a_lc, cons_ok, a_bw, a_io, v_0, v_s, w_0, w_v, w_n, w_s, rd_nil, rd_d, rd_b, r_nil, r_d, r_b, r_o, om_some, ix_0, ix_1, ix_2, l_nil, l_cons, x_asg, x_ret, x_ite, iteO_bl, x_stop, p_add_i, p_sub_i, p_neg_i, p_mul_i, p_fdiv_i, p_mod_i, p_ix_t, p_ix_l, p_lt_i, p_le_i, p_gt_i, p_ge_i, p_abs_i, p_not_b, p_len_t, p_len_l, p_tup0, p_tup1, p_tup2, p_tup3, p_lst0, p_lst1, p_lst2, p_eq_i, p_ne_i, prR, asgR, st_n, st_t, sm_nil, sm_cons, List.set_cons_zero, List.set_cons_succ, fls_iff, tru_iff, n_isSome, s_isSome, if_true, if_false, Bool.false_eq_true, Bool.true_eq_false, x_setI, setR_eq, x_app, x_for, x_par, parR, el_nil, el_cons, elc_ok, x_whl, x_retF, x_pop, e_lc, ne]
      rfl
    | cons q rs =>
      have ie : ((q :: rs).reverse).isEmpty = false := by rw [List.reverse_cons]; cases rs.reverse <;> rfl
      rw [ie] at ne
      have ix : ixL (frs (q :: rs).reverse) (-1) = .ok (fr q) := by
        refine ix_last ?_ ?_
        · rw [List.reverse_cons, frs_app]
          simp [frs]
        · rw [List.reverse_cons, frs_app]
          simp [frs]
      have fe : prim .eq [fr q, fr 0] = .ok (.bl (decide (q = 0))) := fr_eq (g q (by simp)) (ht_0 k k1) hk
      have nt : (!false) = true := rfl
      simp only [b_ok, b_bad, b_ex, o_ok, o_bad, o_ex, s_nx, s_rt, s_bk, s_ct, s_bad, t_nx, t_ct, t_bk, t_rt, t_bad, e_c, e_v, e_g, e_pr, e_and, e_or, e_ite, and_bl, or_bl, ite_bl, a_nil, a_c, a_g, a_v, a_pr, a_and, a_or, a_ite, a_ch, a_call, a_lc, cons_ok, a_bw, a_io, v_0, v_s, w_0, w_v, w_n, w_s, rd_nil, rd_d, rd_b, r_nil, r_d, r_b, r_o, om_some, ix_0, ix_1, ix_2, l_nil, l_cons, x_asg, x_ret, x_ite, iteO_bl, x_stop, p_add_i, p_sub_i, p_neg_i, p_mul_i, p_fdiv_i, p_mod_i, p_ix_t, p_ix_l, p_lt_i, p_le_i, p_gt_i, p_ge_i, p_abs_i, p_not_b, p_len_t, p_len_l, p_tup0, p_tup1, p_tup2, p_tup3, p_lst0, p_lst1, p_lst2, p_eq_i, p_ne_i, prR, asgR, st_n, st_t, sm_nil, sm_cons, List.set_cons_zero, List.set_cons_succ, fls_iff, tru_iff, n_isSome, s_isSome, if_true, if_false, Bool.false_eq_true, Bool.true_eq_false, x_setI, setR_eq, x_app, x_for, x_par, parR, el_nil, el_cons, elc_ok, x_whl, x_retF, x_pop, e_lc, ne, ix, zr.2, zr.1, fe, nt]
      rfl
  have t2 : ∀ (q : Rat) (rs : List Rat), runL (exS T big none false 39) [.pop 1] [.val d, .own (frs (q :: rs).reverse)] = .nx [.val d, .own (frs rs.reverse)] := by
    intro q rs
    have e : frs (q :: rs).reverse = frs rs.reverse ++ [fr q] := by rw [List.reverse_cons, frs_app]; rfl
    have nn : ¬ (frs rs.reverse ++ [fr q] = []) := by simp
    rw [e]
    simp only [b_ok, b_bad, b_ex, o_ok, o_bad, o_ex, s_nx, s_rt, s_bk, s_ct, s_bad, t_nx, t_ct, t_bk, t_rt, t_bad, e_c, e_v, e_g, e_pr, e_and, e_or, e_ite, and_bl, or_bl, ite_bl, a_nil, a_c, a_g, a_v, a_pr, a_and, a_or, a_ite, a_ch, a_call, a_lc, cons_ok, a_bw, a_io, v_0, v_s, w_0, w_v, w_n, w_s, rd_nil, rd_d, rd_b, r_nil, r_d, r_b, r_o, om_some, ix_0, ix_1, ix_2, l_nil, l_cons, x_asg, x_ret, x_ite, iteO_bl, x_stop, p_add_i, p_sub_i, p_neg_i, p_mul_i, p_fdiv_i, p_mod_i, p_ix_t, p_ix_l, p_lt_i, p_le_i, p_gt_i, p_ge_i, p_abs_i, p_not_b, p_len_t, p_len_l, p_tup0, p_tup1, p_tup2, p_tup3, p_lst0, p_lst1, p_lst2, p_eq_i, p_ne_i, prR, asgR, st_n, st_t, sm_nil, sm_cons, List.set_cons_zero, List.set_cons_succ, fls_iff, tru_iff, n_isSome, s_isSome, if_true, if_false, Bool.false_eq_true, Bool.true_eq_false, x_setI, setR_eq, x_app, x_for, x_par, parR, el_nil, el_cons, elc_ok, x_whl, x_retF, x_pop, e_lc, nn, List.dropLast_concat]
  have hr : HtA k ps.reverse.reverse := by rw [List.reverse_reverse]; exact h
  have hb : ps.reverse.length < big := by
    rw [List.length_reverse]
    exact big_gt (k := 17) (by omega) (by omega)
  have loop := trim_loop (mk := fun ps => [.val d, .own (frs ps)]) t1 t2 big ps.reverse hr hb
  rw [List.reverse_reverse] at loop
  show endOf none false (runL (exS T big none false 40) (trCode z) [.val d, .no]) = _
  unfold trCode
  simp only [b_ok, b_bad, b_ex, o_ok, o_bad, o_ex, s_nx, s_rt, s_bk, s_ct, s_bad, t_nx, t_ct, t_bk, t_rt, t_bad, e_c, e_v, e_g, e_pr, e_and, e_or, e_ite, and_bl, or_bl, ite_bl, a_nil, a_c, a_g, a_v, a_pr, a_and, a_or, a_ite, a_ch, a_call, a_lc, cons_ok, a_bw, a_io, v_0, v_s, w_0, w_v, w_n, w_s, rd_nil, rd_d, rd_b, r_nil, r_d, r_b, r_o, om_some, ix_0, ix_1, ix_2, l_nil, l_cons, x_asg, x_ret, x_ite, iteO_bl, x_stop, p_add_i, p_sub_i, p_neg_i, p_mul_i, p_fdiv_i, p_mod_i, p_ix_t, p_ix_l, p_lt_i, p_le_i, p_gt_i, p_ge_i, p_abs_i, p_not_b, p_len_t, p_len_l, p_tup0, p_tup1, p_tup2, p_tup3, p_lst0, p_lst1, p_lst2, p_eq_i, p_ne_i, prR, asgR, st_n, st_t, sm_nil, sm_cons, List.set_cons_zero, List.set_cons_succ, fls_iff, tru_iff, n_isSome, s_isSome, if_true, if_false, Bool.false_eq_true, Bool.true_eq_false, x_setI, setR_eq, x_app, x_for, x_par, parR, el_nil, el_cons, elc_ok, x_whl, x_retF, x_pop, e_lc, x_asgO _ _ n1, e0, loop, tl]
  rfl
end Vm
end
section
set_option Elab.async false
set_option linter.all false
set_option maxRecDepth 100000
namespace Vm
open PySem PySem.Spec L2
def Ad (T : Tab) (y : Str) : Prop := T.has y = true ∧ ∀ {k : Nat} {a b : Rat}, Ht k a → Ht k b → k < 4000 → T.call y [.val (fr a), .val (fr b)] = .ok (fr (a + b), none)
def Mu (T : Tab) (y : Str) : Prop := T.has y = true ∧ ∀ {k : Nat} {a b : Rat}, Ht k a → Ht k b → k < 4000 → T.call y [.val (fr a), .val (fr b)] = .ok (fr (a * b), none)
def Dv (T : Tab) (y : Str) : Prop := T.has y = true ∧ ∀ {k : Nat} {a b : Rat}, b ≠ 0 → Ht k a → Ht k b → k < 4000 → T.call y [.val (fr a), .val (fr b)] = .ok (fr (a / b), none)
def Tr (T : Tab) (y : Str) : Prop := T.has y = true ∧ ∀ {k : Nat} {ps : List Rat} {d : D}, (d = .tup (frs ps) ∨ d = .lst (frs ps)) → HtA k ps → 1 ≤ k → k ≤ 1919 → ps.length < 100000 → T.call y [.val d] = .ok (.tup (frs (trim ps)), none)
theorem ad_cr {T : Tab} {y : Str} {k : Nat} {a b : Rat} {en : En} (m : Ad T y) (h : Ht k a) (g : Ht k b) (hk : k < 4000) : callR T y [] ([.d (fr a), .d (fr b)], en) = .ok (fr (a + b), en) := cr_ok rfl rfl rfl (m.2 h g hk) rfl
theorem mu_cr {T : Tab} {y : Str} {k : Nat} {a b : Rat} {en : En} (m : Mu T y) (h : Ht k a) (g : Ht k b) (hk : k < 4000) : callR T y [] ([.d (fr a), .d (fr b)], en) = .ok (fr (a * b), en) := cr_ok rfl rfl rfl (m.2 h g hk) rfl
theorem dv_cr {T : Tab} {y : Str} {k : Nat} {a b : Rat} {en : En} (m : Dv T y) (hb : b ≠ 0) (h : Ht k a) (g : Ht k b) (hk : k < 4000) : callR T y [] ([.d (fr a), .d (fr b)], en) = .ok (fr (a / b), en) := cr_ok rfl rfl rfl (m.2 hb h g hk) rfl
theorem tr_cr {T : Tab} {y : Str} {k : Nat} {ps : List Rat} {en : En} (m : Tr T y) (h : HtA k ps) (k1 : 1 ≤ k) (hk : k ≤ 1919) (hl : ps.length < 100000) : callR T y [] ([.d (.lst (frs ps))], en) = .ok (.tup (frs (trim ps)), en) := cr_ok rfl rfl rfl (m.2 (.inr rfl) h k1 hk hl) rfl
theorem tr_crT {T : Tab} {y : Str} {k : Nat} {ps : List Rat} {en : En} (m : Tr T y) (h : HtA k ps) (k1 : 1 ≤ k) (hk : k ≤ 1919) (hl : ps.length < 100000) : callR T y [] ([.d (.tup (frs ps))], en) = .ok (.tup (frs (trim ps)), en) := cr_ok rfl rfl rfl (m.2 (.inl rfl) h k1 hk hl) rfl
theorem tr_crB {T : Tab} {y : Str} {k i : Nat} {ps : List Rat} {en : En} (m : Tr T y) (o : ownAt en i = some (frs ps)) (h : HtA k ps) (k1 : 1 ≤ k) (hk : k ≤ 1919) (hl : ps.length < 100000) : callR T y [] ([.b i], en) = .ok (.tup (frs (trim ps)), en) := by
  refine cr_ok (ss := [.val (.lst (frs ps))]) rfl rfl ?_ (m.2 (.inr rfl) h k1 hk hl) ?_
  · rw [r_b, o]
    rfl
  · show (!true || ((D.nolAll (frs (trim ps)) || _) && true)) = true
    rw [frs_nol]
    rfl
/-- a comprehension over the images of things -/
theorem lc_mapU {U : Type} {elt : En → R (D × En)} {tg : Tg} {vs : List Nat} {h g : U → D} {en : En} : ∀ (us : List U), (∀ u ∈ us, ∃ en1 en2, setTg tg (h u) en = some en1 ∧ elt en1 = .ok (g u, en2) ∧ wipeE en2 vs = en) → lcGo (fun en => .ok (.bl true, en)) elt tg vs (us.map h) en = .ok (us.map g, en)
  | [], _ => rfl
  | u :: us, H => by
    obtain ⟨en1, en2, h1, h2, h3⟩ := H u List.mem_cons_self
    rw [List.map_cons, lc_one h1 h2, h3, lc_mapU us fun x hx => H x (List.mem_cons_of_mem _ hx)]
    rfl
theorem lcR_mapU {U : Type} {T : Tab} {n : Nat} {en : En} {elt : E} {tg : Tg} {k : Ik} {vs : List Nat} {ls : List D} {us : List U} {h g : U → D} (hi : items k ls = some (us.map h)) (h2 : noOwn en vs = true) (h3 : us.length ≤ lineN) (h4 : ∀ u ∈ us, ∃ en1 en2, setTg tg (h u) (wipeE en vs) = some en1 ∧ evE T n elt en1 = .ok (g u, en2) ∧ wipeE en2 vs = wipeE en vs) :
    lcR T n elt tg k none vs (ls, en) = .ok (.lst (us.map g), restE en vs (wipeE en vs)) := lcR_ok hi h2 (by rw [List.length_map]; exact h3) (lc_mapU us h4)
/-! sums -/
structure Wr (mk w : Pr) (C : List D → D) : Prop where
  h1 : ∀ l, prim mk [.tup l] = .ok (C l)
  h2 : ∀ d, prim w [d] = .ok (C [d])
  h3 : ∀ d (k : Nat), k ≤ 1000 → prim .mul [C [d], .int k] = .ok (C (List.replicate k d))
  h4 : ∀ a b, a.length + b.length ≤ lineN → prim .add [C a, C b] = .ok (C (a ++ b))
  h5 : ∀ a b, items .zip [C a, C b] = some (zipD a b)
theorem flat_one (d : D) : ∀ k : Nat, (List.replicate k [d]).flatten = List.replicate k d
  | 0 => rfl
  | k + 1 => by
    rw [List.replicate_succ, List.replicate_succ, List.flatten_cons, flat_one d k]
    rfl
theorem wr_t : Wr .tuple .tup .tup where
  h1 _ := rfl
  h2 _ := rfl
  h3 d k h := by
    show (if !([d] : List D).isEmpty && decide ((k : Int) ≤ 1000) && decide ([d].length ≤ 1000) && decide (-1000000 < (k : Int)) then R.ok (D.tup (List.replicate (k : Int).toNat [d]).flatten) else .bad) = _
    rw [decide_eq_true (show (k : Int) ≤ 1000 by omega), decide_eq_true (show -1000000 < (k : Int) by omega), Int.toNat_natCast, flat_one]
    rfl
  h4 a b h := if_pos h
  h5 _ _ := rfl
theorem wr_l : Wr .list .lst .lst where
  h1 _ := rfl
  h2 _ := rfl
  h3 d k h := by
    show (if decide ((k : Int) < 1000000) && decide ([d].length * (k : Int).toNat ≤ lineN) && decide (-1000000 < (k : Int)) then R.ok (D.lst (List.replicate (k : Int).toNat [d]).flatten) else .bad) = _
    rw [decide_eq_true (show (k : Int) < 1000000 by omega), decide_eq_true (show -1000000 < (k : Int) by omega), Int.toNat_natCast, flat_one, decide_eq_true (show [d].length * k ≤ lineN by rw [List.length_singleton]; unfold lineN; omega)]
    rfl
  h4 a b h := if_pos h
  h5 _ _ := rfl
def pad (m : Nat) (ps : List Rat) : List Rat := ps ++ List.replicate (m - ps.length) 0
theorem pad_len {m : Nat} {ps : List Rat} (h : ps.length ≤ m) : (pad m ps).length = m := by
  unfold pad
  rw [List.length_append, List.length_replicate]
  omega
theorem pad_ht {k m : Nat} {ps : List Rat} (h : HtA k ps) (k1 : 1 ≤ k) : HtA k (pad m ps) := fun q hq => by
  rcases List.mem_append.mp hq with h1 | h1
  · exact h q h1
  · rw [(List.mem_replicate.mp h1).2]
    exact ht_0 k k1
def padd (ps qs : List Rat) : List Rat := ((pad (max ps.length qs.length) ps).zip (pad (max ps.length qs.length) qs)).map fun u => u.1 + u.2
theorem zipD_frs : ∀ (a b : List Rat), zipD (frs a) (frs b) = (a.zip b).map fun u => .tup [fr u.1, fr u.2]
  | [], b => by cases b <;> rfl
  | _ :: _, [] => rfl
  | x :: a, y :: b => by
    show .tup [fr x, fr y] :: zipD (frs a) (frs b) = _
    rw [zipD_frs a b]
    rfl
theorem padd_ht {k : Nat} {ps qs : List Rat} (h : HtA k ps) (g : HtA k qs) (k1 : 1 ≤ k) : HtA (k + k + 1) (padd ps qs) := fun q hq => by
  obtain ⟨u, hu, rfl⟩ := List.mem_map.mp hq
  have := List.of_mem_zip hu
  exact (pad_ht h k1 _ this.1).add (pad_ht g k1 _ this.2)
theorem padd_len (ps qs : List Rat) : (padd ps qs).length = max ps.length qs.length := by
  unfold padd
  rw [List.length_map, List.length_zip, pad_len (by omega), pad_len (by omega)]
  omega
def sumCode (z : E) (mk w : Pr) (ad tr : Str) : List S := [
  .asg (.n 5) (.pr .max2 [.pr .len [.v 0], .pr .len [.v 1]]),
  .asg (.n 4) (.lc (.pr .add [.pr mk [.v 2], .pr .mul [.pr w [z], .pr .sub [.v 5, .pr .len [.v 2]]]]) (.n 2) .seq [.pr .tup [.v 0, .v 1]] none [2]),
  .ret (.call tr [.lc (.call ad [.v 2, .v 3] []) (.t [2, 3]) .zip [.pr .ix [.v 4, .c (.int 0)], .pr .ix [.v 4, .c (.int 1)]] none [2, 3]] [])]
def sumDef (nm : Str) (z : E) (mk w : Pr) (ad tr : Str) : Fd := ⟨nm, 2, 6, none, false, 40, sumCode z mk w ad tr, []⟩
theorem sum_run {T : Tab} {nm : Str} {z : E} {mk w : Pr} {C : List D → D} {ad tr : Str} {k : Nat} {ps qs : List Rat} (zr : Zr T z) (wr : Wr mk w C) (a : Ad T ad) (t : Tr T tr) (h : HtA k ps) (g : HtA k qs) (k1 : 1 ≤ k) (hk : k ≤ 900) (hp : ps.length ≤ 1000) (hq : qs.length ≤ 1000) :
    runFd T big (sumDef nm z mk w ad tr) [.val (.tup (frs ps)), .val (.tup (frs qs))] = .ok (.tup (frs (trim (padd ps qs))), none) := by
  let m := max ps.length qs.length
  have em : (if ((frs qs).length : Int) > ((frs ps).length : Int) then ((frs qs).length : Int) else ((frs ps).length : Int)) = (m : Int) := by
    rw [frs_len, frs_len]
    show _ = ((max ps.length qs.length : Nat) : Int)
    split <;> omega
  have mx : prim .max2 [.int (frs ps).length, .int (frs qs).length] = .ok (.int m) := by
    rw [← em]
    rfl
  have l1 : lcR T 38 (.pr .add [.pr mk [.v 2], .pr .mul [.pr w [z], .pr .sub [.v 5, .pr .len [.v 2]]]]) (.n 2) .seq none [2] ([.tup [.tup (frs ps), .tup (frs qs)]], [.val (.tup (frs ps)), .val (.tup (frs qs)), .no, .no, .no, .val (.int m)]) = .ok (.lst ([ps, qs].map fun rs => C (frs (pad m rs))), [.val (.tup (frs ps)), .val (.tup (frs qs)), .no, .no, .no, .val (.int m)]) := by
    refine lcR_mapU (n := 38) (en := [.val (.tup (frs ps)), .val (.tup (frs qs)), .no, .no, .no, .val (.int m)]) (us := [ps, qs]) (h := fun rs => .tup (frs rs)) (g := fun rs => C (frs (pad m rs))) rfl rfl (by show 2 ≤ lineN; unfold lineN; omega) fun rs hr => ?_
    have hl : rs.length ≤ m := by
      simp only [List.mem_cons, List.not_mem_nil, or_false] at hr
      show rs.length ≤ max ps.length qs.length
      rcases hr with rfl | rfl <;> omega
    have hm : m ≤ 1000 := by
      show max ps.length qs.length ≤ 1000
      omega
    refine ⟨[.val (.tup (frs ps)), .val (.tup (frs qs)), .val (.tup (frs rs)), .no, .no, .val (.int m)], [.val (.tup (frs ps)), .val (.tup (frs qs)), .val (.tup (frs rs)), .no, .no, .val (.int m)], rfl, ?_, rfl⟩
    have e1 : (m : Int) - ((frs rs).length : Int) = ((m - rs.length : Nat) : Int) := by rw [frs_len]; omega
    have e2 : frs rs ++ List.replicate (m - rs.length) (fr 0) = frs (pad m rs) := by
      unfold pad
      rw [frs_app]
      unfold frs
      rw [List.map_replicate]
    have e3 := wr.h3 (fr 0) (m - rs.length) (by omega)
    have e4 := wr.h4 (frs rs) (List.replicate (m - rs.length) (fr 0)) (by rw [frs_len, List.length_replicate]; unfold lineN; omega)
    rw [e2] at e4
    simp only [b_ok, b_bad, b_ex, o_ok, o_bad, o_ex, s_nx, s_rt, s_bk, s_ct, s_bad, t_nx, t_ct, t_bk, t_rt, t_bad, e_c, e_v, e_g, e_pr, e_and, e_or, e_ite, and_bl, or_bl, ite_bl, a_nil, a_c, a_g, a_v, a_pr, a_and, a_or, a_ite, a_ch, a_call, a_lc, cons_ok, a_bw, a_io, v_0, v_s, w_0, w_v, w_n, w_s, rd_nil, rd_d, rd_b, r_nil, r_d, r_b, r_o, om_some, ix_0, ix_1, ix_2, l_nil, l_cons, x_asg, x_ret, x_ite, iteO_bl, x_stop, p_add_i, p_sub_i, p_neg_i, p_mul_i, p_fdiv_i, p_mod_i, p_ix_t, p_ix_l, p_lt_i, p_le_i, p_gt_i, p_ge_i, p_abs_i, p_not_b, p_len_t, p_len_l, p_tup0, p_tup1, p_tup2, p_tup3, p_lst0, p_lst1, p_lst2, p_eq_i, p_ne_i, prR, asgR, st_n, st_t, sm_nil, sm_cons, List.set_cons_zero, List.set_cons_succ, fls_iff, tru_iff, n_isSome, s_isSome, if_true, if_false, Bool.false_eq_true, Bool.true_eq_false, x_setI, setR_eq, x_app, x_for, x_par, parR, el_nil, el_cons, elc_ok, x_whl, x_retF, x_pop, e_lc, zr.1, zr.2, wr.h1, wr.h2, e1, e3, e4]
  have i2 : items .zip [C (frs (pad m ps)), C (frs (pad m qs))] = some (((pad m ps).zip (pad m qs)).map fun u => .tup [fr u.1, fr u.2]) := by rw [wr.h5, zipD_frs]
  have l2 : ∀ pd : D, lcR T 37 (.call ad [.v 2, .v 3] []) (.t [2, 3]) .zip none [2, 3] ([C (frs (pad m ps)), C (frs (pad m qs))], [.val (.tup (frs ps)), .val (.tup (frs qs)), .no, .no, .val pd, .val (.int m)]) = .ok (.lst (frs (padd ps qs)), [.val (.tup (frs ps)), .val (.tup (frs qs)), .no, .no, .val pd, .val (.int m)]) := by
    intro pd
    have e : frs (padd ps qs) = ((pad m ps).zip (pad m qs)).map fun u => fr (u.1 + u.2) := by
      unfold frs padd
      rw [List.map_map]
      rfl
    rw [e]
    refine lcR_mapU (n := 37) (en := [.val (.tup (frs ps)), .val (.tup (frs qs)), .no, .no, .val pd, .val (.int m)]) (us := (pad m ps).zip (pad m qs)) (h := fun u => .tup [fr u.1, fr u.2]) (g := fun u => fr (u.1 + u.2)) i2 rfl ?_ fun u hu => ?_
    · have := padd_len ps qs
      unfold padd at this
      rw [List.length_map] at this
      show ((pad (max ps.length qs.length) ps).zip (pad (max ps.length qs.length) qs)).length ≤ lineN
      rw [this]
      unfold lineN
      omega
    · have z := List.of_mem_zip hu
      refine ⟨[.val (.tup (frs ps)), .val (.tup (frs qs)), .val (fr u.1), .val (fr u.2), .val pd, .val (.int m)], [.val (.tup (frs ps)), .val (.tup (frs qs)), .val (fr u.1), .val (fr u.2), .val pd, .val (.int m)], rfl, ?_, rfl⟩
      have c := fun en => ad_cr (en := en) a (pad_ht h k1 _ z.1) (pad_ht g k1 _ z.2) (by omega)
      simp only [b_ok, b_bad, b_ex, o_ok, o_bad, o_ex, s_nx, s_rt, s_bk, s_ct, s_bad, t_nx, t_ct, t_bk, t_rt, t_bad, e_c, e_v, e_g, e_pr, e_and, e_or, e_ite, and_bl, or_bl, ite_bl, a_nil, a_c, a_g, a_v, a_pr, a_and, a_or, a_ite, a_ch, a_call, a_lc, cons_ok, a_bw, a_io, v_0, v_s, w_0, w_v, w_n, w_s, rd_nil, rd_d, rd_b, r_nil, r_d, r_b, r_o, om_some, ix_0, ix_1, ix_2, l_nil, l_cons, x_asg, x_ret, x_ite, iteO_bl, x_stop, p_add_i, p_sub_i, p_neg_i, p_mul_i, p_fdiv_i, p_mod_i, p_ix_t, p_ix_l, p_lt_i, p_le_i, p_gt_i, p_ge_i, p_abs_i, p_not_b, p_len_t, p_len_l, p_tup0, p_tup1, p_tup2, p_tup3, p_lst0, p_lst1, p_lst2, p_eq_i, p_ne_i, prR, asgR, st_n, st_t, sm_nil, sm_cons, List.set_cons_zero, List.set_cons_succ, fls_iff, tru_iff, n_isSome, s_isSome, if_true, if_false, Bool.false_eq_true, Bool.true_eq_false, x_setI, setR_eq, x_app, x_for, x_par, parR, el_nil, el_cons, elc_ok, x_whl, x_retF, x_pop, e_lc, e_call _ _ _ a.1, c]
  have c3 := fun en => tr_cr (en := en) t (padd_ht h g k1) (by omega) (by omega) (by rw [padd_len]; omega)
  show endOf none false (runL (exS T big none false 40) (sumCode z mk w ad tr) [.val (.tup (frs ps)), .val (.tup (frs qs)), .no, .no, .no, .no]) = _
  unfold sumCode
  simp only [b_ok, b_bad, b_ex, o_ok, o_bad, o_ex, s_nx, s_rt, s_bk, s_ct, s_bad, t_nx, t_ct, t_bk, t_rt, t_bad, e_c, e_v, e_g, e_pr, e_and, e_or, e_ite, and_bl, or_bl, ite_bl, a_nil, a_c, a_g, a_v, a_pr, a_and, a_or, a_ite, a_ch, a_call, a_lc, cons_ok, a_bw, a_io, v_0, v_s, w_0, w_v, w_n, w_s, rd_nil, rd_d, rd_b, r_nil, r_d, r_b, r_o, om_some, ix_0, ix_1, ix_2, l_nil, l_cons, x_asg, x_ret, x_ite, iteO_bl, x_stop, p_add_i, p_sub_i, p_neg_i, p_mul_i, p_fdiv_i, p_mod_i, p_ix_t, p_ix_l, p_lt_i, p_le_i, p_gt_i, p_ge_i, p_abs_i, p_not_b, p_len_t, p_len_l, p_tup0, p_tup1, p_tup2, p_tup3, p_lst0, p_lst1, p_lst2, p_eq_i, p_ne_i, prR, asgR, st_n, st_t, sm_nil, sm_cons, List.set_cons_zero, List.set_cons_succ, fls_iff, tru_iff, n_isSome, s_isSome, if_true, if_false, Bool.false_eq_true, Bool.true_eq_false, x_setI, setR_eq, x_app, x_for, x_par, parR, el_nil, el_cons, elc_ok, x_whl, x_retF, x_pop, e_lc, mx, l1, List.map_cons, List.map_nil, l2, e_call _ _ _ t.1, c3]
  rfl
end Vm
end
section
set_option Elab.async false
set_option linter.all false
set_option maxRecDepth 100000
namespace Vm
open PySem PySem.Spec L2
/-! scaled -/
def scCode (mu tr : Str) : List S := [.ret (.call tr [.lc (.call mu [.v 2, .v 1] []) (.n 2) .seq [.v 0] none [2]] [])]
def scDef (mu tr : Str) : Fd := ⟨"scaled", 2, 3, none, false, 40, scCode mu tr, []⟩
def scl (c : Rat) (ps : List Rat) : List Rat := ps.map fun q => q * c
theorem scl_ht {k m : Nat} {c : Rat} {ps : List Rat} (h : HtA k ps) (g : Ht m c) : HtA (k + m) (scl c ps) := fun q hq => by
  obtain ⟨x, hx, rfl⟩ := List.mem_map.mp hq
  exact (h x hx).mul g
theorem sc_run {T : Tab} {mu tr : Str} {k : Nat} {c : Rat} {ps : List Rat} (m : Mu T mu) (t : Tr T tr) (h : HtA k ps) (g : Ht k c) (k1 : 1 ≤ k) (hk : k ≤ 900) (hp : ps.length ≤ 1000) :
    runFd T big (scDef mu tr) [.val (.tup (frs ps)), .val (fr c)] = .ok (.tup (frs (trim (scl c ps))), none) := by
  have l2 : lcR T 37 (.call mu [.v 2, .v 1] []) (.n 2) .seq none [2] ([.tup (frs ps)], [.val (.tup (frs ps)), .val (fr c), .no]) = .ok (.lst (frs (scl c ps)), [.val (.tup (frs ps)), .val (fr c), .no]) := by
    have e : frs (scl c ps) = ps.map fun q => fr (q * c) := by
      unfold frs scl
      rw [List.map_map]
      rfl
    rw [e]
    refine lcR_mapU (n := 37) (en := [.val (.tup (frs ps)), .val (fr c), .no]) (us := ps) (h := fr) (g := fun q => fr (q * c)) rfl rfl (by unfold lineN; omega) fun q hq => ?_
    refine ⟨[.val (.tup (frs ps)), .val (fr c), .val (fr q)], [.val (.tup (frs ps)), .val (fr c), .val (fr q)], rfl, ?_, rfl⟩
    have c := fun en => mu_cr (en := en) m (h q hq) g (by omega)
    simp only [b_ok, b_bad, b_ex, o_ok, o_bad, o_ex, s_nx, s_rt, s_bk, s_ct, s_bad, t_nx, t_ct, t_bk, t_rt, t_bad, e_c, e_v, e_g, e_pr, e_and, e_or, e_ite, and_bl, or_bl, ite_bl, a_nil, a_c, a_g, a_v, a_pr, a_and, a_or, a_ite, a_ch, a_call, a_lc, cons_ok, a_bw, a_io, v_0, v_s, w_0, w_v, w_n, w_s, rd_nil, rd_d, rd_b, r_nil, r_d, r_b, r_o, om_some, ix_0, ix_1, ix_2, l_nil, l_cons, x_asg, x_ret, x_ite, iteO_bl, x_stop, p_add_i, p_sub_i, p_neg_i, p_mul_i, p_fdiv_i, p_mod_i, p_ix_t, p_ix_l, p_lt_i, p_le_i, p_gt_i, p_ge_i, p_abs_i, p_not_b, p_len_t, p_len_l, p_tup0, p_tup1, p_tup2, p_tup3, p_lst0, p_lst1, p_lst2, p_eq_i, p_ne_i, prR, asgR, st_n, st_t, sm_nil, sm_cons, List.set_cons_zero, List.set_cons_succ, fls_iff, tru_iff, n_isSome, s_isSome, if_true, if_false, Bool.false_eq_true, Bool.true_eq_false, x_setI, setR_eq, x_app, x_for, x_par, parR, el_nil, el_cons, elc_ok, x_whl, x_retF, x_pop, e_lc, e_call _ _ _ m.1, c]
  have c3 := fun en => tr_cr (en := en) t (scl_ht h g) (by omega) (by omega) (by unfold scl; rw [List.length_map]; omega)
  show endOf none false (runL (exS T big none false 40) (scCode mu tr) [.val (.tup (frs ps)), .val (fr c), .no]) = _
  unfold scCode
  simp only [b_ok, b_bad, b_ex, o_ok, o_bad, o_ex, s_nx, s_rt, s_bk, s_ct, s_bad, t_nx, t_ct, t_bk, t_rt, t_bad, e_c, e_v, e_g, e_pr, e_and, e_or, e_ite, and_bl, or_bl, ite_bl, a_nil, a_c, a_g, a_v, a_pr, a_and, a_or, a_ite, a_ch, a_call, a_lc, cons_ok, a_bw, a_io, v_0, v_s, w_0, w_v, w_n, w_s, rd_nil, rd_d, rd_b, r_nil, r_d, r_b, r_o, om_some, ix_0, ix_1, ix_2, l_nil, l_cons, x_asg, x_ret, x_ite, iteO_bl, x_stop, p_add_i, p_sub_i, p_neg_i, p_mul_i, p_fdiv_i, p_mod_i, p_ix_t, p_ix_l, p_lt_i, p_le_i, p_gt_i, p_ge_i, p_abs_i, p_not_b, p_len_t, p_len_l, p_tup0, p_tup1, p_tup2, p_tup3, p_lst0, p_lst1, p_lst2, p_eq_i, p_ne_i, prR, asgR, st_n, st_t, sm_nil, sm_cons, List.set_cons_zero, List.set_cons_succ, fls_iff, tru_iff, n_isSome, s_isSome, if_true, if_false, Bool.false_eq_true, Bool.true_eq_false, x_setI, setR_eq, x_app, x_for, x_par, parR, el_nil, el_cons, elc_ok, x_whl, x_retF, x_pop, e_lc, l2, e_call _ _ _ t.1, c3]
  rfl
/-! the derivative -/
theorem enumD_frs : ∀ (ps : List Rat) (k : Nat), enumD k (frs ps) = (ps.zipIdx k).map fun u => .tup [.int u.2, fr u.1]
  | [], _ => rfl
  | q :: ps, k => by
    show .tup [.int k, fr q] :: enumD (k + 1) (frs ps) = _
    rw [enumD_frs ps (k + 1)]
    rfl
def drvA (ps : List Rat) : List Rat := (ps.zipIdx 0).map fun u => (u.2 : Rat) * u.1
def drv (ps : List Rat) : List Rat := (drvA ps).drop 1
theorem fr_nat (n : Nat) : fr (n : Rat) = .tup [.int n, .int 1] := rfl
theorem nat_div (n : Nat) : Rat.divInt (n : Int) 1 = (n : Rat) := by
  exact Rat.num_divInt_den (n : Rat)
theorem bd_nat {n k : Nat} (h : n < 2 ^ k) : Bd k (n : Int) := by
  unfold Bd
  rw [Int.natAbs_natCast]
  exact h
theorem ht_nat {n k : Nat} (h : n < 2 ^ k) (k1 : 1 ≤ k) : Ht k (n : Rat) := ⟨bd_nat h, Bd.mono (k := 1) (show Bd 1 ((1 : Nat) : Int) by unfold Bd; decide) k1⟩
theorem zip_ix {ps : List Rat} {u : Rat × Nat} (h : u ∈ ps.zipIdx 0) : u.1 ∈ ps ∧ u.2 < ps.length := by
  have := List.mem_zipIdx h
  refine ⟨?_, by omega⟩
  rw [this.2.2]
  exact List.getElem_mem _
theorem drvA_ht {k : Nat} {ps : List Rat} (h : HtA k ps) (hp : ps.length ≤ 1000) : HtA (10 + k) (drvA ps) := fun q hq => by
  obtain ⟨u, hu, rfl⟩ := List.mem_map.mp hq
  have z := zip_ix hu
  exact (ht_nat (k := 10) (by omega) (by decide)).mul (h _ z.1)
theorem drv_ht {k : Nat} {ps : List Rat} (h : HtA k ps) (hp : ps.length ≤ 1000) : HtA (10 + k) (drv ps) := fun q hq => drvA_ht h hp q (List.mem_of_mem_drop hq)
theorem drvA_len (ps : List Rat) : (drvA ps).length = ps.length := by
  unfold drvA
  rw [List.length_map, List.length_zipIdx]
theorem drv_len (ps : List Rat) : (drv ps).length ≤ ps.length := by
  unfold drv
  rw [List.length_drop, drvA_len]
  omega
theorem frs_drvA (ps : List Rat) : frs (drvA ps) = (ps.zipIdx 0).map fun u => fr ((u.2 : Rat) * u.1) := by
  unfold frs drvA
  rw [List.map_map]
  rfl
theorem drop1 (ps : List Rat) : prim .slB [.lst (frs (drvA ps)), .int 1] = .ok (.lst (frs (drv ps))) := by
  show R.ok (D.lst (cut (frs (drvA ps)) (some ((1 : Nat) : Int)) none)) = _
  rw [cut_from]
  unfold drv frs
  rw [List.map_drop]
def dvCode (mu fc tr : Str) : List S := [.ret (.call tr [.pr .slB [.lc (.call mu [.call fc [.v 2] [.int 1], .v 1] []) (.t [2, 1]) .enum [.v 0] none [2, 1], .c (.int 1)]] [])]
def dvDef (mu fc tr : Str) : Fd := ⟨"derivative", 1, 3, none, false, 40, dvCode mu fc tr, []⟩
theorem dv_run {T : Tab} {mu fc tr : Str} {k : Nat} {ps : List Rat} (m : Mu T mu) (f : Mk T fc) (t : Tr T tr) (h : HtA k ps) (k1 : 10 ≤ k) (hk : k ≤ 900) (hp : ps.length ≤ 1000) :
    runFd T big (dvDef mu fc tr) [.val (.tup (frs ps))] = .ok (.tup (frs (trim (drv ps))), none) := by
  have l2 : lcR T 36 (.call mu [.call fc [.v 2] [.int 1], .v 1] []) (.t [2, 1]) .enum none [2, 1] ([.tup (frs ps)], [.val (.tup (frs ps)), .no, .no]) = .ok (.lst (frs (drvA ps)), [.val (.tup (frs ps)), .no, .no]) := by
    rw [frs_drvA]
    refine lcR_mapU (n := 36) (en := [.val (.tup (frs ps)), .no, .no]) (us := ps.zipIdx 0) (h := fun u => .tup [.int u.2, fr u.1]) (g := fun u => fr ((u.2 : Rat) * u.1)) (by rw [← enumD_frs]; rfl) rfl (by rw [List.length_zipIdx]; unfold lineN; omega) fun u hu => ?_
    have z := zip_ix hu
    refine ⟨[.val (.tup (frs ps)), .val (fr u.1), .val (.int u.2)], [.val (.tup (frs ps)), .val (fr u.1), .val (.int u.2)], rfl, ?_, rfl⟩
    have hn : Ht k (u.2 : Rat) := (ht_nat (k := 10) (by omega) (by decide)).mono k1
    have c := fun en => mu_cr (en := en) m hn (h _ z.1) (by omega)
    have c2 : ∀ en, callR T fc [.int 1] ([.d (.int u.2)], en) = .ok (fr (u.2 : Rat), en) := fun en => by
      rw [← nat_div]
      exact cr_ok rfl rfl rfl (f.2 (k := 10) (by decide) (bd_nat (by omega)) (by unfold Bd; decide) (by omega)) rfl
    simp only [b_ok, b_bad, b_ex, o_ok, o_bad, o_ex, s_nx, s_rt, s_bk, s_ct, s_bad, t_nx, t_ct, t_bk, t_rt, t_bad, e_c, e_v, e_g, e_pr, e_and, e_or, e_ite, and_bl, or_bl, ite_bl, a_nil, a_c, a_g, a_v, a_pr, a_and, a_or, a_ite, a_ch, a_call, a_lc, cons_ok, a_bw, a_io, v_0, v_s, w_0, w_v, w_n, w_s, rd_nil, rd_d, rd_b, r_nil, r_d, r_b, r_o, om_some, ix_0, ix_1, ix_2, l_nil, l_cons, x_asg, x_ret, x_ite, iteO_bl, x_stop, p_add_i, p_sub_i, p_neg_i, p_mul_i, p_fdiv_i, p_mod_i, p_ix_t, p_ix_l, p_lt_i, p_le_i, p_gt_i, p_ge_i, p_abs_i, p_not_b, p_len_t, p_len_l, p_tup0, p_tup1, p_tup2, p_tup3, p_lst0, p_lst1, p_lst2, p_eq_i, p_ne_i, prR, asgR, st_n, st_t, sm_nil, sm_cons, List.set_cons_zero, List.set_cons_succ, fls_iff, tru_iff, n_isSome, s_isSome, if_true, if_false, Bool.false_eq_true, Bool.true_eq_false, x_setI, setR_eq, x_app, x_for, x_par, parR, el_nil, el_cons, elc_ok, x_whl, x_retF, x_pop, e_lc, e_call _ _ _ m.1, e_call _ _ _ f.1, c2, c]
  have c3 := fun en => tr_cr (en := en) t (drv_ht h hp) (by omega) (by omega) (by have := drv_len ps; omega)
  show endOf none false (runL (exS T big none false 40) (dvCode mu fc tr) [.val (.tup (frs ps)), .no, .no]) = _
  unfold dvCode
  simp only [b_ok, b_bad, b_ex, o_ok, o_bad, o_ex, s_nx, s_rt, s_bk, s_ct, s_bad, t_nx, t_ct, t_bk, t_rt, t_bad, e_c, e_v, e_g, e_pr, e_and, e_or, e_ite, and_bl, or_bl, ite_bl, a_nil, a_c, a_g, a_v, a_pr, a_and, a_or, a_ite, a_ch, a_call, a_lc, cons_ok, a_bw, a_io, v_0, v_s, w_0, w_v, w_n, w_s, rd_nil, rd_d, rd_b, r_nil, r_d, r_b, r_o, om_some, ix_0, ix_1, ix_2, l_nil, l_cons, x_asg, x_ret, x_ite, iteO_bl, x_stop, p_add_i, p_sub_i, p_neg_i, p_mul_i, p_fdiv_i, p_mod_i, p_ix_t, p_ix_l, p_lt_i, p_le_i, p_gt_i, p_ge_i, p_abs_i, p_not_b, p_len_t, p_len_l, p_tup0, p_tup1, p_tup2, p_tup3, p_lst0, p_lst1, p_lst2, p_eq_i, p_ne_i, prR, asgR, st_n, st_t, sm_nil, sm_cons, List.set_cons_zero, List.set_cons_succ, fls_iff, tru_iff, n_isSome, s_isSome, if_true, if_false, Bool.false_eq_true, Bool.true_eq_false, x_setI, setR_eq, x_app, x_for, x_par, parR, el_nil, el_cons, elc_ok, x_whl, x_retF, x_pop, e_lc, l2, drop1, e_call _ _ _ t.1, c3]
  rfl
/-! the value at a number -/
def hv (x : Rat) : List Rat → Rat
  | [] => 0
  | c :: cs => hv x cs * x + c
theorem hv_ht {k : Nat} {x : Rat} (hx : Ht k x) : ∀ {ps : List Rat}, HtA k ps → Ht (1 + ps.length * (k + k + 1)) (hv x ps)
  | [], _ => ht_0 _ (by omega)
  | c :: cs, h => by
    have h1 := hv_ht hx (ps := cs) fun q hq => h q (List.mem_cons_of_mem _ hq)
    have h2 := (h1.mul hx).add (h c List.mem_cons_self)
    refine h2.mono ?_
    rw [List.length_cons, Nat.add_mul]
    omega
def vaCode (ad mu : Str) (z : E) : List S := [
  .asg (.n 3) z,
  .for_ (.n 2) .seq [.pr .rev [.v 0]] [.asg (.n 3) (.call ad [.call mu [.v 3, .v 1] [], .v 2] [])],
  .ret (.v 3)]
def vaDef (ad mu : Str) (z : E) : Fd := ⟨"value_at", 2, 4, none, false, 40, vaCode ad mu z, []⟩
/-- a loop over the images of things -/
theorem loop_u {U : Type} {tg : Tg} {b : En → O} {h : U → D} {P : List U → En → Prop} (step : ∀ u us en, P (u :: us) en → ∃ en1 en2, setTg tg (h u) en = some en1 ∧ b en1 = .nx en2 ∧ P us en2) : ∀ (us : List U) (en : En), P us en → ∃ en', loopF tg b (us.map h) en = .nx en' ∧ P [] en'
  | [], en, p => ⟨en, rfl, p⟩
  | u :: us, en, p => by
    obtain ⟨en1, en2, h1, h2, p2⟩ := step u us en p
    obtain ⟨en3, h3, p3⟩ := loop_u step us en2 p2
    exact ⟨en3, by rw [List.map_cons, f_cons h1, h2]; exact h3, p3⟩
theorem va_run {T : Tab} {ad mu : Str} {z : E} {k : Nat} {x : Rat} {ps : List Rat} (zr : Zr T z) (a : Ad T ad) (m : Mu T mu) (h : HtA k ps) (hx : Ht k x) (hb : 1 + ps.length * (k + k + 1) ≤ 1900) (k2 : k ≤ 900) :
    runFd T big (vaDef ad mu z) [.val (.tup (frs ps)), .val (fr x)] = .ok (fr (hv x ps), none) := by
  have loop := loop_u (tg := .n 2) (h := fr) (b := runL (exS T big none false 39) [.asg (.n 3) (.call ad [.call mu [.v 3, .v 1] [], .v 2] [])])
    (P := fun rs en => ∃ (done : List Rat) (s : Slot), ps = rs.reverse ++ done ∧ NoW s ∧ en = [.val (.tup (frs ps)), .val (fr x), s, .val (fr (hv x done))])
    (fun q rs en p => by
      obtain ⟨done, s, e, nw, rfl⟩ := p
      have e2 : ps = rs.reverse ++ (q :: done) := by
        rw [e, List.reverse_cons, List.append_assoc]
        rfl
      refine ⟨[.val (.tup (frs ps)), .val (fr x), .val (fr q), .val (fr (hv x done))], [.val (.tup (frs ps)), .val (fr x), .val (fr q), .val (fr (hv x (q :: done)))], ?_, ?_, q :: done, .val (fr q), e2, now_val _, rfl⟩
      · rw [st_n, w_s, w_s, nw]
        rfl
      · have hd : HtA k done := fun y hy => h y (by rw [e2]; exact List.mem_append_right _ (List.mem_cons_of_mem _ hy))
        have h1 := hv_ht hx hd
        have hlen : done.length * (k + k + 1) ≤ ps.length * (k + k + 1) := Nat.mul_le_mul_right _ (by rw [e2, List.length_append, List.length_cons]; omega)
        have hq : Ht k q := h q (by rw [e2]; exact List.mem_append_right _ List.mem_cons_self)
        have c1 := fun en => mu_cr (en := en) m (h1.mono (m := 2800) (by omega)) (hx.mono (m := 2800) (by omega)) (by omega)
        have c2 := fun en => ad_cr (en := en) a ((h1.mul hx).mono (m := 2800) (by omega)) (hq.mono (m := 2800) (by omega)) (by omega)
        simp only [b_ok, b_bad, b_ex, o_ok, o_bad, o_ex, s_nx, s_rt, s_bk, s_ct, s_bad, t_nx, t_ct, t_bk, t_rt, t_bad, e_c, e_v, e_g, e_pr, e_and, e_or, e_ite, and_bl, or_bl, ite_bl, a_nil, a_c, a_g, a_v, a_pr, a_and, a_or, a_ite, a_ch, a_call, a_lc, cons_ok, a_bw, a_io, v_0, v_s, w_0, w_v, w_n, w_s, rd_nil, rd_d, rd_b, r_nil, r_d, r_b, r_o, om_some, ix_0, ix_1, ix_2, l_nil, l_cons, x_asg, x_ret, x_ite, iteO_bl, x_stop, p_add_i, p_sub_i, p_neg_i, p_mul_i, p_fdiv_i, p_mod_i, p_ix_t, p_ix_l, p_lt_i, p_le_i, p_gt_i, p_ge_i, p_abs_i, p_not_b, p_len_t, p_len_l, p_tup0, p_tup1, p_tup2, p_tup3, p_lst0, p_lst1, p_lst2, p_eq_i, p_ne_i, prR, asgR, st_n, st_t, sm_nil, sm_cons, List.set_cons_zero, List.set_cons_succ, fls_iff, tru_iff, n_isSome, s_isSome, if_true, if_false, Bool.false_eq_true, Bool.true_eq_false, x_setI, setR_eq, x_app, x_for, x_par, parR, el_nil, el_cons, elc_ok, x_whl, x_retF, x_pop, e_lc, e_call _ _ _ a.1, e_call _ _ _ m.1, c1, c2]
        rfl)
  obtain ⟨en', r1, done, s, e, nw, rfl⟩ := loop ps.reverse [.val (.tup (frs ps)), .val (fr x), .no, .val (fr 0)] ⟨[], .no, by rw [List.reverse_reverse, List.append_nil], now_no, rfl⟩
  have e3 : done = ps := by
    rw [e]
    rfl
  rw [e3] at r1
  have rv : prim .rev [.tup (frs ps)] = .ok (.tup (ps.reverse.map fr)) := by
    show R.ok (D.tup (frs ps).reverse) = _
    unfold frs
    rw [List.map_reverse]
  have it : items .seq [.tup (ps.reverse.map fr)] = some (ps.reverse.map fr) := rfl
  show endOf none false (runL (exS T big none false 40) (vaCode ad mu z) [.val (.tup (frs ps)), .val (fr x), .no, .no]) = _
  unfold vaCode
  simp only [b_ok, b_bad, b_ex, o_ok, o_bad, o_ex, s_nx, s_rt, s_bk, s_ct, s_bad, t_nx, t_ct, t_bk, t_rt, t_bad, e_c, e_v, e_g, e_pr, e_and, e_or, e_ite, and_bl, or_bl, ite_bl, a_nil, a_c, a_g, a_v, a_pr, a_and, a_or, a_ite, a_ch, a_call, a_lc, cons_ok, a_bw, a_io, v_0, v_s, w_0, w_v, w_n, w_s, rd_nil, rd_d, rd_b, r_nil, r_d, r_b, r_o, om_some, ix_0, ix_1, ix_2, l_nil, l_cons, x_asg, x_ret, x_ite, iteO_bl, x_stop, p_add_i, p_sub_i, p_neg_i, p_mul_i, p_fdiv_i, p_mod_i, p_ix_t, p_ix_l, p_lt_i, p_le_i, p_gt_i, p_ge_i, p_abs_i, p_not_b, p_len_t, p_len_l, p_tup0, p_tup1, p_tup2, p_tup3, p_lst0, p_lst1, p_lst2, p_eq_i, p_ne_i, prR, asgR, st_n, st_t, sm_nil, sm_cons, List.set_cons_zero, List.set_cons_succ, fls_iff, tru_iff, n_isSome, s_isSome, if_true, if_false, Bool.false_eq_true, Bool.true_eq_false, x_setI, setR_eq, x_app, x_for, x_par, parR, el_nil, el_cons, elc_ok, x_whl, x_retF, x_pop, e_lc, zr.1, rv, forR_ok it, r1]
  rfl
def lvCode (ad mu : Str) : List S := [
  .asg (.t [3, 4]) (.pr .tup [.pr .tup [.c (.int 0), .c (.int 1)], .pr .tup [.c (.int 1), .c (.int 1)]]),
  .for_ (.n 2) .seq [.v 0] [.asg (.n 3) (.call ad [.v 3, .call mu [.v 2, .v 4] []] []), .asg (.n 4) (.call mu [.v 4, .v 1] [])],
  .ret (.v 3)]
def lvDef (ad mu : Str) : Fd := ⟨"_law_value", 2, 5, none, false, 40, lvCode ad mu, []⟩
theorem rat_hv (f p c x h : Rat) : f + c * p + p * x * h = f + p * (h * x + c) := by
  rw [Rat.mul_add, Rat.mul_assoc, Rat.mul_comm x h, Rat.mul_comm c p, Rat.add_assoc, Rat.add_comm (p * c)]
theorem lv_run {T : Tab} {ad mu : Str} {k n : Nat} {x : Rat} {ps : List Rat} (a : Ad T ad) (m : Mu T mu) (h : HtA k ps) (hx : Ht k x) (hn : ps.length ≤ n) (hb : 2 + n * (k + 2 + n * k) ≤ 1900) :
    runFd T big (lvDef ad mu) [.val (.tup (frs ps)), .val (fr x)] = .ok (fr (hv x ps), none) := by
  have loop := loop_u (tg := .n 2) (h := fr) (b := runL (exS T big none false 39) [.asg (.n 3) (.call ad [.v 3, .call mu [.v 2, .v 4] []] []), .asg (.n 4) (.call mu [.v 4, .v 1] [])])
    (P := fun rs en => ∃ (f p : Rat) (s : Slot) (j : Nat), j + rs.length ≤ n ∧ HtA k rs ∧ f + p * hv x rs = hv x ps ∧ NoW s ∧ Ht (1 + j * (k + 2 + n * k)) f ∧ Ht (1 + j * k) p ∧ en = [.val (.tup (frs ps)), .val (fr x), s, .val (fr f), .val (fr p)])
    (fun q rs en p => by
      obtain ⟨f, p, s, j, hj, hr, e, nw, hf, hp, rfl⟩ := p
      rw [List.length_cons] at hj
      have hq := hr q List.mem_cons_self
      have b1 : j * k + k ≤ n * k := by
        have : (j + 1) * k ≤ n * k := Nat.mul_le_mul_right _ (by omega)
        rw [Nat.add_mul] at this
        omega
      have b2 : j * (k + 2 + n * k) + (k + 2 + n * k) ≤ n * (k + 2 + n * k) := by
        have : (j + 1) * (k + 2 + n * k) ≤ n * (k + 2 + n * k) := Nat.mul_le_mul_right _ (by omega)
        rw [Nat.add_mul] at this
        omega
      have h1 := hq.mul hp
      have h2 := hf.add h1
      have h3 := hp.mul hx
      have c1 := fun en => mu_cr (en := en) m (hq.mono (m := 3800) (by omega)) (hp.mono (m := 3800) (by omega)) (by omega)
      have c2 := fun en => ad_cr (en := en) a (hf.mono (m := 3800) (by omega)) (h1.mono (m := 3800) (by omega)) (by omega)
      have c3 := fun en => mu_cr (en := en) m (hp.mono (m := 3800) (by omega)) (hx.mono (m := 3800) (by omega)) (by omega)
      refine ⟨[.val (.tup (frs ps)), .val (fr x), .val (fr q), .val (fr f), .val (fr p)], [.val (.tup (frs ps)), .val (fr x), .val (fr q), .val (fr (f + q * p)), .val (fr (p * x))], ?_, ?_, f + q * p, p * x, .val (fr q), j + 1, by omega, fun y hy => hr y (List.mem_cons_of_mem _ hy), ?_, now_val _, h2.mono (by rw [Nat.add_mul]; omega), h3.mono (by rw [Nat.add_mul]; omega), rfl⟩
      · rw [st_n, w_s, w_s, nw]
        rfl
      · simp only [b_ok, b_bad, b_ex, o_ok, o_bad, o_ex, s_nx, s_rt, s_bk, s_ct, s_bad, t_nx, t_ct, t_bk, t_rt, t_bad, e_c, e_v, e_g, e_pr, e_and, e_or, e_ite, and_bl, or_bl, ite_bl, a_nil, a_c, a_g, a_v, a_pr, a_and, a_or, a_ite, a_ch, a_call, a_lc, cons_ok, a_bw, a_io, v_0, v_s, w_0, w_v, w_n, w_s, rd_nil, rd_d, rd_b, r_nil, r_d, r_b, r_o, om_some, ix_0, ix_1, ix_2, l_nil, l_cons, x_asg, x_ret, x_ite, iteO_bl, x_stop, p_add_i, p_sub_i, p_neg_i, p_mul_i, p_fdiv_i, p_mod_i, p_ix_t, p_ix_l, p_lt_i, p_le_i, p_gt_i, p_ge_i, p_abs_i, p_not_b, p_len_t, p_len_l, p_tup0, p_tup1, p_tup2, p_tup3, p_lst0, p_lst1, p_lst2, p_eq_i, p_ne_i, prR, asgR, st_n, st_t, sm_nil, sm_cons, List.set_cons_zero, List.set_cons_succ, fls_iff, tru_iff, n_isSome, s_isSome, if_true, if_false, Bool.false_eq_true, Bool.true_eq_false, x_setI, setR_eq, x_app, x_for, x_par, parR, el_nil, el_cons, elc_ok, x_whl, x_retF, x_pop, e_lc, e_call _ _ _ a.1, e_call _ _ _ m.1, c1, c2, c3]
      · rw [rat_hv, ← e]
        rfl)
  obtain ⟨en', r1, f, p, s, j, _, _, e, nw, _, _, rfl⟩ := loop ps [.val (.tup (frs ps)), .val (fr x), .no, .val (fr 0), .val (fr 1)] ⟨0, 1, .no, 0, by omega, h, by rw [Rat.one_mul, Rat.zero_add], now_no, ht_0 _ (by omega), ht_1 _ (by omega), rfl⟩
  have e3 : f = hv x ps := by
    rw [← e]
    show f = f + p * 0
    rw [Rat.mul_zero, Rat.add_zero]
  rw [e3] at r1
  have it : items .seq [.tup (frs ps)] = some (ps.map fr) := rfl
  have z0 : (D.tup [.int 0, .int 1]) = fr 0 := rfl
  have z1 : (D.tup [.int 1, .int 1]) = fr 1 := rfl
  show endOf none false (runL (exS T big none false 40) (lvCode ad mu) [.val (.tup (frs ps)), .val (fr x), .no, .no, .no]) = _
  unfold lvCode
  simp only [b_ok, b_bad, b_ex, o_ok, o_bad, o_ex, s_nx, s_rt, s_bk, s_ct, s_bad, t_nx, t_ct, t_bk, t_rt, t_bad, e_c, e_v, e_g, e_pr, e_and, e_or, e_ite, and_bl, or_bl, ite_bl, a_nil, a_c, a_g, a_v, a_pr, a_and, a_or, a_ite, a_ch, a_call, a_lc, cons_ok, a_bw, a_io, v_0, v_s, w_0, w_v, w_n, w_s, rd_nil, rd_d, rd_b, r_nil, r_d, r_b, r_o, om_some, ix_0, ix_1, ix_2, l_nil, l_cons, x_asg, x_ret, x_ite, iteO_bl, x_stop, p_add_i, p_sub_i, p_neg_i, p_mul_i, p_fdiv_i, p_mod_i, p_ix_t, p_ix_l, p_lt_i, p_le_i, p_gt_i, p_ge_i, p_abs_i, p_not_b, p_len_t, p_len_l, p_tup0, p_tup1, p_tup2, p_tup3, p_lst0, p_lst1, p_lst2, p_eq_i, p_ne_i, prR, asgR, st_n, st_t, sm_nil, sm_cons, List.set_cons_zero, List.set_cons_succ, fls_iff, tru_iff, n_isSome, s_isSome, if_true, if_false, Bool.false_eq_true, Bool.true_eq_false, x_setI, setR_eq, x_app, x_for, x_par, parR, el_nil, el_cons, elc_ok, x_whl, x_retF, x_pop, e_lc, forR_ok it, z0, z1, r1]
  rfl
/-! degree and monic -/
def dgCode : List S := [.ret (.pr .sub [.pr .len [.v 0], .c (.int 1)])]
def dgDef : Fd := ⟨"degree", 1, 1, none, false, 40, dgCode, []⟩
theorem dg_run {T : Tab} {ps : List Rat} : runFd T big dgDef [.val (.tup (frs ps))] = .ok (.int ((ps.length : Int) - 1), none) := by
  show endOf none false (runL (exS T big none false 40) dgCode [.val (.tup (frs ps))]) = _
  unfold dgCode
  simp only [b_ok, b_bad, b_ex, o_ok, o_bad, o_ex, s_nx, s_rt, s_bk, s_ct, s_bad, t_nx, t_ct, t_bk, t_rt, t_bad, e_c, e_v, e_g, e_pr, e_and, e_or, e_ite, and_bl, or_bl, ite_bl, a_nil, a_c, a_g, a_v, a_pr, a_and, a_or, a_ite, a_ch, a_call, a_lc, cons_ok, a_bw, a_io, v_0, v_s, w_0, w_v, w_n, w_s, rd_nil, rd_d, rd_b, r_nil, r_d, r_b, r_o, om_some, ix_0, ix_1, ix_2, l_nil, l_cons, x_asg, x_ret, x_ite, iteO_bl, x_stop, p_add_i, p_sub_i, p_neg_i, p_mul_i, p_fdiv_i, p_mod_i, p_ix_t, p_ix_l, p_lt_i, p_le_i, p_gt_i, p_ge_i, p_abs_i, p_not_b, p_len_t, p_len_l, p_tup0, p_tup1, p_tup2, p_tup3, p_lst0, p_lst1, p_lst2, p_eq_i, p_ne_i, prR, asgR, st_n, st_t, sm_nil, sm_cons, List.set_cons_zero, List.set_cons_succ, fls_iff, tru_iff, n_isSome, s_isSome, if_true, if_false, Bool.false_eq_true, Bool.true_eq_false, x_setI, setR_eq, x_app, x_for, x_par, parR, el_nil, el_cons, elc_ok, x_whl, x_retF, x_pop, e_lc, frs_len]
  rfl
end Vm
end
section
set_option Elab.async false
set_option linter.all false
set_option maxRecDepth 100000
namespace Vm
open PySem PySem.Spec L2
/-! products -/
section
variable (ps qs : List Rat)
def cv (k : Nat) : Nat → Rat
  | 0 => 0
  | i + 1 => if i ≤ k ∧ i < ps.length ∧ k - i < qs.length then cv k i + ps.getD i 0 * qs.getD (k - i) 0 else cv k i
end
section
variable {ps qs : List Rat}
theorem cv_yes {k i : Nat} (h : i ≤ k ∧ i < ps.length ∧ k - i < qs.length) : cv ps qs k (i + 1) = cv ps qs k i + ps.getD i 0 * qs.getD (k - i) 0 := if_pos h
theorem cv_no {k i : Nat} (h : ¬ (i ≤ k ∧ i < ps.length ∧ k - i < qs.length)) : cv ps qs k (i + 1) = cv ps qs k i := if_neg h
theorem cv_stop {k m : Nat} (h : ∀ j, m ≤ j → ¬ (j ≤ k ∧ j < ps.length ∧ k - j < qs.length)) : ∀ d : Nat, cv ps qs k (m + d) = cv ps qs k m
  | 0 => rfl
  | d + 1 => by
    rw [show m + (d + 1) = (m + d) + 1 by omega, cv_no (h _ (by omega))]
    exact cv_stop h d
theorem cv_end (k : Nat) : cv ps qs k ps.length = cv ps qs k (k + 1) := by
  have h1 := cv_stop (ps := ps) (qs := qs) (k := k) (m := ps.length) (fun j hj z => by omega) (k + 1)
  have h2 := cv_stop (ps := ps) (qs := qs) (k := k) (m := k + 1) (fun j hj z => by omega) ps.length
  rw [← h1, ← h2]
  congr 1
  omega
theorem getD_mem {l : List Rat} {i : Nat} (h : i < l.length) : l.getD i 0 ∈ l := by
  rw [List.getD_eq_getElem?_getD, List.getElem?_eq_getElem h]
  exact List.getElem_mem h
theorem cv_ht0 {K k : Nat} (h : HtA K ps) (g : HtA K qs) : ∀ i : Nat, i ≤ ps.length → Ht (1 + i * (K + K + 1)) (cv ps qs k i)
  | 0, _ => ht_0 _ (by omega)
  | i + 1, hi => by
    have ih := cv_ht0 (k := k) h g i (by omega)
    by_cases c : i ≤ k ∧ i < ps.length ∧ k - i < qs.length
    · rw [cv_yes c]
      refine (ih.add ((h _ (getD_mem c.2.1)).mul (g _ (getD_mem c.2.2)))).mono ?_
      rw [Nat.add_mul]
      omega
    · rw [cv_no c]
      refine ih.mono ?_
      rw [Nat.add_mul]
      omega
theorem cv_ht {K k : Nat} (h : HtA K ps) (g : HtA K qs) (i : Nat) : Ht (1 + ps.length * (K + K + 1)) (cv ps qs k i) := by
  by_cases c : i ≤ ps.length
  · refine (cv_ht0 h g i c).mono ?_
    have : i * (K + K + 1) ≤ ps.length * (K + K + 1) := Nat.mul_le_mul_right _ c
    omega
  · have e := cv_stop (ps := ps) (qs := qs) (k := k) (m := ps.length) (fun j hj z => by omega) (i - ps.length)
    rw [show ps.length + (i - ps.length) = i by omega] at e
    rw [e]
    exact cv_ht0 h g _ (Nat.le_refl _)
theorem cv_nil {k : Nat} (h : ps = [] ∨ qs = []) : ∀ i, cv ps qs k i = 0
  | 0 => rfl
  | i + 1 => by
    rw [cv_no (by rcases h with rfl | rfl <;> simp)]
    exact cv_nil h i
end
def prod (ps qs : List Rat) : List Rat := (List.range (ps.length + qs.length - 1)).map fun k => cv ps qs k ps.length
theorem range_set {n m : Nat} {f g : Nat → Rat} (hm : m < n) (h : ∀ k, k ≠ m → f k = g k) : (frs ((List.range n).map f)).set m (fr (g m)) = frs ((List.range n).map g) := by
  apply List.ext_getElem?
  intro i
  unfold frs
  rw [List.getElem?_set]
  by_cases e : m = i
  · subst e
    rw [if_pos rfl, if_pos (by simpa using hm)]
    simp [hm]
  · rw [if_neg e]
    simp only [List.map_map, List.getElem?_map, Function.comp_apply]
    by_cases c : i < n
    · rw [List.getElem?_range c]
      show some (fr (f i)) = some (fr (g i))
      rw [h i (fun z => e z.symm)]
    · rw [List.getElem?_eq_none (by simpa using c)]
      rfl
theorem frs_range_at {n m : Nat} {f : Nat → Rat} (hm : m < n) : (frs ((List.range n).map f))[m]? = some (fr (f m)) := by
  unfold frs
  simp [hm]
theorem frs_at {ps : List Rat} {i : Nat} {x : D} (h : (frs ps)[i]? = some x) : i < ps.length ∧ x = fr (ps.getD i 0) := by
  unfold frs at h
  rw [List.getElem?_map] at h
  by_cases c : i < ps.length
  · rw [List.getElem?_eq_getElem c] at h
    refine ⟨c, ?_⟩
    rw [List.getD_eq_getElem?_getD, List.getElem?_eq_getElem c]
    exact (Option.some.inj h).symm
  · rw [List.getElem?_eq_none (by omega)] at h
    cases h
theorem frs_get {ps : List Rat} {i : Nat} (h : i < ps.length) : (frs ps)[i]? = some (fr (ps.getD i 0)) := by
  unfold frs
  rw [List.getElem?_map, List.getD_eq_getElem?_getD, List.getElem?_eq_getElem h]
  rfl
def prCode (z : E) (ad mu tr : Str) : List S := [
  .asgO 2 (.pr .mul [.pr .lst [z], .pr .max2 [.c (.int 0), .pr .sub [.pr .add [.pr .len [.v 0], .pr .len [.v 1]], .c (.int 1)]]]),
  .for_ (.t [6, 3]) .enum [.v 0] [.for_ (.t [5, 4]) .enum [.v 1] [.setI 2 (.pr .add [.v 6, .v 5]) (.call ad [.pr .ix [.bw 2, .pr .add [.v 6, .v 5]], .call mu [.v 3, .v 4] []] [])]],
  .ret (.call tr [.bw 2] [])]
def prDef (z : E) (ad mu tr : Str) : Fd := ⟨"product_of", 2, 7, none, false, 40, prCode z ad mu tr, []⟩
theorem ixn_nat {n m : Nat} (h : m < n) : ixN n (m : Int) = some m := by
  unfold ixN
  rw [if_pos (by omega), if_pos (by omega), Int.toNat_natCast]
theorem ixl_nat {l : List D} {m : Nat} {d : D} (h : l[m]? = some d) : ixL l (m : Int) = .ok d := ix_at (ixn_nat (List.getElem?_eq_some_iff.mp h).1) h
/-- two arguments, with a primitive that stays closed -/
theorem pr_two {T : Tab} {n : Nat} {p : Pr} {a b : E} {da db d : D} {en en1 en2 : En} (na : ∀ f es en, evArgs f (a :: es) en = (f a en).bind (consR (evArgs f es))) (nb : ∀ f es en, evArgs f (b :: es) en = (f b en).bind (consR (evArgs f es))) (ha : evE T n a en = .ok (da, en1)) (hb : evE T n b en1 = .ok (db, en2)) (h : prim p [da, db] = .ok d) : evE T (n + 1) (.pr p [a, b]) en = .ok (d, en2) := by
  rw [e_pr, na, ha]
  simp only [b_ok, cons_ok, nb, hb, a_nil]
  rw [pr_some p (ds := [da, db]) rfl, h]
  rfl
theorem pr_end {T : Tab} {z : E} {ad mu tr : Str} {k n : Nat} {ps qs : List Rat} {s3 s4 s5 s6 : Slot} (zr : Zr T z) (t : Tr T tr) (h : HtA k ps) (g : HtA k qs) (k1 : 1 ≤ k) (hk : 1 + ps.length * (k + k + 1) ≤ 1900) (hp : ps.length ≤ 400) (hq : qs.length ≤ 400) (en : n = ps.length + qs.length - 1)
    (r1 : loopF (.t [6, 3]) (runL (exS T big none false 39) [.for_ (.t [5, 4]) .enum [.v 1] [.setI 2 (.pr .add [.v 6, .v 5]) (.call ad [.pr .ix [.bw 2, .pr .add [.v 6, .v 5]], .call mu [.v 3, .v 4] []] [])]]) (enumD 0 (frs ps)) [.val (.tup (frs ps)), .val (.tup (frs qs)), .own (List.replicate n (fr 0)), .no, .no, .no, .no] = .nx [.val (.tup (frs ps)), .val (.tup (frs qs)), .own (frs (prod ps qs)), s3, s4, s5, s6]) :
    runFd T big (prDef z ad mu tr) [.val (.tup (frs ps)), .val (.tup (frs qs))] = .ok (.tup (frs (trim (prod ps qs))), none) := by
  have it : ∀ l : List D, items .enum [.tup l] = some (enumD 0 l) := fun _ => rfl
  have hprod : HtA (1 + ps.length * (k + k + 1)) (prod ps qs) := fun q hq => by
    obtain ⟨r, _, rfl⟩ := List.mem_map.mp hq
    exact cv_ht h g _
  have mx : prim .max2 [.int 0, .int (((frs ps).length : Int) + ((frs qs).length : Int) - 1)] = .ok (.int n) := by
    show R.ok (D.int (if ((frs ps).length : Int) + ((frs qs).length : Int) - 1 > 0 then ((frs ps).length : Int) + ((frs qs).length : Int) - 1 else 0)) = .ok (.int (n : Int))
    rw [frs_len, frs_len]
    congr 2
    split <;> omega
  have ml := wr_l.h3 (fr 0) n (by omega)
  have n2 : (none : Option Nat) ≠ some 2 := fun z => nomatch z
  have first : evE T 39 (.pr .mul [.pr .lst [z], .pr .max2 [.c (.int 0), .pr .sub [.pr .add [.pr .len [.v 0], .pr .len [.v 1]], .c (.int 1)]]]) [.val (.tup (frs ps)), .val (.tup (frs qs)), .no, .no, .no, .no, .no] = .ok (.lst (List.replicate n (fr 0)), [.val (.tup (frs ps)), .val (.tup (frs qs)), .no, .no, .no, .no, .no]) := by
    refine pr_two (n := 38) (fun _ _ _ => rfl) (fun _ _ _ => rfl) (en1 := [.val (.tup (frs ps)), .val (.tup (frs qs)), .no, .no, .no, .no, .no]) (da := .lst [fr 0]) (db := .int n) ?_ ?_ ml
    · simp only [b_ok, b_bad, b_ex, o_ok, o_bad, o_ex, s_nx, s_rt, s_bk, s_ct, s_bad, t_nx, t_ct, t_bk, t_rt, t_bad, e_c, e_v, e_g, e_pr, e_and, e_or, e_ite, and_bl, or_bl, ite_bl, a_nil, a_c, a_g, a_v, a_pr, a_and, a_or, a_ite, a_ch, a_call, a_lc, cons_ok, a_bw, a_io, v_0, v_s, w_0, w_v, w_n, w_s, rd_nil, rd_d, rd_b, r_nil, r_d, r_b, r_o, om_some, ix_0, ix_1, ix_2, l_nil, l_cons, x_asg, x_ret, x_ite, iteO_bl, x_stop, p_add_i, p_sub_i, p_neg_i, p_mul_i, p_fdiv_i, p_mod_i, p_ix_t, p_ix_l, p_lt_i, p_le_i, p_gt_i, p_ge_i, p_abs_i, p_not_b, p_len_t, p_len_l, p_tup0, p_tup1, p_tup2, p_tup3, p_lst0, p_lst1, p_lst2, p_eq_i, p_ne_i, prR, asgR, st_n, st_t, sm_nil, sm_cons, List.set_cons_zero, List.set_cons_succ, fls_iff, tru_iff, n_isSome, s_isSome, if_true, if_false, Bool.false_eq_true, Bool.true_eq_false, x_setI, setR_eq, x_app, x_for, x_par, parR, el_nil, el_cons, elc_ok, x_whl, x_retF, x_pop, e_lc, zr.1, zr.2]
    · simp only [b_ok, b_bad, b_ex, o_ok, o_bad, o_ex, s_nx, s_rt, s_bk, s_ct, s_bad, t_nx, t_ct, t_bk, t_rt, t_bad, e_c, e_v, e_g, e_pr, e_and, e_or, e_ite, and_bl, or_bl, ite_bl, a_nil, a_c, a_g, a_v, a_pr, a_and, a_or, a_ite, a_ch, a_call, a_lc, cons_ok, a_bw, a_io, v_0, v_s, w_0, w_v, w_n, w_s, rd_nil, rd_d, rd_b, r_nil, r_d, r_b, r_o, om_some, ix_0, ix_1, ix_2, l_nil, l_cons, x_asg, x_ret, x_ite, iteO_bl, x_stop, p_add_i, p_sub_i, p_neg_i, p_mul_i, p_fdiv_i, p_mod_i, p_ix_t, p_ix_l, p_lt_i, p_le_i, p_gt_i, p_ge_i, p_abs_i, p_not_b, p_len_t, p_len_l, p_tup0, p_tup1, p_tup2, p_tup3, p_lst0, p_lst1, p_lst2, p_eq_i, p_ne_i, prR, asgR, st_n, st_t, sm_nil, sm_cons, List.set_cons_zero, List.set_cons_succ, fls_iff, tru_iff, n_isSome, s_isSome, if_true, if_false, Bool.false_eq_true, Bool.true_eq_false, x_setI, setR_eq, x_app, x_for, x_par, parR, el_nil, el_cons, elc_ok, x_whl, x_retF, x_pop, e_lc, mx]
  have c3 : callR T tr [] ([.b 2], [.val (.tup (frs ps)), .val (.tup (frs qs)), .own (frs (prod ps qs)), s3, s4, s5, s6]) = .ok (.tup (frs (trim (prod ps qs))), [.val (.tup (frs ps)), .val (.tup (frs qs)), .own (frs (prod ps qs)), s3, s4, s5, s6]) := tr_crB t rfl hprod (by omega) (by omega) (by unfold prod; rw [List.length_map, List.length_range]; omega)
  show endOf none false (runL (exS T big none false 40) (prCode z ad mu tr) [.val (.tup (frs ps)), .val (.tup (frs qs)), .no, .no, .no, .no, .no]) = _
  unfold prCode
  rw [l_cons, x_asgO _ _ n2, first]
  simp only [b_ok, b_bad, b_ex, o_ok, o_bad, o_ex, s_nx, s_rt, s_bk, s_ct, s_bad, t_nx, t_ct, t_bk, t_rt, t_bad, e_c, e_v, e_g, e_pr, e_and, e_or, e_ite, and_bl, or_bl, ite_bl, a_nil, a_c, a_g, a_v, a_pr, a_and, a_or, a_ite, a_ch, a_call, a_lc, cons_ok, a_bw, a_io, v_0, v_s, w_0, w_v, w_n, w_s, rd_nil, rd_d, rd_b, r_nil, r_d, r_b, r_o, om_some, ix_0, ix_1, ix_2, l_nil, l_cons, x_asg, x_ret, x_ite, iteO_bl, x_stop, p_add_i, p_sub_i, p_neg_i, p_mul_i, p_fdiv_i, p_mod_i, p_ix_t, p_ix_l, p_lt_i, p_le_i, p_gt_i, p_ge_i, p_abs_i, p_not_b, p_len_t, p_len_l, p_tup0, p_tup1, p_tup2, p_tup3, p_lst0, p_lst1, p_lst2, p_eq_i, p_ne_i, prR, asgR, st_n, st_t, sm_nil, sm_cons, List.set_cons_zero, List.set_cons_succ, fls_iff, tru_iff, n_isSome, s_isSome, if_true, if_false, Bool.false_eq_true, Bool.true_eq_false, x_setI, setR_eq, x_app, x_for, x_par, parR, el_nil, el_cons, elc_ok, x_whl, x_retF, x_pop, e_lc, forR_ok (it _), r1, e_call _ _ _ t.1, c3]
  rfl
theorem pr_run {T : Tab} {z : E} {ad mu tr : Str} {k : Nat} {ps qs : List Rat} (zr : Zr T z) (a : Ad T ad) (m : Mu T mu) (t : Tr T tr) (h : HtA k ps) (g : HtA k qs) (k1 : 1 ≤ k) (hk : 1 + ps.length * (k + k + 1) ≤ 1900) (k2 : k ≤ 900) (hp : ps.length ≤ 400) (hq : qs.length ≤ 400) :
    runFd T big (prDef z ad mu tr) [.val (.tup (frs ps)), .val (.tup (frs qs))] = .ok (.tup (frs (trim (prod ps qs))), none) := by
  let n := ps.length + qs.length - 1
  let F : Nat → Nat → Nat → Rat := fun i j k => if i ≤ k ∧ k - i < j then cv ps qs k (i + 1) else cv ps qs k i
  let fs : (Nat → Rat) → List D := fun f => frs ((List.range n).map f)
  have hF : ∀ i j r, Ht (1 + ps.length * (k + k + 1)) (F i j r) := fun i j r => by
    show Ht _ (if i ≤ r ∧ r - i < j then cv ps qs r (i + 1) else cv ps qs r i)
    split <;> exact cv_ht h g _
  have inner : ∀ (i : Nat) (hi : i < ps.length) (s4 s5 : Slot), NoW s4 → NoW s5 → ∃ en', loopF (.t [5, 4]) (runL (exS T big none false 38) [.setI 2 (.pr .add [.v 6, .v 5]) (.call ad [.pr .ix [.bw 2, .pr .add [.v 6, .v 5]], .call mu [.v 3, .v 4] []] [])]) (enumD 0 (frs qs)) [.val (.tup (frs ps)), .val (.tup (frs qs)), .own (fs (F i 0)), .val (fr (ps.getD i 0)), s4, s5, .val (.int i)] = .nx en' ∧ ∃ s4 s5, NoW s4 ∧ NoW s5 ∧ en' = [.val (.tup (frs ps)), .val (.tup (frs qs)), .own (fs (F i qs.length)), .val (fr (ps.getD i 0)), s4, s5, .val (.int i)] := by
    intro i hi s4 s5 n4 n5
    obtain ⟨en', r, p⟩ := loop_ix (tg := .t [5, 4]) (b := runL (exS T big none false 38) [.setI 2 (.pr .add [.v 6, .v 5]) (.call ad [.pr .ix [.bw 2, .pr .add [.v 6, .v 5]], .call mu [.v 3, .v 4] []] [])])
      (P := fun j en => ∃ s4 s5, NoW s4 ∧ NoW s5 ∧ en = [.val (.tup (frs ps)), .val (.tup (frs qs)), .own (fs (F i j)), .val (fr (ps.getD i 0)), s4, s5, .val (.int i)]) (enumD 0 (frs qs)) 0 [.val (.tup (frs ps)), .val (.tup (frs qs)), .own (fs (F i 0)), .val (fr (ps.getD i 0)), s4, s5, .val (.int i)]
      (fun j d en hd p => by
        obtain ⟨s4, s5, n4, n5, rfl⟩ := p
        obtain ⟨x, hx, rfl⟩ := enumD_at _ _ _ _ hd
        obtain ⟨hj, rfl⟩ := frs_at hx
        rw [Nat.zero_add] at *
        have lt : i + j < n := by show i + j < ps.length + qs.length - 1; omega
        have e0 : (i : Int) + (j : Int) = ((i + j : Nat) : Int) := by omega
        have ix : ixL (fs (F i j)) ((i + j : Nat) : Int) = .ok (fr (F i j (i + j))) := ixl_nat (frs_range_at lt)
        have e1 : F i j (i + j) + ps.getD i 0 * qs.getD j 0 = F i (j + 1) (i + j) := by
          show (if i ≤ i + j ∧ i + j - i < j then cv ps qs (i + j) (i + 1) else cv ps qs (i + j) i) + _ = if i ≤ i + j ∧ i + j - i < j + 1 then cv ps qs (i + j) (i + 1) else cv ps qs (i + j) i
          rw [if_neg (by omega), if_pos (by omega), cv_yes (by omega)]
          rw [show i + j - i = j by omega]
        have e2 : (fs (F i j)).set (i + j) (fr (F i (j + 1) (i + j))) = fs (F i (j + 1)) := range_set lt fun r hr => by
          show (if i ≤ r ∧ r - i < j then _ else _) = if i ≤ r ∧ r - i < j + 1 then _ else _
          by_cases c : i ≤ r ∧ r - i < j
          · rw [if_pos c, if_pos (by omega)]
          · rw [if_neg c, if_neg (by omega)]
        have len : (fs (F i j)).length = n := by
          show (frs ((List.range n).map (F i j))).length = n
          rw [frs_len, List.length_map, List.length_range]
        have st : ∀ v : D, setR1 2 v (.int ((i + j : Nat) : Int), [.val (.tup (frs ps)), .val (.tup (frs qs)), .own (fs (F i j)), .val (fr (ps.getD i 0)), .val (fr (qs.getD j 0)), .val (.int j), .val (.int i)]) = .nx [.val (.tup (frs ps)), .val (.tup (frs qs)), .own ((fs (F i j)).set (i + j) v), .val (fr (ps.getD i 0)), .val (fr (qs.getD j 0)), .val (.int j), .val (.int i)] := fun v => setR1_ok (i := 2) (l := fs (F i j)) (en := [.val (.tup (frs ps)), .val (.tup (frs qs)), .own (fs (F i j)), .val (fr (ps.getD i 0)), .val (fr (qs.getD j 0)), .val (.int j), .val (.int i)]) (j := i + j) rfl (by rw [len]; exact ixn_nat lt)
        have c1 := fun en => mu_cr (en := en) m (h _ (getD_mem hi)) (g _ (getD_mem hj)) (by omega)
        have c2 := fun en => ad_cr (en := en) (k := 3900) a ((hF i j (i + j)).mono (by omega)) (((h _ (getD_mem hi)).mul (g _ (getD_mem hj))).mono (by omega)) (by omega)
        refine ⟨[.val (.tup (frs ps)), .val (.tup (frs qs)), .own (fs (F i j)), .val (fr (ps.getD i 0)), .val (fr (qs.getD j 0)), .val (.int j), .val (.int i)], [.val (.tup (frs ps)), .val (.tup (frs qs)), .own (fs (F i (j + 1))), .val (fr (ps.getD i 0)), .val (fr (qs.getD j 0)), .val (.int j), .val (.int i)], ?_, ?_, .val (fr (qs.getD j 0)), .val (.int j), now_val _, now_val _, rfl⟩
        · rw [st_t, sm_cons, w_s, w_s, w_s, w_s, w_s, n5]
          show (if (ownAt [.val (.tup (frs ps)), .val (.tup (frs qs)), .own (fs (F i j)), .val (fr (ps.getD i 0)), s4, .val (.int j), .val (.int i)] 4).isSome then none else _) = _
          rw [w_s, w_s, w_s, w_s, n4]
          rfl
        · simp only [b_ok, b_bad, b_ex, o_ok, o_bad, o_ex, s_nx, s_rt, s_bk, s_ct, s_bad, t_nx, t_ct, t_bk, t_rt, t_bad, e_c, e_v, e_g, e_pr, e_and, e_or, e_ite, and_bl, or_bl, ite_bl, a_nil, a_c, a_g, a_v, a_pr, a_and, a_or, a_ite, a_ch, a_call, a_lc, cons_ok, a_bw, a_io, v_0, v_s, w_0, w_v, w_n, w_s, rd_nil, rd_d, rd_b, r_nil, r_d, r_b, r_o, om_some, ix_0, ix_1, ix_2, l_nil, l_cons, x_asg, x_ret, x_ite, iteO_bl, x_stop, p_add_i, p_sub_i, p_neg_i, p_mul_i, p_fdiv_i, p_mod_i, p_ix_t, p_ix_l, p_lt_i, p_le_i, p_gt_i, p_ge_i, p_abs_i, p_not_b, p_len_t, p_len_l, p_tup0, p_tup1, p_tup2, p_tup3, p_lst0, p_lst1, p_lst2, p_eq_i, p_ne_i, prR, asgR, st_n, st_t, sm_nil, sm_cons, List.set_cons_zero, List.set_cons_succ, fls_iff, tru_iff, n_isSome, s_isSome, if_true, if_false, Bool.false_eq_true, Bool.true_eq_false, x_setI, setR_eq, x_app, x_for, x_par, parR, el_nil, el_cons, elc_ok, x_whl, x_retF, x_pop, e_lc, e0, ix, e_call _ _ _ a.1, e_call _ _ _ m.1, c1, c2, e1, st, e2])
      ⟨s4, s5, n4, n5, rfl⟩
    have len : ∀ (l : List D) (k : Nat), (enumD k l).length = l.length := by
      intro l
      induction l with
      | nil => intro k; rfl
      | cons d l ih =>
        intro k
        show (enumD (k + 1) l).length + 1 = _
        rw [ih, List.length_cons]
    rw [len, frs_len, Nat.zero_add] at p
    exact ⟨en', r, p⟩
  have row : ∀ i, i < ps.length → F i qs.length = F (i + 1) 0 := fun i hi => by
    funext r
    show (if i ≤ r ∧ r - i < qs.length then cv ps qs r (i + 1) else cv ps qs r i) = if i + 1 ≤ r ∧ r - (i + 1) < 0 then cv ps qs r (i + 1 + 1) else cv ps qs r (i + 1)
    rw [if_neg (show ¬ (i + 1 ≤ r ∧ r - (i + 1) < 0) by omega)]
    by_cases c : i ≤ r ∧ r - i < qs.length
    · rw [if_pos c]
    · rw [if_neg c, cv_no (by omega)]
  have it : ∀ l : List D, items .enum [.tup l] = some (enumD 0 l) := fun _ => rfl
  obtain ⟨en', r1, s3, s4, s5, s6, n3, n4, n5, n6, rfl⟩ := loop_ix (tg := .t [6, 3]) (b := runL (exS T big none false 39) [.for_ (.t [5, 4]) .enum [.v 1] [.setI 2 (.pr .add [.v 6, .v 5]) (.call ad [.pr .ix [.bw 2, .pr .add [.v 6, .v 5]], .call mu [.v 3, .v 4] []] [])]])
      (P := fun i en => ∃ s3 s4 s5 s6, NoW s3 ∧ NoW s4 ∧ NoW s5 ∧ NoW s6 ∧ en = [.val (.tup (frs ps)), .val (.tup (frs qs)), .own (fs (F i 0)), s3, s4, s5, s6]) (enumD 0 (frs ps)) 0 [.val (.tup (frs ps)), .val (.tup (frs qs)), .own (fs (F 0 0)), .no, .no, .no, .no]
      (fun i d en hd p => by
        obtain ⟨s3, s4, s5, s6, n3, n4, n5, n6, rfl⟩ := p
        obtain ⟨x, hx, rfl⟩ := enumD_at _ _ _ _ hd
        obtain ⟨hi, rfl⟩ := frs_at hx
        rw [Nat.zero_add] at *
        obtain ⟨en', r, s4', s5', m4, m5, rfl⟩ := inner i hi s4 s5 n4 n5
        rw [row i hi] at r
        refine ⟨[.val (.tup (frs ps)), .val (.tup (frs qs)), .own (fs (F i 0)), .val (fr (ps.getD i 0)), s4, s5, .val (.int i)], _, ?_, ?_, .val (fr (ps.getD i 0)), s4', s5', .val (.int i), now_val _, m4, m5, now_val _, rfl⟩
        · rw [st_t, sm_cons, w_s, w_s, w_s, w_s, w_s, w_s, n6]
          show (if (ownAt [.val (.tup (frs ps)), .val (.tup (frs qs)), .own (fs (F i 0)), s3, s4, s5, .val (.int i)] 3).isSome then none else _) = _
          rw [w_s, w_s, w_s, n3]
          rfl
        · simp only [b_ok, b_bad, b_ex, o_ok, o_bad, o_ex, s_nx, s_rt, s_bk, s_ct, s_bad, t_nx, t_ct, t_bk, t_rt, t_bad, e_c, e_v, e_g, e_pr, e_and, e_or, e_ite, and_bl, or_bl, ite_bl, a_nil, a_c, a_g, a_v, a_pr, a_and, a_or, a_ite, a_ch, a_call, a_lc, cons_ok, a_bw, a_io, v_0, v_s, w_0, w_v, w_n, w_s, rd_nil, rd_d, rd_b, r_nil, r_d, r_b, r_o, om_some, ix_0, ix_1, ix_2, l_nil, l_cons, x_asg, x_ret, x_ite, iteO_bl, x_stop, p_add_i, p_sub_i, p_neg_i, p_mul_i, p_fdiv_i, p_mod_i, p_ix_t, p_ix_l, p_lt_i, p_le_i, p_gt_i, p_ge_i, p_abs_i, p_not_b, p_len_t, p_len_l, p_tup0, p_tup1, p_tup2, p_tup3, p_lst0, p_lst1, p_lst2, p_eq_i, p_ne_i, prR, asgR, st_n, st_t, sm_nil, sm_cons, List.set_cons_zero, List.set_cons_succ, fls_iff, tru_iff, n_isSome, s_isSome, if_true, if_false, Bool.false_eq_true, Bool.true_eq_false, x_setI, setR_eq, x_app, x_for, x_par, parR, el_nil, el_cons, elc_ok, x_whl, x_retF, x_pop, e_lc, forR_ok (it _), r])
      ⟨.no, .no, .no, .no, now_no, now_no, now_no, now_no, rfl⟩
  have len : ∀ (l : List D) (k : Nat), (enumD k l).length = l.length := by
    intro l
    induction l with
    | nil => intro k; rfl
    | cons d l ih =>
      intro k
      show (enumD (k + 1) l).length + 1 = _
      rw [ih, List.length_cons]
  rw [len, frs_len, Nat.zero_add] at r1
  have e9 : fs (F ps.length 0) = frs (prod ps qs) := by
    show frs ((List.range n).map (F ps.length 0)) = frs ((List.range n).map fun k => cv ps qs k ps.length)
    congr 2
    funext r
    exact if_neg (by omega)
  rw [e9] at r1
  have e8 : fs (F 0 0) = List.replicate n (fr 0) := by
    show frs ((List.range n).map (F 0 0)) = _
    apply List.ext_getElem?
    intro i
    by_cases c : i < n
    · rw [frs_range_at c, List.getElem?_replicate, if_pos c]
      rfl
    · rw [List.getElem?_eq_none (by rw [frs_len, List.length_map, List.length_range]; omega), List.getElem?_eq_none (by rw [List.length_replicate]; omega)]
  rw [e8] at r1
  exact pr_end zr t h g k1 hk hp hq rfl r1
end Vm
end
section
set_option Elab.async false
set_option linter.all false
set_option maxRecDepth 100000
namespace Vm
open PySem PySem.Spec L2
theorem rngD_at {n i : Nat} {d : D} (h : (rngD 0 n)[i]? = some d) : i < n ∧ d = .int i := by
  unfold rngD at h
  rw [List.getElem?_map] at h
  by_cases c : i < n
  · rw [List.getElem?_range c] at h
    refine ⟨c, ?_⟩
    have := (Option.some.inj h).symm
    rw [this]
    show D.int (0 + (i : Int)) = _
    rw [Int.zero_add]
  · rw [List.getElem?_eq_none (by simpa using c)] at h
    cases h
theorem rng1_nat {n : Nat} (h : n ≤ 100000) : items .rng1 [.int (n : Int)] = some (rngD 0 n) := by
  have e : (2 : Int) ^ 62 = 4611686018427387904 := by decide
  rw [rng1_items ⟨by rw [e]; omega, by rw [e]; omega⟩, Int.toNat_natCast]
/-- a loop whose items stay closed -/
theorem x_for1 {T : Tab} {n K : Nat} {io : Option Nat} {fr : Bool} {tg : Tg} {k : Ik} {e : E} {b : List S} {d : D} {ds : List D} {en en1 : En} (h : evE T n e en = .ok (d, en1)) (hi : items k [d] = some ds) : exS T K io fr (n + 1) (.for_ tg k [e] b) en = loopF tg (runL (exS T K io fr n) b) ds en1 := by
  rw [x_for, el_cons, h, b_ok, elc_ok, el_nil, b_ok, o_ok, forR_ok hi]
def lpN (ps qs : List Rat) : Nat := if ps = [] ∨ qs = [] then 0 else ps.length + qs.length - 1
def lprod (ps qs : List Rat) (n : Nat) : List Rat := (List.range n).map fun k => cv ps qs k (k + 1)
theorem lprod_eq (ps qs : List Rat) : trim (lprod ps qs (lpN ps qs)) = trim (prod ps qs) := by
  unfold lpN
  by_cases c : ps = [] ∨ qs = []
  · rw [if_pos c]
    have e : prod ps qs = [] ++ List.replicate (ps.length + qs.length - 1) 0 := by
      unfold prod
      apply List.ext_getElem?
      intro i
      rw [List.nil_append, List.getElem?_map, List.getElem?_replicate]
      by_cases d : i < ps.length + qs.length - 1
      · rw [if_pos d, List.getElem?_range d]
        show some (cv ps qs i ps.length) = _
        rw [cv_nil c]
      · rw [if_neg d, List.getElem?_eq_none (by simpa using d)]
        rfl
    rw [e, trim_zeros]
    rfl
  · rw [if_neg c]
    unfold lprod prod
    congr 2
    funext k
    exact (cv_end k).symm
def lpCode (ad mu tr : Str) : List S := [
  .asgO 3 (.pr .lst []),
  .for_ (.n 5) .rng1 [.ite (.and_ (.pr .ne [.v 0, .pr .tup []]) (.pr .ne [.v 1, .pr .tup []])) (.pr .sub [.pr .add [.pr .len [.v 0], .pr .len [.v 1]], .c (.int 1)]) (.c (.int 0))] [.asg (.n 2) (.pr .tup [.c (.int 0), .c (.int 1)]), .for_ (.n 4) .rng1 [.pr .add [.v 5, .c (.int 1)]] [.ite (.and_ (.pr .lt [.v 4, .pr .len [.v 0]]) (.pr .lt [.pr .sub [.v 5, .v 4], .pr .len [.v 1]])) [.asg (.n 2) (.call ad [.v 2, .call mu [.pr .ix [.v 0, .v 4], .pr .ix [.v 1, .pr .sub [.v 5, .v 4]]] []] [])] []], .app 3 (.v 2)],
  .ret (.call tr [.bw 3] [])]
def lpDef (ad mu tr : Str) : Fd := ⟨"_law_product", 2, 6, none, false, 40, lpCode ad mu tr, []⟩
def lpIn (ad mu : Str) : List S := [.ite (.and_ (.pr .lt [.v 4, .pr .len [.v 0]]) (.pr .lt [.pr .sub [.v 5, .v 4], .pr .len [.v 1]])) [.asg (.n 2) (.call ad [.v 2, .call mu [.pr .ix [.v 0, .v 4], .pr .ix [.v 1, .pr .sub [.v 5, .v 4]]] []] [])] []]
theorem lp_in {T : Tab} {ad mu : Str} {k : Nat} {ps qs : List Rat} (a : Ad T ad) (m : Mu T mu) (h : HtA k ps) (g : HtA k qs) (hk : 1 + ps.length * (k + k + 1) ≤ 1900) (k2 : k ≤ 900) (r : Nat) (own : List D) (s4 : Slot) (n4 : NoW s4) :
    ∃ en', loopF (.n 4) (runL (exS T big none false 38) (lpIn ad mu)) (rngD 0 (r + 1)) [.val (.tup (frs ps)), .val (.tup (frs qs)), .val (fr 0), .own own, s4, .val (.int r)] = .nx en' ∧ ∃ s4, NoW s4 ∧ en' = [.val (.tup (frs ps)), .val (.tup (frs qs)), .val (fr (cv ps qs r (r + 1))), .own own, s4, .val (.int r)] := by
  obtain ⟨en', e, p⟩ := loop_ix (tg := .n 4) (b := runL (exS T big none false 38) (lpIn ad mu))
    (P := fun i en => ∃ s4, NoW s4 ∧ en = [.val (.tup (frs ps)), .val (.tup (frs qs)), .val (fr (cv ps qs r i)), .own own, s4, .val (.int r)]) (rngD 0 (r + 1)) 0 [.val (.tup (frs ps)), .val (.tup (frs qs)), .val (fr 0), .own own, s4, .val (.int r)]
    (fun i d en hd p => by
      obtain ⟨s4, n4, rfl⟩ := p
      obtain ⟨hi, rfl⟩ := rngD_at hd
      rw [Nat.zero_add]
      refine ⟨[.val (.tup (frs ps)), .val (.tup (frs qs)), .val (fr (cv ps qs r i)), .own own, .val (.int i), .val (.int r)], [.val (.tup (frs ps)), .val (.tup (frs qs)), .val (fr (cv ps qs r (i + 1))), .own own, .val (.int i), .val (.int r)], ?_, ?_, .val (.int i), now_val _, rfl⟩
      · rw [st_n, w_s, w_s, w_s, w_s, n4]
        rfl
      · have e0 : (r : Int) - (i : Int) = ((r - i : Nat) : Int) := by omega
        unfold lpIn
        by_cases c1 : i < ps.length
        · have d1 : decide ((i : Int) < ((frs ps).length : Int)) = true := decide_eq_true (by rw [frs_len]; omega)
          by_cases c2 : r - i < qs.length
          · have d2 : decide (((r - i : Nat) : Int) < ((frs qs).length : Int)) = true := decide_eq_true (by rw [frs_len]; omega)
            have x1 : ixL (frs ps) (i : Int) = .ok (fr (ps.getD i 0)) := ixl_nat (frs_get c1)
            have x2 : ixL (frs qs) ((r - i : Nat) : Int) = .ok (fr (qs.getD (r - i) 0)) := ixl_nat (frs_get c2)
            have c1' := fun en => mu_cr (en := en) m (h _ (getD_mem c1)) (g _ (getD_mem c2)) (by omega)
            have c2' := fun en => ad_cr (en := en) (k := 3900) a ((cv_ht (k := r) h g i).mono (by omega)) (((h _ (getD_mem c1)).mul (g _ (getD_mem c2))).mono (by omega)) (by omega)
            rw [cv_yes ⟨by omega, c1, c2⟩]
            simp only [b_ok, b_bad, b_ex, o_ok, o_bad, o_ex, s_nx, s_rt, s_bk, s_ct, s_bad, t_nx, t_ct, t_bk, t_rt, t_bad, e_c, e_v, e_g, e_pr, e_and, e_or, e_ite, and_bl, or_bl, ite_bl, a_nil, a_c, a_g, a_v, a_pr, a_and, a_or, a_ite, a_ch, a_call, a_lc, cons_ok, a_bw, a_io, v_0, v_s, w_0, w_v, w_n, w_s, rd_nil, rd_d, rd_b, r_nil, r_d, r_b, r_o, om_some, ix_0, ix_1, ix_2, l_nil, l_cons, x_asg, x_ret, x_ite, iteO_bl, x_stop, p_add_i, p_sub_i, p_neg_i, p_mul_i, p_fdiv_i, p_mod_i, p_ix_t, p_ix_l, p_lt_i, p_le_i, p_gt_i, p_ge_i, p_abs_i, p_not_b, p_len_t, p_len_l, p_tup0, p_tup1, p_tup2, p_tup3, p_lst0, p_lst1, p_lst2, p_eq_i, p_ne_i, prR, asgR, st_n, st_t, sm_nil, sm_cons, List.set_cons_zero, List.set_cons_succ, fls_iff, tru_iff, n_isSome, s_isSome, if_true, if_false, Bool.false_eq_true, Bool.true_eq_false, x_setI, setR_eq, x_app, x_for, x_par, parR, el_nil, el_cons, elc_ok, x_whl, x_retF, x_pop, e_lc, d1, e0, d2, x1, x2, e_call _ _ _ a.1, e_call _ _ _ m.1, c1', c2']
          · have d2 : decide (((r - i : Nat) : Int) < ((frs qs).length : Int)) = false := decide_eq_false (by rw [frs_len]; omega)
            rw [cv_no (by omega)]
            simp only [b_ok, b_bad, b_ex, o_ok, o_bad, o_ex, s_nx, s_rt, s_bk, s_ct, s_bad, t_nx, t_ct, t_bk, t_rt, t_bad, e_c, e_v, e_g, e_pr, e_and, e_or, e_ite, and_bl, or_bl, ite_bl, a_nil, a_c, a_g, a_v, a_pr, a_and, a_or, a_ite, a_ch, a_call, a_lc, cons_ok, a_bw, a_io, v_0, v_s, w_0, w_v, w_n, w_s, rd_nil, rd_d, rd_b, r_nil, r_d, r_b, r_o, om_some, ix_0, ix_1, ix_2, l_nil, l_cons, x_asg, x_ret, x_ite, iteO_bl, x_stop, p_add_i, p_sub_i, p_neg_i, p_mul_i, p_fdiv_i, p_mod_i, p_ix_t, p_ix_l, p_lt_i, p_le_i, p_gt_i, p_ge_i, p_abs_i, p_not_b, p_len_t, p_len_l, p_tup0, p_tup1, p_tup2, p_tup3, p_lst0, p_lst1, p_lst2, p_eq_i, p_ne_i, prR, asgR, st_n, st_t, sm_nil, sm_cons, List.set_cons_zero, List.set_cons_succ, fls_iff, tru_iff, n_isSome, s_isSome, if_true, if_false, Bool.false_eq_true, Bool.true_eq_false, x_setI, setR_eq, x_app, x_for, x_par, parR, el_nil, el_cons, elc_ok, x_whl, x_retF, x_pop, e_lc, d1, e0, d2]
        · have d1 : decide ((i : Int) < ((frs ps).length : Int)) = false := decide_eq_false (by rw [frs_len]; omega)
          rw [cv_no (by omega)]
          simp only [b_ok, b_bad, b_ex, o_ok, o_bad, o_ex, s_nx, s_rt, s_bk, s_ct, s_bad, t_nx, t_ct, t_bk, t_rt, t_bad, e_c, e_v, e_g, e_pr, e_and, e_or, e_ite, and_bl, or_bl, ite_bl, a_nil, a_c, a_g, a_v, a_pr, a_and, a_or, a_ite, a_ch, a_call, a_lc, cons_ok, a_bw, a_io, v_0, v_s, w_0, w_v, w_n, w_s, rd_nil, rd_d, rd_b, r_nil, r_d, r_b, r_o, om_some, ix_0, ix_1, ix_2, l_nil, l_cons, x_asg, x_ret, x_ite, iteO_bl, x_stop, p_add_i, p_sub_i, p_neg_i, p_mul_i, p_fdiv_i, p_mod_i, p_ix_t, p_ix_l, p_lt_i, p_le_i, p_gt_i, p_ge_i, p_abs_i, p_not_b, p_len_t, p_len_l, p_tup0, p_tup1, p_tup2, p_tup3, p_lst0, p_lst1, p_lst2, p_eq_i, p_ne_i, prR, asgR, st_n, st_t, sm_nil, sm_cons, List.set_cons_zero, List.set_cons_succ, fls_iff, tru_iff, n_isSome, s_isSome, if_true, if_false, Bool.false_eq_true, Bool.true_eq_false, x_setI, setR_eq, x_app, x_for, x_par, parR, el_nil, el_cons, elc_ok, x_whl, x_retF, x_pop, e_lc, d1, e0])
    ⟨s4, n4, rfl⟩
  rw [rngD_len, Nat.zero_add] at p
  exact ⟨en', e, p⟩
theorem lp_cnt {T : Tab} {k : Nat} {ps qs : List Rat} (h : HtA k ps) (g : HtA k qs) (hk : k ≤ 1919) : evE T 39 (.ite (.and_ (.pr .ne [.v 0, .pr .tup []]) (.pr .ne [.v 1, .pr .tup []])) (.pr .sub [.pr .add [.pr .len [.v 0], .pr .len [.v 1]], .c (.int 1)]) (.c (.int 0))) [.val (.tup (frs ps)), .val (.tup (frs qs)), .no, .own [], .no, .no] = .ok (.int ((lpN ps qs : Nat) : Int), [.val (.tup (frs ps)), .val (.tup (frs qs)), .no, .own [], .no, .no]) := by
  have t1 := tne_nil h hk
  have t2 := tne_nil g hk
  unfold lpN
  cases ps with
  | nil =>
    have e : (!([] : List Rat).isEmpty) = false := rfl
    rw [e] at t1
    simp only [b_ok, b_bad, b_ex, o_ok, o_bad, o_ex, s_nx, s_rt, s_bk, s_ct, s_bad, t_nx, t_ct, t_bk, t_rt, t_bad, e_c, e_v, e_g, e_pr, e_and, e_or, e_ite, and_bl, or_bl, ite_bl, a_nil, a_c, a_g, a_v, a_pr, a_and, a_or, a_ite, a_ch, a_call, a_lc, cons_ok, a_bw, a_io, v_0, v_s, w_0, w_v, w_n, w_s, rd_nil, rd_d, rd_b, r_nil, r_d, r_b, r_o, om_some, ix_0, ix_1, ix_2, l_nil, l_cons, x_asg, x_ret, x_ite, iteO_bl, x_stop, p_add_i, p_sub_i, p_neg_i, p_mul_i, p_fdiv_i, p_mod_i, p_ix_t, p_ix_l, p_lt_i, p_le_i, p_gt_i, p_ge_i, p_abs_i, p_not_b, p_len_t, p_len_l, p_tup0, p_tup1, p_tup2, p_tup3, p_lst0, p_lst1, p_lst2, p_eq_i, p_ne_i, prR, asgR, st_n, st_t, sm_nil, sm_cons, List.set_cons_zero, List.set_cons_succ, fls_iff, tru_iff, n_isSome, s_isSome, if_true, if_false, Bool.false_eq_true, Bool.true_eq_false, x_setI, setR_eq, x_app, x_for, x_par, parR, el_nil, el_cons, elc_ok, x_whl, x_retF, x_pop, e_lc, t1]
    rfl
  | cons p ps =>
    have e : (!(p :: ps).isEmpty) = true := rfl
    rw [e] at t1
    cases qs with
    | nil =>
      have e : (!([] : List Rat).isEmpty) = false := rfl
      rw [e] at t2
      rw [if_pos (show p :: ps = [] ∨ ([] : List Rat) = [] from .inr rfl)]
      simp only [b_ok, b_bad, b_ex, o_ok, o_bad, o_ex, s_nx, s_rt, s_bk, s_ct, s_bad, t_nx, t_ct, t_bk, t_rt, t_bad, e_c, e_v, e_g, e_pr, e_and, e_or, e_ite, and_bl, or_bl, ite_bl, a_nil, a_c, a_g, a_v, a_pr, a_and, a_or, a_ite, a_ch, a_call, a_lc, cons_ok, a_bw, a_io, v_0, v_s, w_0, w_v, w_n, w_s, rd_nil, rd_d, rd_b, r_nil, r_d, r_b, r_o, om_some, ix_0, ix_1, ix_2, l_nil, l_cons, x_asg, x_ret, x_ite, iteO_bl, x_stop, p_add_i, p_sub_i, p_neg_i, p_mul_i, p_fdiv_i, p_mod_i, p_ix_t, p_ix_l, p_lt_i, p_le_i, p_gt_i, p_ge_i, p_abs_i, p_not_b, p_len_t, p_len_l, p_tup0, p_tup1, p_tup2, p_tup3, p_lst0, p_lst1, p_lst2, p_eq_i, p_ne_i, prR, asgR, st_n, st_t, sm_nil, sm_cons, List.set_cons_zero, List.set_cons_succ, fls_iff, tru_iff, n_isSome, s_isSome, if_true, if_false, Bool.false_eq_true, Bool.true_eq_false, x_setI, setR_eq, x_app, x_for, x_par, parR, el_nil, el_cons, elc_ok, x_whl, x_retF, x_pop, e_lc, t1, t2]
      rfl
    | cons q qs =>
      have e : (!(q :: qs).isEmpty) = true := rfl
      rw [e] at t2
      have e2 : (((frs (p :: ps)).length : Int) + ((frs (q :: qs)).length : Int) - 1) = (((p :: ps).length + (q :: qs).length - 1 : Nat) : Int) := by
        rw [frs_len, frs_len, List.length_cons, List.length_cons]
        omega
      rw [if_neg (by simp)]
      simp only [b_ok, b_bad, b_ex, o_ok, o_bad, o_ex, s_nx, s_rt, s_bk, s_ct, s_bad, t_nx, t_ct, t_bk, t_rt, t_bad, e_c, e_v, e_g, e_pr, e_and, e_or, e_ite, and_bl, or_bl, ite_bl, a_nil, a_c, a_g, a_v, a_pr, a_and, a_or, a_ite, a_ch, a_call, a_lc, cons_ok, a_bw, a_io, v_0, v_s, w_0, w_v, w_n, w_s, rd_nil, rd_d, rd_b, r_nil, r_d, r_b, r_o, om_some, ix_0, ix_1, ix_2, l_nil, l_cons, x_asg, x_ret, x_ite, iteO_bl, x_stop, p_add_i, p_sub_i, p_neg_i, p_mul_i, p_fdiv_i, p_mod_i, p_ix_t, p_ix_l, p_lt_i, p_le_i, p_gt_i, p_ge_i, p_abs_i, p_not_b, p_len_t, p_len_l, p_tup0, p_tup1, p_tup2, p_tup3, p_lst0, p_lst1, p_lst2, p_eq_i, p_ne_i, prR, asgR, st_n, st_t, sm_nil, sm_cons, List.set_cons_zero, List.set_cons_succ, fls_iff, tru_iff, n_isSome, s_isSome, if_true, if_false, Bool.false_eq_true, Bool.true_eq_false, x_setI, setR_eq, x_app, x_for, x_par, parR, el_nil, el_cons, elc_ok, x_whl, x_retF, x_pop, e_lc, t1, t2, e2]
def lpOut (ad mu : Str) : List S := [.asg (.n 2) (.pr .tup [.c (.int 0), .c (.int 1)]), .for_ (.n 4) .rng1 [.pr .add [.v 5, .c (.int 1)]] (lpIn ad mu), .app 3 (.v 2)]
theorem lp_step {T : Tab} {ad mu : Str} {k : Nat} {ps qs : List Rat} (a : Ad T ad) (m : Mu T mu) (h : HtA k ps) (g : HtA k qs) (hk : 1 + ps.length * (k + k + 1) ≤ 1900) (k2 : k ≤ 900) (i : Nat) (hi : i < 1000) (s2 s4 s5 : Slot) (n2 : NoW s2) (n4 : NoW s4) (n5 : NoW s5) :
    ∃ en1 en2, setTg (.n 5) (.int i) [.val (.tup (frs ps)), .val (.tup (frs qs)), s2, .own (frs (lprod ps qs i)), s4, s5] = some en1 ∧ runL (exS T big none false 39) (lpOut ad mu) en1 = .nx en2 ∧ ∃ s2 s4 s5, NoW s2 ∧ NoW s4 ∧ NoW s5 ∧ en2 = [.val (.tup (frs ps)), .val (.tup (frs qs)), s2, .own (frs (lprod ps qs (i + 1))), s4, s5] := by
  obtain ⟨en', r, s4', n4', rfl⟩ := lp_in a m h g hk k2 i (frs (lprod ps qs i)) s4 n4
  have e1 : (i : Int) + 1 = ((i + 1 : Nat) : Int) := by omega
  have it : items .rng1 [.int ((i + 1 : Nat) : Int)] = some (rngD 0 (i + 1)) := rng1_nat (by omega)
  have st : setTg (.n 2) (fr 0) [.val (.tup (frs ps)), .val (.tup (frs qs)), s2, .own (frs (lprod ps qs i)), s4, .val (.int i)] = some [.val (.tup (frs ps)), .val (.tup (frs qs)), .val (fr 0), .own (frs (lprod ps qs i)), s4, .val (.int i)] := by
    rw [st_n, w_s, w_s, n2]
    rfl
  have ll : (frs (lprod ps qs i)).length = i := by
    unfold lprod
    rw [frs_len, List.length_map, List.length_range]
  have ap : appR 3 (fr (cv ps qs i (i + 1)), [.val (.tup (frs ps)), .val (.tup (frs qs)), .val (fr (cv ps qs i (i + 1))), .own (frs (lprod ps qs i)), s4', .val (.int i)]) = .nx [.val (.tup (frs ps)), .val (.tup (frs qs)), .val (fr (cv ps qs i (i + 1))), .own (frs (lprod ps qs (i + 1))), s4', .val (.int i)] := by
    rw [appR_ok (l := frs (lprod ps qs i)) rfl (by rw [ll]; unfold lineN; omega)]
    have e : frs (lprod ps qs (i + 1)) = frs (lprod ps qs i) ++ [fr (cv ps qs i (i + 1))] := by
      unfold lprod
      rw [List.range_succ, List.map_append, frs_app]
      rfl
    rw [e]
    rfl
  have as : asgR (.n 2) (fr 0, [.val (.tup (frs ps)), .val (.tup (frs qs)), s2, .own (frs (lprod ps qs i)), s4, .val (.int i)]) = .nx [.val (.tup (frs ps)), .val (.tup (frs qs)), .val (fr 0), .own (frs (lprod ps qs i)), s4, .val (.int i)] := asg_some st
  have first : exS T big none false 39 (.asg (.n 2) (.pr .tup [.c (.int 0), .c (.int 1)])) [.val (.tup (frs ps)), .val (.tup (frs qs)), s2, .own (frs (lprod ps qs i)), s4, .val (.int i)] = .nx [.val (.tup (frs ps)), .val (.tup (frs qs)), .val (fr 0), .own (frs (lprod ps qs i)), s4, .val (.int i)] := by
    rw [x_asg]
    show asgR (.n 2) (fr 0, _) = _
    exact as
  refine ⟨[.val (.tup (frs ps)), .val (.tup (frs qs)), s2, .own (frs (lprod ps qs i)), s4, .val (.int i)], [.val (.tup (frs ps)), .val (.tup (frs qs)), .val (fr (cv ps qs i (i + 1))), .own (frs (lprod ps qs (i + 1))), s4', .val (.int i)], ?_, ?_, _, _, _, now_val _, n4', now_val _, rfl⟩
  · rw [st_n, w_s, w_s, w_s, w_s, w_s, n5]
    rfl
  · unfold lpOut
    have ci : evE T 38 (.pr .add [.v 5, .c (.int 1)]) [.val (.tup (frs ps)), .val (.tup (frs qs)), .val (fr 0), .own (frs (lprod ps qs i)), s4, .val (.int i)] = .ok (.int ((i + 1 : Nat) : Int), [.val (.tup (frs ps)), .val (.tup (frs qs)), .val (fr 0), .own (frs (lprod ps qs i)), s4, .val (.int i)]) := by
      simp only [b_ok, b_bad, b_ex, o_ok, o_bad, o_ex, s_nx, s_rt, s_bk, s_ct, s_bad, t_nx, t_ct, t_bk, t_rt, t_bad, e_c, e_v, e_g, e_pr, e_and, e_or, e_ite, and_bl, or_bl, ite_bl, a_nil, a_c, a_g, a_v, a_pr, a_and, a_or, a_ite, a_ch, a_call, a_lc, cons_ok, a_bw, a_io, v_0, v_s, w_0, w_v, w_n, w_s, rd_nil, rd_d, rd_b, r_nil, r_d, r_b, r_o, om_some, ix_0, ix_1, ix_2, l_nil, l_cons, x_asg, x_ret, x_ite, iteO_bl, x_stop, p_add_i, p_sub_i, p_neg_i, p_mul_i, p_fdiv_i, p_mod_i, p_ix_t, p_ix_l, p_lt_i, p_le_i, p_gt_i, p_ge_i, p_abs_i, p_not_b, p_len_t, p_len_l, p_tup0, p_tup1, p_tup2, p_tup3, p_lst0, p_lst1, p_lst2, p_eq_i, p_ne_i, prR, asgR, st_n, st_t, sm_nil, sm_cons, List.set_cons_zero, List.set_cons_succ, fls_iff, tru_iff, n_isSome, s_isSome, if_true, if_false, Bool.false_eq_true, Bool.true_eq_false, x_setI, setR_eq, x_app, x_for, x_par, parR, el_nil, el_cons, elc_ok, x_whl, x_retF, x_pop, e_lc, e1]
    rw [l_cons, first, s_nx, l_cons, x_for1 ci it, r]
    simp only [b_ok, b_bad, b_ex, o_ok, o_bad, o_ex, s_nx, s_rt, s_bk, s_ct, s_bad, t_nx, t_ct, t_bk, t_rt, t_bad, e_c, e_v, e_g, e_pr, e_and, e_or, e_ite, and_bl, or_bl, ite_bl, a_nil, a_c, a_g, a_v, a_pr, a_and, a_or, a_ite, a_ch, a_call, a_lc, cons_ok, a_bw, a_io, v_0, v_s, w_0, w_v, w_n, w_s, rd_nil, rd_d, rd_b, r_nil, r_d, r_b, r_o, om_some, ix_0, ix_1, ix_2, l_nil, l_cons, x_asg, x_ret, x_ite, iteO_bl, x_stop, p_add_i, p_sub_i, p_neg_i, p_mul_i, p_fdiv_i, p_mod_i, p_ix_t, p_ix_l, p_lt_i, p_le_i, p_gt_i, p_ge_i, p_abs_i, p_not_b, p_len_t, p_len_l, p_tup0, p_tup1, p_tup2, p_tup3, p_lst0, p_lst1, p_lst2, p_eq_i, p_ne_i, prR, asgR, st_n, st_t, sm_nil, sm_cons, List.set_cons_zero, List.set_cons_succ, fls_iff, tru_iff, n_isSome, s_isSome, if_true, if_false, Bool.false_eq_true, Bool.true_eq_false, x_setI, setR_eq, x_app, x_for, x_par, parR, el_nil, el_cons, elc_ok, x_whl, x_retF, x_pop, e_lc, ap]
theorem lp_run {T : Tab} {ad mu tr : Str} {k : Nat} {ps qs : List Rat} (a : Ad T ad) (m : Mu T mu) (t : Tr T tr) (h : HtA k ps) (g : HtA k qs) (k1 : 1 ≤ k) (hk : 1 + ps.length * (k + k + 1) ≤ 1900) (k2 : k ≤ 900) (hp : ps.length ≤ 400) (hq : qs.length ≤ 400) :
    runFd T big (lpDef ad mu tr) [.val (.tup (frs ps)), .val (.tup (frs qs))] = .ok (.tup (frs (trim (prod ps qs))), none) := by
  have z0 : (D.tup [.int 0, .int 1]) = fr 0 := rfl
  have n3 : (none : Option Nat) ≠ some 3 := fun z => nomatch z
  have hN : lpN ps qs ≤ 1000 := by
    unfold lpN
    split <;> omega
  obtain ⟨en', r1, s2, s4, s5, m2, m4, m5, rfl⟩ := loop_ix (tg := .n 5) (b := runL (exS T big none false 39) [.asg (.n 2) (.pr .tup [.c (.int 0), .c (.int 1)]), .for_ (.n 4) .rng1 [.pr .add [.v 5, .c (.int 1)]] (lpIn ad mu), .app 3 (.v 2)])
    (P := fun i en => ∃ s2 s4 s5, NoW s2 ∧ NoW s4 ∧ NoW s5 ∧ en = [.val (.tup (frs ps)), .val (.tup (frs qs)), s2, .own (frs (lprod ps qs i)), s4, s5]) (rngD 0 (lpN ps qs)) 0 [.val (.tup (frs ps)), .val (.tup (frs qs)), .no, .own [], .no, .no]
    (fun i d en hd p => by
      obtain ⟨s2, s4, s5, n2, n4, n5, rfl⟩ := p
      obtain ⟨hi, rfl⟩ := rngD_at hd
      rw [Nat.zero_add] at *
      exact lp_step a m h g hk k2 i (by omega) s2 s4 s5 n2 n4 n5)
    ⟨.no, .no, .no, now_no, now_no, now_no, rfl⟩
  rw [rngD_len, Nat.zero_add] at r1
  have hl : HtA (1 + ps.length * (k + k + 1)) (lprod ps qs (lpN ps qs)) := fun q hq => by
    obtain ⟨r, _, rfl⟩ := List.mem_map.mp hq
    exact cv_ht h g _
  have it : items .rng1 [.int ((lpN ps qs : Nat) : Int)] = some (rngD 0 (lpN ps qs)) := rng1_nat (by omega)
  have c3 : callR T tr [] ([.b 3], [.val (.tup (frs ps)), .val (.tup (frs qs)), s2, .own (frs (lprod ps qs (lpN ps qs))), s4, s5]) = .ok (.tup (frs (trim (prod ps qs))), [.val (.tup (frs ps)), .val (.tup (frs qs)), s2, .own (frs (lprod ps qs (lpN ps qs))), s4, s5]) := by
    rw [← lprod_eq]
    exact tr_crB t rfl hl (by omega) (by omega) (by unfold lprod; rw [List.length_map, List.length_range]; omega)
  have cnt := lp_cnt (T := T) h g (by omega)
  show endOf none false (runL (exS T big none false 40) (lpCode ad mu tr) [.val (.tup (frs ps)), .val (.tup (frs qs)), .no, .no, .no, .no]) = _
  have e0 : lpCode ad mu tr = [.asgO 3 (.pr .lst []), .for_ (.n 5) .rng1 [.ite (.and_ (.pr .ne [.v 0, .pr .tup []]) (.pr .ne [.v 1, .pr .tup []])) (.pr .sub [.pr .add [.pr .len [.v 0], .pr .len [.v 1]], .c (.int 1)]) (.c (.int 0))] [.asg (.n 2) (.pr .tup [.c (.int 0), .c (.int 1)]), .for_ (.n 4) .rng1 [.pr .add [.v 5, .c (.int 1)]] (lpIn ad mu), .app 3 (.v 2)], .ret (.call tr [.bw 3] [])] := rfl
  rw [e0]
  have first : exS T big none false 40 (.asgO 3 (.pr .lst [])) [.val (.tup (frs ps)), .val (.tup (frs qs)), .no, .no, .no, .no] = .nx [.val (.tup (frs ps)), .val (.tup (frs qs)), .no, .own [], .no, .no] := by
    simp only [b_ok, b_bad, b_ex, o_ok, o_bad, o_ex, s_nx, s_rt, s_bk, s_ct, s_bad, t_nx, t_ct, t_bk, t_rt, t_bad, e_c, e_v, e_g, e_pr, e_and, e_or, e_ite, and_bl, or_bl, ite_bl, a_nil, a_c, a_g, a_v, a_pr, a_and, a_or, a_ite, a_ch, a_call, a_lc, cons_ok, a_bw, a_io, v_0, v_s, w_0, w_v, w_n, w_s, rd_nil, rd_d, rd_b, r_nil, r_d, r_b, r_o, om_some, ix_0, ix_1, ix_2, l_nil, l_cons, x_asg, x_ret, x_ite, iteO_bl, x_stop, p_add_i, p_sub_i, p_neg_i, p_mul_i, p_fdiv_i, p_mod_i, p_ix_t, p_ix_l, p_lt_i, p_le_i, p_gt_i, p_ge_i, p_abs_i, p_not_b, p_len_t, p_len_l, p_tup0, p_tup1, p_tup2, p_tup3, p_lst0, p_lst1, p_lst2, p_eq_i, p_ne_i, prR, asgR, st_n, st_t, sm_nil, sm_cons, List.set_cons_zero, List.set_cons_succ, fls_iff, tru_iff, n_isSome, s_isSome, if_true, if_false, Bool.false_eq_true, Bool.true_eq_false, x_setI, setR_eq, x_app, x_for, x_par, parR, el_nil, el_cons, elc_ok, x_whl, x_retF, x_pop, e_lc, x_asgO _ _ n3]
  rw [l_cons, first, s_nx, l_cons, x_for1 cnt it, r1]
  simp only [b_ok, b_bad, b_ex, o_ok, o_bad, o_ex, s_nx, s_rt, s_bk, s_ct, s_bad, t_nx, t_ct, t_bk, t_rt, t_bad, e_c, e_v, e_g, e_pr, e_and, e_or, e_ite, and_bl, or_bl, ite_bl, a_nil, a_c, a_g, a_v, a_pr, a_and, a_or, a_ite, a_ch, a_call, a_lc, cons_ok, a_bw, a_io, v_0, v_s, w_0, w_v, w_n, w_s, rd_nil, rd_d, rd_b, r_nil, r_d, r_b, r_o, om_some, ix_0, ix_1, ix_2, l_nil, l_cons, x_asg, x_ret, x_ite, iteO_bl, x_stop, p_add_i, p_sub_i, p_neg_i, p_mul_i, p_fdiv_i, p_mod_i, p_ix_t, p_ix_l, p_lt_i, p_le_i, p_gt_i, p_ge_i, p_abs_i, p_not_b, p_len_t, p_len_l, p_tup0, p_tup1, p_tup2, p_tup3, p_lst0, p_lst1, p_lst2, p_eq_i, p_ne_i, prR, asgR, st_n, st_t, sm_nil, sm_cons, List.set_cons_zero, List.set_cons_succ, fls_iff, tru_iff, n_isSome, s_isSome, if_true, if_false, Bool.false_eq_true, Bool.true_eq_false, x_setI, setR_eq, x_app, x_for, x_par, parR, el_nil, el_cons, elc_ok, x_whl, x_retF, x_pop, e_lc, e_call _ _ _ t.1, c3]
  rfl
end Vm
end
section
set_option Elab.async false
set_option linter.all false
set_option maxRecDepth 100000
namespace Vm
open PySem PySem.Spec L2
/-! no zero at the end -/
def Nz (ps : List Rat) : Prop := ∀ q, ps.getLast? = some q → q ≠ 0
theorem trimR_nz : ∀ (rs : List Rat) (q : Rat), (trimR rs).head? = some q → q ≠ 0
  | [], q, h => by cases h
  | r :: rs, q, h => by
    by_cases c : r = 0
    · rw [show trimR (r :: rs) = trimR rs from if_pos c] at h
      exact trimR_nz rs q h
    · rw [trimR_one c] at h
      have e : r = q := Option.some.inj h
      rw [← e]
      exact c
theorem nz_trim (ps : List Rat) : Nz (trim ps) := fun q h => by
  unfold trim at h
  rw [List.getLast?_reverse] at h
  exact trimR_nz _ q h
theorem trim_nz {ps : List Rat} (h : Nz ps) : trim ps = ps := by
  unfold trim
  have e : trimR ps.reverse = ps.reverse := by
    cases hr : ps.reverse with
    | nil => rfl
    | cons q rs =>
      refine trimR_one (h q ?_)
      rw [← List.head?_reverse, hr]
      rfl
  rw [e, List.reverse_reverse]
theorem last_map {ps : List Rat} {q : Rat} (f : Rat → Rat) (h : ps.getLast? = some q) : (ps.map f).getLast? = some (f q) := by
  rw [List.getLast?_map, h]
  rfl
def mcf (q : Rat) : Rat := 1 / q
def mon (ps : List Rat) : List Rat := match ps.getLast? with
  | none => []
  | some q => scl (mcf q) ps
def moCode (sc dv o : Str) : List S := [.ret (.ite (.pr .eq [.v 0, .pr .tup []]) (.v 0) (.call sc [.v 0, .call dv [.g o, .pr .ix [.v 0, .pr .neg [.c (.int 1)]]] []] []))]
def moDef (sc dv o : Str) : Fd := ⟨"monic", 1, 1, none, false, 40, moCode sc dv o, []⟩
def Sc (T : Tab) (y : Str) : Prop := T.has y = true ∧ ∀ {k : Nat} {c : Rat} {ps : List Rat}, HtA k ps → Ht k c → 1 ≤ k → k ≤ 900 → ps.length ≤ 1000 → T.call y [.val (.tup (frs ps)), .val (fr c)] = .ok (.tup (frs (trim (scl c ps))), none)
theorem mo_run {T : Tab} {sc dv o : Str} {k : Nat} {ps : List Rat} (s : Sc T sc) (d : Dv T dv) (one : T.glob o = some (fr 1)) (nz : Nz ps) (h : HtA k ps) (k1 : 1 ≤ k) (hk : k ≤ 400) (hp : ps.length ≤ 1000) :
    runFd T big (moDef sc dv o) [.val (.tup (frs ps))] = .ok (.tup (frs (trim (mon ps))), none) := by
  have t1 := teq_nil h (by omega)
  show endOf none false (runL (exS T big none false 40) (moCode sc dv o) [.val (.tup (frs ps))]) = _
  unfold moCode
  cases hl : ps.getLast? with
  | none =>
    have e : ps = [] := List.getLast?_eq_none_iff.mp hl
    subst e
    have e : ([] : List Rat).isEmpty = true := rfl
    rw [e] at t1
    simp only [b_ok, b_bad, b_ex, o_ok, o_bad, o_ex, s_nx, s_rt, s_bk, s_ct, s_bad, t_nx, t_ct, t_bk, t_rt, t_bad, e_c, e_v, e_g, e_pr, e_and, e_or, e_ite, and_bl, or_bl, ite_bl, a_nil, a_c, a_g, a_v, a_pr, a_and, a_or, a_ite, a_ch, a_call, a_lc, cons_ok, a_bw, a_io, v_0, v_s, w_0, w_v, w_n, w_s, rd_nil, rd_d, rd_b, r_nil, r_d, r_b, r_o, om_some, ix_0, ix_1, ix_2, l_nil, l_cons, x_asg, x_ret, x_ite, iteO_bl, x_stop, p_add_i, p_sub_i, p_neg_i, p_mul_i, p_fdiv_i, p_mod_i, p_ix_t, p_ix_l, p_lt_i, p_le_i, p_gt_i, p_ge_i, p_abs_i, p_not_b, p_len_t, p_len_l, p_tup0, p_tup1, p_tup2, p_tup3, p_lst0, p_lst1, p_lst2, p_eq_i, p_ne_i, prR, asgR, st_n, st_t, sm_nil, sm_cons, List.set_cons_zero, List.set_cons_succ, fls_iff, tru_iff, n_isSome, s_isSome, if_true, if_false, Bool.false_eq_true, Bool.true_eq_false, x_setI, setR_eq, x_app, x_for, x_par, parR, el_nil, el_cons, elc_ok, x_whl, x_retF, x_pop, e_lc, t1]
    rfl
  | some q =>
    have ne : ps ≠ [] := fun z => by rw [z] at hl; cases hl
    have e : ps.isEmpty = false := by cases ps with | nil => exact absurd rfl ne | cons _ _ => rfl
    rw [e] at t1
    have mem : q ∈ ps := List.mem_of_getLast? hl
    have ix : ixL (frs ps) (-1) = .ok (fr q) := ix_last (fun z => ne (by simpa [frs] using z)) (by unfold frs; rw [List.getLast?_map, hl]; rfl)
    have c1 := fun en => dv_cr (en := en) d (nz q hl) (ht_1 k k1) (h q mem) (by omega)
    have hc : Ht (k + k) (1 / q) := (ht_1 k k1).div (nz q hl) (h q mem)
    have c2 : ∀ en, callR T sc [] ([.d (.tup (frs ps)), .d (fr (1 / q))], en) = .ok (.tup (frs (trim (scl (1 / q) ps))), en) := fun en => cr_ok rfl rfl rfl (s.2 (k := k + k) (h.mono (by omega)) hc (by omega) (by omega) hp) rfl
    have em : mon ps = scl (1 / q) ps := by
      unfold mon
      rw [hl]
      rfl
    simp only [b_ok, b_bad, b_ex, o_ok, o_bad, o_ex, s_nx, s_rt, s_bk, s_ct, s_bad, t_nx, t_ct, t_bk, t_rt, t_bad, e_c, e_v, e_g, e_pr, e_and, e_or, e_ite, and_bl, or_bl, ite_bl, a_nil, a_c, a_g, a_v, a_pr, a_and, a_or, a_ite, a_ch, a_call, a_lc, cons_ok, a_bw, a_io, v_0, v_s, w_0, w_v, w_n, w_s, rd_nil, rd_d, rd_b, r_nil, r_d, r_b, r_o, om_some, ix_0, ix_1, ix_2, l_nil, l_cons, x_asg, x_ret, x_ite, iteO_bl, x_stop, p_add_i, p_sub_i, p_neg_i, p_mul_i, p_fdiv_i, p_mod_i, p_ix_t, p_ix_l, p_lt_i, p_le_i, p_gt_i, p_ge_i, p_abs_i, p_not_b, p_len_t, p_len_l, p_tup0, p_tup1, p_tup2, p_tup3, p_lst0, p_lst1, p_lst2, p_eq_i, p_ne_i, prR, asgR, st_n, st_t, sm_nil, sm_cons, List.set_cons_zero, List.set_cons_succ, fls_iff, tru_iff, n_isSome, s_isSome, if_true, if_false, Bool.false_eq_true, Bool.true_eq_false, x_setI, setR_eq, x_app, x_for, x_par, parR, el_nil, el_cons, elc_ok, x_whl, x_retF, x_pop, e_lc, t1, ix, e_call _ _ _ s.1, e_call _ _ _ d.1, one, c1, c2]
    rw [em]
    rfl
end Vm
end
section
set_option Elab.async false
set_option linter.all false
set_option maxRecDepth 100000
namespace Vm
open PySem PySem.Spec L2
/-- a random polynomial -/
def Po (T : Tab) (x : Str) : Prop := T.has x = true ∧ ∀ {m k n : Nat} {l : List D} {size : Int}, Sup m l → m + 10000 < 2 ^ 60 → n ≤ 100 → 2 ≤ size → size ≤ 2 ^ k → 3 ≤ k → k ≤ 1000 → ∃ (ps : List Rat) (l' : List D), T.call x [.own l, .val (.int n), .val (.int size)] = .ok (.tup (frs ps), some l') ∧ HtA k ps ∧ Nz ps ∧ ps.length ≤ n + 1 ∧ Sup (m + 1 + (n + 1) * 4) l'
def poBody : List S := [.app 3 (.call "_law_fraction" [.io 0, .call "_law_one_of" [.io 0, .pr .lst [.c (.int 2), .v 2]] []] [])]
def poCode : List S := [
  .asgO 3 (.pr .lst []),
  .for_ (.n 4) .rng1 [.call "_law_below" [.io 0, .pr .add [.v 1, .c (.int 2)]] []] poBody,
  .ret (.call "_law_cut" [.bw 3] [])]
def poDef : Fd := ⟨"_law_polynomial", 3, 5, some 0, false, 40, poCode, []⟩
theorem po_run {T : Tab} {m k n : Nat} {l : List D} {size : Int} (be : Be T "_law_below") (on : On T "_law_one_of") (rf : Fr T "_law_fraction") (t : Tr T "_law_cut") (sup : Sup m l) (hm : m + 10000 < 2 ^ 60) (hn : n ≤ 100) (h2 : 2 ≤ size) (hk : size ≤ 2 ^ k) (k3 : 3 ≤ k) (k4 : k ≤ 1000) :
    ∃ (ps : List Rat) (l' : List D), runFd T big poDef [.own l, .val (.int n), .val (.int size)] = .ok (.tup (frs ps), some l') ∧ HtA k ps ∧ Nz ps ∧ ps.length ≤ n + 1 ∧ Sup (m + 1 + (n + 1) * 4) l' := by
  have e1 : (n : Int) + 2 = ((n + 2 : Nat) : Int) := by omega
  obtain ⟨r, l1, c1, r0, r1, s1⟩ := be.2 (size := ((n + 2 : Nat) : Int)) sup (by omega) (by omega) (Bd.mono (k := 10) (bd_nat (by omega)) (by omega))
  have er : r = ((r.toNat : Nat) : Int) := by omega
  have loop := loop_ix (tg := .n 4) (b := runL (exS T big (some 0) false 39) poBody)
    (P := fun i en => ∃ (ps : List Rat) (l' : List D) (s4 : Slot), NoW s4 ∧ ps.length = i ∧ HtA k ps ∧ Sup (m + 1 + i * 4) l' ∧ en = [.own l', .val (.int n), .val (.int size), .own (frs ps), s4]) (rngD 0 r.toNat) 0 [.own l1, .val (.int n), .val (.int size), .own [], .no]
    (fun i d en hd p => by
      obtain ⟨ps, l', s4, n4, hp, ht, sp, rfl⟩ := p
      obtain ⟨hi, rfl⟩ := rngD_at hd
      rw [Nat.zero_add] at *
      obtain ⟨d, l2, dm, c2, s2⟩ := on.2 (ds := [.int 2, .int size]) sp (by omega) (by simp) (by simp)
      have dv : ∃ z : Int, d = .int z ∧ 2 ≤ z ∧ z ≤ 2 ^ k := by
        simp only [List.mem_cons, List.not_mem_nil, or_false] at dm
        rcases dm with e | e
        · exact ⟨2, e, by omega, by omega⟩
        · exact ⟨size, e, h2, hk⟩
      obtain ⟨z, rfl, z1, z2⟩ := dv
      obtain ⟨q, l3, c3, hq, s3⟩ := rf.2 s2 (by omega) z1 z2 k3 k4
      have e2 : ∀ en, callR T "_law_one_of" [] ([.o 0, .d (.lst [.int 2, .int size])], .own l' :: en) = .ok (.int z, .own l2 :: en) := fun en => cr_io (i := 0) (l := l2) (ss := [.own l', .val (.lst [.int 2, .int size])]) rfl rfl rfl c2 rfl
      have e3 : ∀ en, callR T "_law_fraction" [] ([.o 0, .d (.int z)], .own l2 :: en) = .ok (fr q, .own l3 :: en) := fun en => cr_io (i := 0) (l := l3) (ss := [.own l2, .val (.int z)]) rfl rfl rfl c3 rfl
      have ap : ∀ s, appR 3 (fr q, [.own l3, .val (.int n), .val (.int size), .own (frs ps), s]) = .nx [.own l3, .val (.int n), .val (.int size), .own (frs (ps ++ [q])), s] := fun s => by
        rw [appR_ok (l := frs ps) rfl (by rw [frs_len]; unfold lineN; omega), frs_app]
        rfl
      refine ⟨[.own l', .val (.int n), .val (.int size), .own (frs ps), .val (.int i)], [.own l3, .val (.int n), .val (.int size), .own (frs (ps ++ [q])), .val (.int i)], ?_, ?_, ps ++ [q], l3, .val (.int i), now_val _, by rw [List.length_append, hp]; rfl, ?_, s3.mono (by omega), rfl⟩
      · rw [st_n, w_s, w_s, w_s, w_s, n4]
        rfl
      · unfold poBody
        simp only [b_ok, b_bad, b_ex, o_ok, o_bad, o_ex, s_nx, s_rt, s_bk, s_ct, s_bad, t_nx, t_ct, t_bk, t_rt, t_bad, e_c, e_v, e_g, e_pr, e_and, e_or, e_ite, and_bl, or_bl, ite_bl, a_nil, a_c, a_g, a_v, a_pr, a_and, a_or, a_ite, a_ch, a_call, a_lc, cons_ok, a_bw, a_io, v_0, v_s, w_0, w_v, w_n, w_s, rd_nil, rd_d, rd_b, r_nil, r_d, r_b, r_o, om_some, ix_0, ix_1, ix_2, l_nil, l_cons, x_asg, x_ret, x_ite, iteO_bl, x_stop, p_add_i, p_sub_i, p_neg_i, p_mul_i, p_fdiv_i, p_mod_i, p_ix_t, p_ix_l, p_lt_i, p_le_i, p_gt_i, p_ge_i, p_abs_i, p_not_b, p_len_t, p_len_l, p_tup0, p_tup1, p_tup2, p_tup3, p_lst0, p_lst1, p_lst2, p_eq_i, p_ne_i, prR, asgR, st_n, st_t, sm_nil, sm_cons, List.set_cons_zero, List.set_cons_succ, fls_iff, tru_iff, n_isSome, s_isSome, if_true, if_false, Bool.false_eq_true, Bool.true_eq_false, x_setI, setR_eq, x_app, x_for, x_par, parR, el_nil, el_cons, elc_ok, x_whl, x_retF, x_pop, e_lc, e_call _ _ _ on.1, e_call _ _ _ rf.1, e2, e3, ap]
      · intro y hy
        rcases List.mem_append.mp hy with g | g
        · exact ht y g
        · rw [List.mem_singleton.mp g]
          exact hq)
    ⟨[], l1, .no, now_no, rfl, (fun q hq => absurd hq (List.not_mem_nil) : HtA k []), s1.mono (by omega), rfl⟩
  obtain ⟨en', r2, ps, l', s4, n4, hp, ht, sp, rfl⟩ := loop
  rw [rngD_len, Nat.zero_add] at hp sp
  refine ⟨trim ps, l', ?_, trim_ht ht, nz_trim ps, by have := trim_len ps; omega, sp.mono (by omega)⟩
  have it : items .rng1 [.int r] = some (rngD 0 r.toNat) := by
    have := rng1_nat (n := r.toNat) (by omega)
    rw [← er] at this
    exact this
  have n3 : (some 0 : Option Nat) ≠ some 3 := by decide
  have e4 : ∀ en, callR T "_law_below" [] ([.o 0, .d (.int ((n + 2 : Nat) : Int))], .own l :: en) = .ok (.int r, .own l1 :: en) := fun en => cr_io (i := 0) (l := l1) (ss := [.own l, .val (.int ((n + 2 : Nat) : Int))]) rfl rfl rfl c1 rfl
  have ci : evE T 39 (.call "_law_below" [.io 0, .pr .add [.v 1, .c (.int 2)]] []) [.own l, .val (.int n), .val (.int size), .own [], .no] = .ok (.int r, [.own l1, .val (.int n), .val (.int size), .own [], .no]) := by
    simp only [b_ok, b_bad, b_ex, o_ok, o_bad, o_ex, s_nx, s_rt, s_bk, s_ct, s_bad, t_nx, t_ct, t_bk, t_rt, t_bad, e_c, e_v, e_g, e_pr, e_and, e_or, e_ite, and_bl, or_bl, ite_bl, a_nil, a_c, a_g, a_v, a_pr, a_and, a_or, a_ite, a_ch, a_call, a_lc, cons_ok, a_bw, a_io, v_0, v_s, w_0, w_v, w_n, w_s, rd_nil, rd_d, rd_b, r_nil, r_d, r_b, r_o, om_some, ix_0, ix_1, ix_2, l_nil, l_cons, x_asg, x_ret, x_ite, iteO_bl, x_stop, p_add_i, p_sub_i, p_neg_i, p_mul_i, p_fdiv_i, p_mod_i, p_ix_t, p_ix_l, p_lt_i, p_le_i, p_gt_i, p_ge_i, p_abs_i, p_not_b, p_len_t, p_len_l, p_tup0, p_tup1, p_tup2, p_tup3, p_lst0, p_lst1, p_lst2, p_eq_i, p_ne_i, prR, asgR, st_n, st_t, sm_nil, sm_cons, List.set_cons_zero, List.set_cons_succ, fls_iff, tru_iff, n_isSome, s_isSome, if_true, if_false, Bool.false_eq_true, Bool.true_eq_false, x_setI, setR_eq, x_app, x_for, x_par, parR, el_nil, el_cons, elc_ok, x_whl, x_retF, x_pop, e_lc, e_call _ _ _ be.1, e1, e4]
  have c5 : callR T "_law_cut" [] ([.b 3], [.own l', .val (.int n), .val (.int size), .own (frs ps), s4]) = .ok (.tup (frs (trim ps)), [.own l', .val (.int n), .val (.int size), .own (frs ps), s4]) := tr_crB t rfl ht (by omega) (by omega) (by omega)
  have first : exS T big (some 0) false 40 (.asgO 3 (.pr .lst [])) [.own l, .val (.int n), .val (.int size), .no, .no] = .nx [.own l, .val (.int n), .val (.int size), .own [], .no] := by
    simp only [b_ok, b_bad, b_ex, o_ok, o_bad, o_ex, s_nx, s_rt, s_bk, s_ct, s_bad, t_nx, t_ct, t_bk, t_rt, t_bad, e_c, e_v, e_g, e_pr, e_and, e_or, e_ite, and_bl, or_bl, ite_bl, a_nil, a_c, a_g, a_v, a_pr, a_and, a_or, a_ite, a_ch, a_call, a_lc, cons_ok, a_bw, a_io, v_0, v_s, w_0, w_v, w_n, w_s, rd_nil, rd_d, rd_b, r_nil, r_d, r_b, r_o, om_some, ix_0, ix_1, ix_2, l_nil, l_cons, x_asg, x_ret, x_ite, iteO_bl, x_stop, p_add_i, p_sub_i, p_neg_i, p_mul_i, p_fdiv_i, p_mod_i, p_ix_t, p_ix_l, p_lt_i, p_le_i, p_gt_i, p_ge_i, p_abs_i, p_not_b, p_len_t, p_len_l, p_tup0, p_tup1, p_tup2, p_tup3, p_lst0, p_lst1, p_lst2, p_eq_i, p_ne_i, prR, asgR, st_n, st_t, sm_nil, sm_cons, List.set_cons_zero, List.set_cons_succ, fls_iff, tru_iff, n_isSome, s_isSome, if_true, if_false, Bool.false_eq_true, Bool.true_eq_false, x_setI, setR_eq, x_app, x_for, x_par, parR, el_nil, el_cons, elc_ok, x_whl, x_retF, x_pop, e_lc, x_asgO _ _ n3]
  show endOf (some 0) false (runL (exS T big (some 0) false 40) poCode [.own l, .val (.int n), .val (.int size), .no, .no]) = _
  unfold poCode
  rw [l_cons, first, s_nx, l_cons, x_for1 ci it, r2]
  simp only [b_ok, b_bad, b_ex, o_ok, o_bad, o_ex, s_nx, s_rt, s_bk, s_ct, s_bad, t_nx, t_ct, t_bk, t_rt, t_bad, e_c, e_v, e_g, e_pr, e_and, e_or, e_ite, and_bl, or_bl, ite_bl, a_nil, a_c, a_g, a_v, a_pr, a_and, a_or, a_ite, a_ch, a_call, a_lc, cons_ok, a_bw, a_io, v_0, v_s, w_0, w_v, w_n, w_s, rd_nil, rd_d, rd_b, r_nil, r_d, r_b, r_o, om_some, ix_0, ix_1, ix_2, l_nil, l_cons, x_asg, x_ret, x_ite, iteO_bl, x_stop, p_add_i, p_sub_i, p_neg_i, p_mul_i, p_fdiv_i, p_mod_i, p_ix_t, p_ix_l, p_lt_i, p_le_i, p_gt_i, p_ge_i, p_abs_i, p_not_b, p_len_t, p_len_l, p_tup0, p_tup1, p_tup2, p_tup3, p_lst0, p_lst1, p_lst2, p_eq_i, p_ne_i, prR, asgR, st_n, st_t, sm_nil, sm_cons, List.set_cons_zero, List.set_cons_succ, fls_iff, tru_iff, n_isSome, s_isSome, if_true, if_false, Bool.false_eq_true, Bool.true_eq_false, x_setI, setR_eq, x_app, x_for, x_par, parR, el_nil, el_cons, elc_ok, x_whl, x_retF, x_pop, e_lc, e_call _ _ _ t.1, c5]
  rfl
end Vm
end
section
set_option Elab.async false
set_option linter.all false
set_option maxRecDepth 100000
namespace Vm
open PySem PySem.Spec L2
theorem inv_eq {q : Rat} (hq : q ≠ 0) : Rat.divInt (q.den : Int) q.num = mcf q := by
  unfold mcf
  rw [div_eq]
  congr 1
  · show (q.den : Int) = 1 * (q.den : Int)
    rw [Int.one_mul]
  · show q.num = ((1 : Nat) : Int) * q.num
    rw [show ((1 : Nat) : Int) = 1 from rfl, Int.one_mul]
theorem nz_mon {ps : List Rat} (h : Nz ps) : Nz (mon ps) := fun x hx => by
  unfold mon at hx
  cases hl : ps.getLast? with
  | none => rw [hl] at hx; cases hx
  | some q =>
    rw [hl] at hx
    have e := last_map (fun c => c * mcf q) hl
    have hx2 : (ps.map fun c => c * mcf q).getLast? = some x := hx
    rw [e] at hx2
    have e2 : q * mcf q = x := Option.some.inj hx2
    have e3 : q * mcf q = 1 := by
      unfold mcf
      rw [Rat.div_def, Rat.one_mul, Rat.mul_inv_cancel q (h q hl)]
    rw [← e2, e3]
    decide
end Vm
end
section
set_option Elab.async false
set_option linter.all false
set_option maxRecDepth 100000
namespace Vm
open PySem PySem.Spec L2
def Al (T : Tab) : Prop := T.has "_law_alike" = true ∧ ∀ {d : D}, d.okShow = true → T.call "_law_alike" [.val d, .val d] = .ok (.bl true, none)
theorem al_cr {T : Tab} {d : D} {en : En} (a : Al T) (h : d.okShow = true) : callR T "_law_alike" [] ([.d d, .d d], en) = .ok (.bl true, en) := cr_ok rfl rfl rfl (a.2 h) rfl
structure Or1 (T : Tab) : Prop where
  on : On T "_law_one_of"
  rf : Fr T "_law_fraction"
  lo : Mk T "_law_lowest"
  ti : Mu T "_law_times"
  cut : Tr T "_law_cut"
  al : Al T
  dg : T.has "degree" = true ∧ ∀ {ps : List Rat}, T.call "degree" [.val (.tup (frs ps))] = .ok (.int ((ps.length : Int) - 1), none)
  mo : T.has "monic" = true ∧ ∀ {ps : List Rat}, Nz ps → HtA 30 ps → ps.length ≤ 7 → T.call "monic" [.val (.tup (frs ps))] = .ok (.tup (frs (trim (mon ps))), none)
  dr : T.has "derivative" = true ∧ ∀ {ps : List Rat}, HtA 30 ps → ps.length ≤ 7 → T.call "derivative" [.val (.tup (frs ps))] = .ok (.tup (frs (trim (drv ps))), none)
  va : T.has "value_at" = true ∧ ∀ {ps : List Rat} {x : Rat}, HtA 30 ps → Ht 20 x → ps.length ≤ 7 → T.call "value_at" [.val (.tup (frs ps)), .val (fr x)] = .ok (fr (hv x ps), none)
  lv : T.has "_law_value" = true ∧ ∀ {ps : List Rat} {x : Rat}, HtA 30 ps → Ht 20 x → ps.length ≤ 7 → T.call "_law_value" [.val (.tup (frs ps)), .val (fr x)] = .ok (fr (hv x ps), none)
theorem tup_num {k : Nat} {ps : List Rat} (h : HtA k ps) (hk : k ≤ 1919) (n : Nat) : (D.tup (frs ps)).num (n + 2) = true := frs_num (n := n) h hk
theorem int_num {k : Nat} {i : Int} (h : Bd k i) (hk : k ≤ 1919) (n : Nat) : (D.int i).num n = true := by
  have e : (D.int i).num n = decide (i.natAbs.log2 < 1920) := by cases n <;> rfl
  rw [e]
  have := h.log
  exact decide_eq_true (by omega)
theorem two_num {a b : D} {n : Nat} (h : a.num n = true) (g : b.num n = true) : (D.lst [a, b]).num (n + 1) = true ∧ (D.tup [a, b]).num (n + 1) = true := by
  have e : (a.num n && (b.num n && true)) = true := by rw [h, g]; rfl
  exact ⟨e, e⟩
theorem two_nodes (a b : D) : (D.lst [a, b]).nodes = 1 + (a.nodes + (b.nodes + 0)) ∧ (D.tup [a, b]).nodes = 1 + (a.nodes + (b.nodes + 0)) := ⟨rfl, rfl⟩
theorem tup_nodes (ps : List Rat) : (D.tup (frs ps)).nodes = 1 + 3 * ps.length := by
  show 1 + D.nodesAll (frs ps) = _
  rw [frs_nodes]
theorem mon_ht {k : Nat} {ps : List Rat} (nz : Nz ps) (h : HtA k ps) (k1 : 1 ≤ k) : HtA (k + (k + k)) (mon ps) := fun x hx => by
  unfold mon at hx
  cases hl : ps.getLast? with
  | none => rw [hl] at hx; cases hx
  | some q =>
    rw [hl] at hx
    exact scl_ht h ((ht_1 k k1).div (nz q hl) (h q (List.mem_of_getLast? hl))) x hx
theorem mon_len (ps : List Rat) : (mon ps).length ≤ ps.length := by
  unfold mon
  cases ps.getLast? with
  | none => exact Nat.zero_le _
  | some q => show (scl (mcf q) ps).length ≤ _; unfold scl; rw [List.length_map]; exact Nat.le_refl _
end Vm
end
section
set_option Elab.async false
set_option linter.all false
set_option maxRecDepth 100000
namespace Vm
open PySem PySem.Spec L2
def orDue : S := .ite (.pr .ne [.v 1, .pr .tup []]) [.asg (.t [8, 2]) (.pr .ix [.v 1, .pr .neg [.c (.int 1)]]), .asg (.n 4) (.pr .tuple [.lc (.call "_law_times" [.v 3, .call "_law_lowest" [.v 2, .v 8] []] []) (.n 3) .seq [.v 1] none [3]])] []
def orA : S := .ite (.pr .not [.call "_law_alike" [.pr .lst [.call "degree" [.v 1] [], .call "monic" [.v 1] []], .pr .lst [.pr .sub [.pr .len [.v 1], .c (.int 1)], .v 4]] []]) [.ret (.c (.bl false))] []
def orB : S := .asg (.n 7) (.call "_law_cut" [.pr .slB [.lc (.call "_law_times" [.pr .tup [.v 5, .c (.int 1)], .v 3] []) (.t [5, 3]) .enum [.v 1] none [5, 3], .c (.int 1)]] [])
def orC : S := .asg (.n 6) (.call "_law_fraction" [.io 0, .call "_law_one_of" [.io 0, .pr .lst [.c (.int 2), .c (.int 9), .pr .pow [.c (.int 10), .c (.int 6)]]] []] [])
def orD : S := .ret (.call "_law_alike" [.pr .lst [.call "derivative" [.v 1] [], .call "value_at" [.v 1, .v 6] []], .pr .lst [.v 7, .call "_law_value" [.v 1, .v 6] []]] [])
def orCode : List S := [.asg (.n 4) (.pr .tup []), orDue, orA, orB, orC, orD]
def orDef : Fd := ⟨"_law_one_right", 2, 9, some 0, false, 40, orCode, []⟩
section
variable {T : Tab} {l : List D} {ps : List Rat}
theorem or_due (o : Or1 T) (nz : Nz ps) (h : HtA 30 ps) (hp : ps.length ≤ 7) : ∃ s2 s8, exS T big (some 0) false 40 orDue [.own l, .val (.tup (frs ps)), .no, .no, .val (.tup []), .no, .no, .no, .no] = .nx [.own l, .val (.tup (frs ps)), s2, .no, .val (.tup (frs (mon ps))), .no, .no, .no, s8] := by
  have t1 := tne_nil h (by omega)
  unfold orDue
  cases hl : ps.getLast? with
  | none =>
    have e : ps = [] := List.getLast?_eq_none_iff.mp hl
    subst e
    have e : (!([] : List Rat).isEmpty) = false := rfl
    rw [e] at t1
    refine ⟨.no, .no, ?_⟩
    simp only [b_ok, b_bad, b_ex, o_ok, o_bad, o_ex, s_nx, s_rt, s_bk, s_ct, s_bad, t_nx, t_ct, t_bk, t_rt, t_bad, e_c, e_v, e_g, e_pr, e_and, e_or, e_ite, and_bl, or_bl, ite_bl, a_nil, a_c, a_g, a_v, a_pr, a_and, a_or, a_ite, a_ch, a_call, a_lc, cons_ok, a_bw, a_io, v_0, v_s, w_0, w_v, w_n, w_s, rd_nil, rd_d, rd_b, r_nil, r_d, r_b, r_o, om_some, ix_0, ix_1, ix_2, l_nil, l_cons, x_asg, x_ret, x_ite, iteO_bl, x_stop, p_add_i, p_sub_i, p_neg_i, p_mul_i, p_fdiv_i, p_mod_i, p_ix_t, p_ix_l, p_lt_i, p_le_i, p_gt_i, p_ge_i, p_abs_i, p_not_b, p_len_t, p_len_l, p_tup0, p_tup1, p_tup2, p_tup3, p_lst0, p_lst1, p_lst2, p_eq_i, p_ne_i, prR, asgR, st_n, st_t, sm_nil, sm_cons, List.set_cons_zero, List.set_cons_succ, fls_iff, tru_iff, n_isSome, s_isSome, if_true, if_false, Bool.false_eq_true, Bool.true_eq_false, x_setI, setR_eq, x_app, x_for, x_par, parR, el_nil, el_cons, elc_ok, x_whl, x_retF, x_pop, e_lc, t1]
    rfl
  | some q =>
    have ne : ps ≠ [] := fun z => by rw [z] at hl; cases hl
    have e : (!ps.isEmpty) = true := by cases ps with | nil => exact absurd rfl ne | cons _ _ => rfl
    rw [e] at t1
    have mem : q ∈ ps := List.mem_of_getLast? hl
    have qz := nz q hl
    have qn : q.num ≠ 0 := fun e => qz (Rat.num_eq_zero.mp e)
    have ix : ixL (frs ps) (-1) = .ok (.tup [.int q.num, .int q.den]) := ix_last (fun z => ne (by simpa [frs] using z)) (by unfold frs; rw [List.getLast?_map, hl]; rfl)
    have hc : Ht 60 (mcf q) := (ht_1 30 (by decide)).div qz (h q mem)
    have c1 : ∀ en, callR T "_law_lowest" [] ([.d (.int q.den), .d (.int q.num)], en) = .ok (fr (mcf q), en) := fun en => by
      rw [← inv_eq qz]
      exact cr_ok rfl rfl rfl (o.lo.2 qn (h q mem).2 (h q mem).1 (by omega)) rfl
    have tl : ∀ l : List D, prim .tuple [.lst l] = .ok (.tup l) := fun _ => rfl
    have em : frs (mon ps) = ps.map fun c => fr (c * mcf q) := by
      unfold mon
      rw [hl]
      show frs (scl (mcf q) ps) = _
      unfold frs scl
      rw [List.map_map]
      rfl
    have l2 : lcR T 36 (.call "_law_times" [.v 3, .call "_law_lowest" [.v 2, .v 8] []] []) (.n 3) .seq none [3] ([.tup (frs ps)], [.own l, .val (.tup (frs ps)), .val (.int q.den), .no, .val (.tup []), .no, .no, .no, .val (.int q.num)]) = .ok (.lst (frs (mon ps)), [.own l, .val (.tup (frs ps)), .val (.int q.den), .no, .val (.tup []), .no, .no, .no, .val (.int q.num)]) := by
      rw [em]
      refine lcR_mapU (n := 36) (en := [.own l, .val (.tup (frs ps)), .val (.int q.den), .no, .val (.tup []), .no, .no, .no, .val (.int q.num)]) (us := ps) (h := fr) (g := fun c => fr (c * mcf q)) rfl rfl (by unfold lineN; omega) fun c hc2 => ?_
      refine ⟨[.own l, .val (.tup (frs ps)), .val (.int q.den), .val (fr c), .val (.tup []), .no, .no, .no, .val (.int q.num)], [.own l, .val (.tup (frs ps)), .val (.int q.den), .val (fr c), .val (.tup []), .no, .no, .no, .val (.int q.num)], rfl, ?_, rfl⟩
      have c2 := fun en => mu_cr (en := en) (k := 60) o.ti ((h c hc2).mono (by omega)) hc (by omega)
      simp only [b_ok, b_bad, b_ex, o_ok, o_bad, o_ex, s_nx, s_rt, s_bk, s_ct, s_bad, t_nx, t_ct, t_bk, t_rt, t_bad, e_c, e_v, e_g, e_pr, e_and, e_or, e_ite, and_bl, or_bl, ite_bl, a_nil, a_c, a_g, a_v, a_pr, a_and, a_or, a_ite, a_ch, a_call, a_lc, cons_ok, a_bw, a_io, v_0, v_s, w_0, w_v, w_n, w_s, rd_nil, rd_d, rd_b, r_nil, r_d, r_b, r_o, om_some, ix_0, ix_1, ix_2, l_nil, l_cons, x_asg, x_ret, x_ite, iteO_bl, x_stop, p_add_i, p_sub_i, p_neg_i, p_mul_i, p_fdiv_i, p_mod_i, p_ix_t, p_ix_l, p_lt_i, p_le_i, p_gt_i, p_ge_i, p_abs_i, p_not_b, p_len_t, p_len_l, p_tup0, p_tup1, p_tup2, p_tup3, p_lst0, p_lst1, p_lst2, p_eq_i, p_ne_i, prR, asgR, st_n, st_t, sm_nil, sm_cons, List.set_cons_zero, List.set_cons_succ, fls_iff, tru_iff, n_isSome, s_isSome, if_true, if_false, Bool.false_eq_true, Bool.true_eq_false, x_setI, setR_eq, x_app, x_for, x_par, parR, el_nil, el_cons, elc_ok, x_whl, x_retF, x_pop, e_lc, e_call _ _ _ o.ti.1, e_call _ _ _ o.lo.1, c1, c2]
    refine ⟨.val (.int q.den), .val (.int q.num), ?_⟩
    simp only [b_ok, b_bad, b_ex, o_ok, o_bad, o_ex, s_nx, s_rt, s_bk, s_ct, s_bad, t_nx, t_ct, t_bk, t_rt, t_bad, e_c, e_v, e_g, e_pr, e_and, e_or, e_ite, and_bl, or_bl, ite_bl, a_nil, a_c, a_g, a_v, a_pr, a_and, a_or, a_ite, a_ch, a_call, a_lc, cons_ok, a_bw, a_io, v_0, v_s, w_0, w_v, w_n, w_s, rd_nil, rd_d, rd_b, r_nil, r_d, r_b, r_o, om_some, ix_0, ix_1, ix_2, l_nil, l_cons, x_asg, x_ret, x_ite, iteO_bl, x_stop, p_add_i, p_sub_i, p_neg_i, p_mul_i, p_fdiv_i, p_mod_i, p_ix_t, p_ix_l, p_lt_i, p_le_i, p_gt_i, p_ge_i, p_abs_i, p_not_b, p_len_t, p_len_l, p_tup0, p_tup1, p_tup2, p_tup3, p_lst0, p_lst1, p_lst2, p_eq_i, p_ne_i, prR, asgR, st_n, st_t, sm_nil, sm_cons, List.set_cons_zero, List.set_cons_succ, fls_iff, tru_iff, n_isSome, s_isSome, if_true, if_false, Bool.false_eq_true, Bool.true_eq_false, x_setI, setR_eq, x_app, x_for, x_par, parR, el_nil, el_cons, elc_ok, x_whl, x_retF, x_pop, e_lc, t1, ix, l2, tl]
theorem or_a (o : Or1 T) (nz : Nz ps) (h : HtA 30 ps) (hp : ps.length ≤ 7) (s2 s8 : Slot) : exS T big (some 0) false 40 orA [.own l, .val (.tup (frs ps)), s2, .no, .val (.tup (frs (mon ps))), .no, .no, .no, s8] = .nx [.own l, .val (.tup (frs ps)), s2, .no, .val (.tup (frs (mon ps))), .no, .no, .no, s8] := by
  unfold orA
  have c1 : ∀ en, callR T "degree" [] ([.d (.tup (frs ps))], en) = .ok (.int ((ps.length : Int) - 1), en) := fun en => cr_ok rfl rfl rfl o.dg.2 rfl
  have c2 : ∀ en, callR T "monic" [] ([.d (.tup (frs ps))], en) = .ok (.tup (frs (mon ps)), en) := fun en => by
    rw [← trim_nz (nz_mon nz)]
    have := cr_ok (en := en) (x := "monic") (dl := []) (as := [.d (.tup (frs ps))]) (ss := [.val (.tup (frs ps))]) rfl rfl rfl (o.mo.2 nz h hp) rfl
    rw [trim_nz (nz_mon nz)] at this ⊢
    exact this
  have mh := mon_ht nz h (by decide)
  have ml := mon_len ps
  have ok : (D.lst [.int ((ps.length : Int) - 1), .tup (frs (mon ps))]).okShow = true := show_ok (two_num (n := 2) (int_num (k := 10) (by unfold Bd; omega) (by decide) 2) (tup_num mh (by decide) 0)).1 (by decide) (by
    rw [(two_nodes _ _).1, tup_nodes]
    show 1 + (1 + _) ≤ _
    omega)
  have c3 := fun en => al_cr (en := en) o.al ok
  simp only [b_ok, b_bad, b_ex, o_ok, o_bad, o_ex, s_nx, s_rt, s_bk, s_ct, s_bad, t_nx, t_ct, t_bk, t_rt, t_bad, e_c, e_v, e_g, e_pr, e_and, e_or, e_ite, and_bl, or_bl, ite_bl, a_nil, a_c, a_g, a_v, a_pr, a_and, a_or, a_ite, a_ch, a_call, a_lc, cons_ok, a_bw, a_io, v_0, v_s, w_0, w_v, w_n, w_s, rd_nil, rd_d, rd_b, r_nil, r_d, r_b, r_o, om_some, ix_0, ix_1, ix_2, l_nil, l_cons, x_asg, x_ret, x_ite, iteO_bl, x_stop, p_add_i, p_sub_i, p_neg_i, p_mul_i, p_fdiv_i, p_mod_i, p_ix_t, p_ix_l, p_lt_i, p_le_i, p_gt_i, p_ge_i, p_abs_i, p_not_b, p_len_t, p_len_l, p_tup0, p_tup1, p_tup2, p_tup3, p_lst0, p_lst1, p_lst2, p_eq_i, p_ne_i, prR, asgR, st_n, st_t, sm_nil, sm_cons, List.set_cons_zero, List.set_cons_succ, fls_iff, tru_iff, n_isSome, s_isSome, if_true, if_false, Bool.false_eq_true, Bool.true_eq_false, x_setI, setR_eq, x_app, x_for, x_par, parR, el_nil, el_cons, elc_ok, x_whl, x_retF, x_pop, e_lc, e_call _ _ _ o.al.1, e_call _ _ _ o.dg.1, e_call _ _ _ o.mo.1, c1, c2, frs_len, c3, Bool.not_true]
end
end Vm
end
section
set_option Elab.async false
set_option linter.all false
set_option maxRecDepth 100000
namespace Vm
open PySem PySem.Spec L2
section
variable {T : Tab} {l : List D} {ps : List Rat}
theorem or_b (o : Or1 T) (h : HtA 30 ps) (hp : ps.length ≤ 7) (s2 s4 s8 : Slot) : exS T big (some 0) false 40 orB [.own l, .val (.tup (frs ps)), s2, .no, s4, .no, .no, .no, s8] = .nx [.own l, .val (.tup (frs ps)), s2, .no, s4, .no, .no, .val (.tup (frs (trim (drv ps)))), s8] := by
  unfold orB
  have l2 : lcR T 36 (.call "_law_times" [.pr .tup [.v 5, .c (.int 1)], .v 3] []) (.t [5, 3]) .enum none [5, 3] ([.tup (frs ps)], [.own l, .val (.tup (frs ps)), s2, .no, s4, .no, .no, .no, s8]) = .ok (.lst (frs (drvA ps)), [.own l, .val (.tup (frs ps)), s2, .no, s4, .no, .no, .no, s8]) := by
    rw [frs_drvA]
    refine lcR_mapU (n := 36) (en := [.own l, .val (.tup (frs ps)), s2, .no, s4, .no, .no, .no, s8]) (us := ps.zipIdx 0) (h := fun u => .tup [.int u.2, fr u.1]) (g := fun u => fr ((u.2 : Rat) * u.1)) (by rw [← enumD_frs]; rfl) rfl (by rw [List.length_zipIdx]; unfold lineN; omega) fun u hu => ?_
    have z := zip_ix hu
    refine ⟨[.own l, .val (.tup (frs ps)), s2, .val (fr u.1), s4, .val (.int u.2), .no, .no, s8], [.own l, .val (.tup (frs ps)), s2, .val (fr u.1), s4, .val (.int u.2), .no, .no, s8], rfl, ?_, rfl⟩
    have hn : Ht 30 (u.2 : Rat) := (ht_nat (k := 10) (by omega) (by decide)).mono (by decide)
    have c := fun en => mu_cr (en := en) o.ti hn (h _ z.1) (by omega)
    have e : (D.tup [.int (u.2 : Int), .int 1]) = fr (u.2 : Rat) := (fr_nat u.2).symm
    simp only [b_ok, b_bad, b_ex, o_ok, o_bad, o_ex, s_nx, s_rt, s_bk, s_ct, s_bad, t_nx, t_ct, t_bk, t_rt, t_bad, e_c, e_v, e_g, e_pr, e_and, e_or, e_ite, and_bl, or_bl, ite_bl, a_nil, a_c, a_g, a_v, a_pr, a_and, a_or, a_ite, a_ch, a_call, a_lc, cons_ok, a_bw, a_io, v_0, v_s, w_0, w_v, w_n, w_s, rd_nil, rd_d, rd_b, r_nil, r_d, r_b, r_o, om_some, ix_0, ix_1, ix_2, l_nil, l_cons, x_asg, x_ret, x_ite, iteO_bl, x_stop, p_add_i, p_sub_i, p_neg_i, p_mul_i, p_fdiv_i, p_mod_i, p_ix_t, p_ix_l, p_lt_i, p_le_i, p_gt_i, p_ge_i, p_abs_i, p_not_b, p_len_t, p_len_l, p_tup0, p_tup1, p_tup2, p_tup3, p_lst0, p_lst1, p_lst2, p_eq_i, p_ne_i, prR, asgR, st_n, st_t, sm_nil, sm_cons, List.set_cons_zero, List.set_cons_succ, fls_iff, tru_iff, n_isSome, s_isSome, if_true, if_false, Bool.false_eq_true, Bool.true_eq_false, x_setI, setR_eq, x_app, x_for, x_par, parR, el_nil, el_cons, elc_ok, x_whl, x_retF, x_pop, e_lc, e_call _ _ _ o.ti.1, e, c]
  have c3 := fun en => tr_cr (en := en) o.cut (drv_ht h (by omega)) (by omega) (by omega) (by have := drv_len ps; omega)
  simp only [b_ok, b_bad, b_ex, o_ok, o_bad, o_ex, s_nx, s_rt, s_bk, s_ct, s_bad, t_nx, t_ct, t_bk, t_rt, t_bad, e_c, e_v, e_g, e_pr, e_and, e_or, e_ite, and_bl, or_bl, ite_bl, a_nil, a_c, a_g, a_v, a_pr, a_and, a_or, a_ite, a_ch, a_call, a_lc, cons_ok, a_bw, a_io, v_0, v_s, w_0, w_v, w_n, w_s, rd_nil, rd_d, rd_b, r_nil, r_d, r_b, r_o, om_some, ix_0, ix_1, ix_2, l_nil, l_cons, x_asg, x_ret, x_ite, iteO_bl, x_stop, p_add_i, p_sub_i, p_neg_i, p_mul_i, p_fdiv_i, p_mod_i, p_ix_t, p_ix_l, p_lt_i, p_le_i, p_gt_i, p_ge_i, p_abs_i, p_not_b, p_len_t, p_len_l, p_tup0, p_tup1, p_tup2, p_tup3, p_lst0, p_lst1, p_lst2, p_eq_i, p_ne_i, prR, asgR, st_n, st_t, sm_nil, sm_cons, List.set_cons_zero, List.set_cons_succ, fls_iff, tru_iff, n_isSome, s_isSome, if_true, if_false, Bool.false_eq_true, Bool.true_eq_false, x_setI, setR_eq, x_app, x_for, x_par, parR, el_nil, el_cons, elc_ok, x_whl, x_retF, x_pop, e_lc, l2, drop1, e_call _ _ _ o.cut.1, c3]
theorem or_c {m : Nat} (o : Or1 T) (sup : Sup m l) (hm : m + 100 < 2 ^ 60) (s1 s2 s4 s7 s8 : Slot) : ∃ (x : Rat) (l' : List D), Ht 20 x ∧ Sup (m + 4) l' ∧ exS T big (some 0) false 40 orC [.own l, s1, s2, .no, s4, .no, .no, s7, s8] = .nx [.own l', s1, s2, .no, s4, .no, .val (fr x), s7, s8] := by
  obtain ⟨d, l2, dm, c2, s2'⟩ := o.on.2 (ds := [.int 2, .int 9, .int 1000000]) sup (by omega) (by simp) (by simp)
  have dv : ∃ z : Int, d = .int z ∧ 2 ≤ z ∧ z ≤ 2 ^ 20 := by
    simp only [List.mem_cons, List.not_mem_nil, or_false] at dm
    rcases dm with e | e | e
    · exact ⟨2, e, by decide, by decide⟩
    · exact ⟨9, e, by decide, by decide⟩
    · exact ⟨1000000, e, by decide, by decide⟩
  obtain ⟨z, rfl, z1, z2⟩ := dv
  obtain ⟨q, l3, c3, hq, s3⟩ := o.rf.2 s2' (by omega) z1 z2 (by decide) (by decide)
  have e2 : ∀ en, callR T "_law_one_of" [] ([.o 0, .d (.lst [.int 2, .int 9, .int 1000000])], .own l :: en) = .ok (.int z, .own l2 :: en) := fun en => cr_io (i := 0) (l := l2) (ss := [.own l, .val (.lst [.int 2, .int 9, .int 1000000])]) rfl rfl rfl c2 rfl
  have e3 : ∀ en, callR T "_law_fraction" [] ([.o 0, .d (.int z)], .own l2 :: en) = .ok (fr q, .own l3 :: en) := fun en => cr_io (i := 0) (l := l3) (ss := [.own l2, .val (.int z)]) rfl rfl rfl c3 rfl
  have pw : prim .pow [.int 10, .int 6] = .ok (.int 1000000) := rfl
  have l3' : ∀ a b c : D, prim .lst [a, b, c] = .ok (.lst [a, b, c]) := fun _ _ _ => rfl
  refine ⟨q, l3, hq, s3.mono (by omega), ?_⟩
  unfold orC
  simp only [b_ok, b_bad, b_ex, o_ok, o_bad, o_ex, s_nx, s_rt, s_bk, s_ct, s_bad, t_nx, t_ct, t_bk, t_rt, t_bad, e_c, e_v, e_g, e_pr, e_and, e_or, e_ite, and_bl, or_bl, ite_bl, a_nil, a_c, a_g, a_v, a_pr, a_and, a_or, a_ite, a_ch, a_call, a_lc, cons_ok, a_bw, a_io, v_0, v_s, w_0, w_v, w_n, w_s, rd_nil, rd_d, rd_b, r_nil, r_d, r_b, r_o, om_some, ix_0, ix_1, ix_2, l_nil, l_cons, x_asg, x_ret, x_ite, iteO_bl, x_stop, p_add_i, p_sub_i, p_neg_i, p_mul_i, p_fdiv_i, p_mod_i, p_ix_t, p_ix_l, p_lt_i, p_le_i, p_gt_i, p_ge_i, p_abs_i, p_not_b, p_len_t, p_len_l, p_tup0, p_tup1, p_tup2, p_tup3, p_lst0, p_lst1, p_lst2, p_eq_i, p_ne_i, prR, asgR, st_n, st_t, sm_nil, sm_cons, List.set_cons_zero, List.set_cons_succ, fls_iff, tru_iff, n_isSome, s_isSome, if_true, if_false, Bool.false_eq_true, Bool.true_eq_false, x_setI, setR_eq, x_app, x_for, x_par, parR, el_nil, el_cons, elc_ok, x_whl, x_retF, x_pop, e_lc, pw, l3', e_call _ _ _ o.on.1, e_call _ _ _ o.rf.1, e2, e3]
end
end Vm
end
section
set_option Elab.async false
set_option linter.all false
set_option maxRecDepth 100000
namespace Vm
open PySem PySem.Spec L2
section
variable {T : Tab} {l : List D} {ps : List Rat}
theorem or_d (o : Or1 T) {x : Rat} (h : HtA 30 ps) (hx : Ht 20 x) (hp : ps.length ≤ 7) (s2 s4 s8 : Slot) : exS T big (some 0) false 40 orD [.own l, .val (.tup (frs ps)), s2, .no, s4, .no, .val (fr x), .val (.tup (frs (trim (drv ps)))), s8] = .rt (.bl true) [.own l, .val (.tup (frs ps)), s2, .no, s4, .no, .val (fr x), .val (.tup (frs (trim (drv ps)))), s8] := by
  unfold orD
  have c1 : ∀ en, callR T "derivative" [] ([.d (.tup (frs ps))], en) = .ok (.tup (frs (trim (drv ps))), en) := fun en => cr_ok rfl rfl rfl (o.dr.2 h hp) rfl
  have c2 : ∀ en, callR T "value_at" [] ([.d (.tup (frs ps)), .d (fr x)], en) = .ok (fr (hv x ps), en) := fun en => cr_ok rfl rfl rfl (o.va.2 h hx hp) rfl
  have c3 : ∀ en, callR T "_law_value" [] ([.d (.tup (frs ps)), .d (fr x)], en) = .ok (fr (hv x ps), en) := fun en => cr_ok rfl rfl rfl (o.lv.2 h hx hp) rfl
  have dl := drv_len ps
  have tl := trim_len (drv ps)
  have hh : Ht 500 (hv x ps) := (hv_ht (hx.mono (by decide)) h).mono (by omega)
  have ok : (D.lst [.tup (frs (trim (drv ps))), fr (hv x ps)]).okShow = true := show_ok (two_num (n := 2) (tup_num (trim_ht (drv_ht h (by omega))) (by decide) 0) (fr_num_ok (n := 1) hh (by decide))).1 (by decide) (by
    rw [(two_nodes _ _).1, tup_nodes, fr_nodes]
    omega)
  have c4 := fun en => al_cr (en := en) o.al ok
  simp only [b_ok, b_bad, b_ex, o_ok, o_bad, o_ex, s_nx, s_rt, s_bk, s_ct, s_bad, t_nx, t_ct, t_bk, t_rt, t_bad, e_c, e_v, e_g, e_pr, e_and, e_or, e_ite, and_bl, or_bl, ite_bl, a_nil, a_c, a_g, a_v, a_pr, a_and, a_or, a_ite, a_ch, a_call, a_lc, cons_ok, a_bw, a_io, v_0, v_s, w_0, w_v, w_n, w_s, rd_nil, rd_d, rd_b, r_nil, r_d, r_b, r_o, om_some, ix_0, ix_1, ix_2, l_nil, l_cons, x_asg, x_ret, x_ite, iteO_bl, x_stop, p_add_i, p_sub_i, p_neg_i, p_mul_i, p_fdiv_i, p_mod_i, p_ix_t, p_ix_l, p_lt_i, p_le_i, p_gt_i, p_ge_i, p_abs_i, p_not_b, p_len_t, p_len_l, p_tup0, p_tup1, p_tup2, p_tup3, p_lst0, p_lst1, p_lst2, p_eq_i, p_ne_i, prR, asgR, st_n, st_t, sm_nil, sm_cons, List.set_cons_zero, List.set_cons_succ, fls_iff, tru_iff, n_isSome, s_isSome, if_true, if_false, Bool.false_eq_true, Bool.true_eq_false, x_setI, setR_eq, x_app, x_for, x_par, parR, el_nil, el_cons, elc_ok, x_whl, x_retF, x_pop, e_lc, e_call _ _ _ o.al.1, e_call _ _ _ o.dr.1, e_call _ _ _ o.va.1, e_call _ _ _ o.lv.1, c1, c2, c3, c4]
theorem or_run {m : Nat} (o : Or1 T) (sup : Sup m l) (hm : m + 100 < 2 ^ 60) (nz : Nz ps) (h : HtA 30 ps) (hp : ps.length ≤ 7) : ∃ l', runFd T big orDef [.own l, .val (.tup (frs ps))] = .ok (.bl true, some l') ∧ Sup (m + 4) l' := by
  obtain ⟨s2, s8, r1⟩ := or_due (l := l) o nz h hp
  obtain ⟨x, l', hx, sup', r2⟩ := or_c o sup hm (.val (.tup (frs ps))) s2 (.val (.tup (frs (mon ps)))) (.val (.tup (frs (trim (drv ps))))) s8
  refine ⟨l', ?_, sup'⟩
  have first : exS T big (some 0) false 40 (.asg (.n 4) (.pr .tup [])) [.own l, .val (.tup (frs ps)), .no, .no, .no, .no, .no, .no, .no] = .nx [.own l, .val (.tup (frs ps)), .no, .no, .val (.tup []), .no, .no, .no, .no] := by
    simp only [b_ok, b_bad, b_ex, o_ok, o_bad, o_ex, s_nx, s_rt, s_bk, s_ct, s_bad, t_nx, t_ct, t_bk, t_rt, t_bad, e_c, e_v, e_g, e_pr, e_and, e_or, e_ite, and_bl, or_bl, ite_bl, a_nil, a_c, a_g, a_v, a_pr, a_and, a_or, a_ite, a_ch, a_call, a_lc, cons_ok, a_bw, a_io, v_0, v_s, w_0, w_v, w_n, w_s, rd_nil, rd_d, rd_b, r_nil, r_d, r_b, r_o, om_some, ix_0, ix_1, ix_2, l_nil, l_cons, x_asg, x_ret, x_ite, iteO_bl, x_stop, p_add_i, p_sub_i, p_neg_i, p_mul_i, p_fdiv_i, p_mod_i, p_ix_t, p_ix_l, p_lt_i, p_le_i, p_gt_i, p_ge_i, p_abs_i, p_not_b, p_len_t, p_len_l, p_tup0, p_tup1, p_tup2, p_tup3, p_lst0, p_lst1, p_lst2, p_eq_i, p_ne_i, prR, asgR, st_n, st_t, sm_nil, sm_cons, List.set_cons_zero, List.set_cons_succ, fls_iff, tru_iff, n_isSome, s_isSome, if_true, if_false, Bool.false_eq_true, Bool.true_eq_false, x_setI, setR_eq, x_app, x_for, x_par, parR, el_nil, el_cons, elc_ok, x_whl, x_retF, x_pop, e_lc]
  show endOf (some 0) false (runL (exS T big (some 0) false 40) orCode [.own l, .val (.tup (frs ps)), .no, .no, .no, .no, .no, .no, .no]) = _
  unfold orCode
  rw [l_cons, first, s_nx, l_cons, r1, s_nx, l_cons, or_a o nz h hp, s_nx, l_cons, or_b o h hp, s_nx, l_cons, r2, s_nx, l_cons, or_d o h hx hp]
  rfl
end
end Vm
end
section
set_option Elab.async false
set_option linter.all false
set_option maxRecDepth 100000
namespace Vm
open PySem PySem.Spec L2
structure La (T : Tab) : Prop where
  su : T.has "_law_supply" = true ∧ ∀ {ns : List Int}, ns.length ≤ 63 → ∃ l, T.call "_law_supply" [.val (.scr ns)] = .ok (.lst l, none) ∧ Sup 0 l
  on : On T "_law_one_of"
  po : Po T "_law_polynomial"
  be : Be T "_law_below"
  al : Al T
  tr : Tr T "trimmed"
  sm : T.has "sum_of" = true ∧ ∀ {ps qs : List Rat}, HtA 30 ps → HtA 30 qs → ps.length ≤ 7 → qs.length ≤ 7 → T.call "sum_of" [.val (.tup (frs ps)), .val (.tup (frs qs))] = .ok (.tup (frs (trim (padd ps qs))), none)
  sl : T.has "_law_added" = true ∧ ∀ {ps qs : List Rat}, HtA 30 ps → HtA 30 qs → ps.length ≤ 7 → qs.length ≤ 7 → T.call "_law_added" [.val (.tup (frs ps)), .val (.tup (frs qs))] = .ok (.tup (frs (trim (padd ps qs))), none)
  pr : T.has "product_of" = true ∧ ∀ {ps qs : List Rat}, HtA 30 ps → HtA 30 qs → ps.length ≤ 7 → qs.length ≤ 7 → T.call "product_of" [.val (.tup (frs ps)), .val (.tup (frs qs))] = .ok (.tup (frs (trim (prod ps qs))), none)
  pl : T.has "_law_product" = true ∧ ∀ {ps qs : List Rat}, HtA 30 ps → HtA 30 qs → ps.length ≤ 7 → qs.length ≤ 7 → T.call "_law_product" [.val (.tup (frs ps)), .val (.tup (frs qs))] = .ok (.tup (frs (trim (prod ps qs))), none)
  o1 : T.has "_law_one_right" = true ∧ ∀ {m : Nat} {l : List D} {ps : List Rat}, Sup m l → m + 100 < 2 ^ 60 → Nz ps → HtA 30 ps → ps.length ≤ 7 → ∃ l', T.call "_law_one_right" [.own l, .val (.tup (frs ps))] = .ok (.bl true, some l') ∧ Sup (m + 4) l'
def lwA : S := .asg (.n 7) (.call "_law_one_of" [.io 8, .pr .lst [.c (.int 2), .c (.int 4), .c (.int 100), .pr .pow [.c (.int 10), .c (.int 9)]]] [])
def lwB : S := .asg (.n 5) (.call "_law_polynomial" [.io 8, .c (.int 6), .v 7] [])
def lwC : S := .asg (.n 6) (.call "_law_one_of" [.io 8, .pr .lst [.call "_law_polynomial" [.io 8, .c (.int 6), .v 7] [], .pr .tuple [.lc (.pr .tup [.pr .sub [.c (.int 0), .v 1], .v 2]) (.t [1, 2]) .seq [.v 5] none [1, 2]]]] [])
def lwD : S := .asg (.n 3) (.pr .repr [.pr .tup [.v 5, .v 6]])
def lwE : S := .ite (.pr .not [.call "_law_alike" [.call "sum_of" [.v 5, .v 6] [], .call "_law_added" [.v 5, .v 6] []] []]) [.ret (.c (.bl false))] []
def lwF : S := .ite (.pr .not [.call "_law_alike" [.call "product_of" [.v 5, .v 6] [], .call "_law_product" [.v 5, .v 6] []] []]) [.ret (.c (.bl false))] []
def lwG : S := .ite (.or_ (.pr .not [.call "_law_one_right" [.io 8, .v 5] []]) (.or_ (.pr .not [.call "_law_one_right" [.io 8, .v 6] []]) (.pr .ne [.pr .repr [.pr .tup [.v 5, .v 6]], .v 3]))) [.ret (.c (.bl false))] []
def lwH : S := .asg (.n 11) (.pr .mul [.pr .lst [.pr .tup [.c (.int 0), .c (.int 1)]], .call "_law_below" [.io 8, .c (.int 4)] []])
def lwI : List S := [.ite (.or_ (.pr .not [.call "_law_alike" [.call "trimmed" [.v 4] [], .v 5] []]) (.pr .ne [.pr .repr [.v 4], .v 3])) [.ret (.c (.bl false))] []]
def lwJ : List S := [.asg (.n 3) (.pr .repr [.v 4]), .for_ (.n 9) .rng1 [.c (.int 2)] lwI]
def lwK : S := .for_ (.n 4) .seq [.pr .lst [.pr .add [.pr .list [.v 5], .v 11], .pr .add [.pr .tuple [.v 5], .pr .tuple [.v 11]]]] lwJ
def lwL : S := .ite (.pr .not [.call "_law_alike" [.call "trimmed" [.pr .tuple [.v 11]] [], .pr .tup []] []]) [.ret (.c (.bl false))] []
def lwBody : List S := [lwA, lwB, lwC, lwD, lwE, lwF, lwG, lwH, lwK, lwL]
def lwCode : List S := [
  .asgO 8 (.call "_law_supply" [.v 0] []),
  .for_ (.n 10) .rng1 [.c (.int 8)] lwBody,
  .ret (.c (.bl true))]
def lwDef : Fd := ⟨"law", 1, 12, none, false, 40, lwCode, []⟩
theorem ne_self (s : Str) : prim .ne [.str s, .str s] = .ok (.bl false) := by
  show R.ok (D.bl (!decide (s = s))) = _
  rw [decide_eq_true rfl]
  rfl
theorem rep_ok {d : D} (h : d.okShow = true) : prim .repr [d] = .ok (.str d.py.shown) := if_pos h
theorem tup_ok {k : Nat} {ps : List Rat} (h : HtA k ps) (hk : k ≤ 1919) (hl : ps.length ≤ 1000) : (D.tup (frs ps)).okShow = true := show_ok (tup_num h hk 0) (by decide) (by rw [tup_nodes]; omega)
theorem lst_ok {k : Nat} {ps : List Rat} (h : HtA k ps) (hk : k ≤ 1919) (hl : ps.length ≤ 1000) : (D.lst (frs ps)).okShow = true := show_ok (k := 2) (show D.numAll 1 (frs ps) = true from frs_num (n := 0) h hk) (by decide) (by
  show 1 + D.nodesAll (frs ps) ≤ _
  rw [frs_nodes]; omega)
theorem pair_ok {k : Nat} {ps qs : List Rat} (h : HtA k ps) (g : HtA k qs) (hk : k ≤ 1919) (hl : ps.length ≤ 1000) (gl : qs.length ≤ 1000) : (D.tup [.tup (frs ps), .tup (frs qs)]).okShow = true := show_ok (two_num (n := 2) (tup_num h hk 0) (tup_num g hk 0)).2 (by decide) (by rw [(two_nodes _ _).2, tup_nodes, tup_nodes]; omega)
section
variable {T : Tab} {l : List D} {ps qs : List Rat} {s0 s1 s2 s3 s4 s5 s6 s7 s9 s10 s11 : Slot}
theorem lw_a {m : Nat} (o : La T) (sup : Sup m l) (hm : m + 100000 < 2 ^ 60) (n0 : NoW s0) (n7 : NoW s7) : ∃ (z : Int) (l' : List D), 2 ≤ z ∧ z ≤ 2 ^ 30 ∧ Sup (m + 1) l' ∧ exS T big none false 39 lwA [s0, s1, s2, s3, s4, s5, s6, s7, .own l, s9, s10, s11] = .nx [s0, s1, s2, s3, s4, s5, s6, .val (.int z), .own l', s9, s10, s11] := by
  obtain ⟨d, l2, dm, c2, s2'⟩ := o.on.2 (ds := [.int 2, .int 4, .int 100, .int 1000000000]) sup (by omega) (by simp) (by simp)
  have dv : ∃ z : Int, d = .int z ∧ 2 ≤ z ∧ z ≤ 2 ^ 30 := by
    simp only [List.mem_cons, List.not_mem_nil, or_false] at dm
    rcases dm with e | e | e | e
    · exact ⟨2, e, by decide, by decide⟩
    · exact ⟨4, e, by decide, by decide⟩
    · exact ⟨100, e, by decide, by decide⟩
    · exact ⟨1000000000, e, by decide, by decide⟩
  obtain ⟨z, rfl, z1, z2⟩ := dv
  refine ⟨z, l2, z1, z2, s2', ?_⟩
  have e2 : callR T "_law_one_of" [] ([.o 8, .d (.lst [.int 2, .int 4, .int 100, .int 1000000000])], [s0, s1, s2, s3, s4, s5, s6, s7, .own l, s9, s10, s11]) = .ok (.int z, [s0, s1, s2, s3, s4, s5, s6, s7, .own l2, s9, s10, s11]) := cr_io (i := 8) (l := l2) (ss := [.own l, .val (.lst [.int 2, .int 4, .int 100, .int 1000000000])]) rfl rfl rfl c2 rfl
  have pw : prim .pow [.int 10, .int 9] = .ok (.int 1000000000) := rfl
  have l4' : ∀ a b c d : D, prim .lst [a, b, c, d] = .ok (.lst [a, b, c, d]) := fun _ _ _ _ => rfl
  unfold lwA
  simp only [b_ok, b_bad, b_ex, o_ok, o_bad, o_ex, s_nx, s_rt, s_bk, s_ct, s_bad, t_nx, t_ct, t_bk, t_rt, t_bad, e_c, e_v, e_g, e_pr, e_and, e_or, e_ite, and_bl, or_bl, ite_bl, a_nil, a_c, a_g, a_v, a_pr, a_and, a_or, a_ite, a_ch, a_call, a_lc, cons_ok, a_bw, a_io, v_0, v_s, w_0, w_v, w_n, w_s, rd_nil, rd_d, rd_b, r_nil, r_d, r_b, r_o, om_some, ix_0, ix_1, ix_2, l_nil, l_cons, x_asg, x_ret, x_ite, iteO_bl, x_stop, p_add_i, p_sub_i, p_neg_i, p_mul_i, p_fdiv_i, p_mod_i, p_ix_t, p_ix_l, p_lt_i, p_le_i, p_gt_i, p_ge_i, p_abs_i, p_not_b, p_len_t, p_len_l, p_tup0, p_tup1, p_tup2, p_tup3, p_lst0, p_lst1, p_lst2, p_eq_i, p_ne_i, prR, asgR, st_n, st_t, sm_nil, sm_cons, List.set_cons_zero, List.set_cons_succ, fls_iff, tru_iff, n_isSome, s_isSome, if_true, if_false, Bool.false_eq_true, Bool.true_eq_false, x_setI, setR_eq, x_app, x_for, x_par, parR, el_nil, el_cons, elc_ok, x_whl, x_retF, x_pop, e_lc, pw, l4', e_call _ _ _ o.on.1, e2, n7 _]
theorem lw_b {m : Nat} {z : Int} (o : La T) (sup : Sup m l) (hm : m + 100000 < 2 ^ 60) (z1 : 2 ≤ z) (z2 : z ≤ 2 ^ 30) (n5 : NoW s5) : ∃ (ps : List Rat) (l' : List D), HtA 30 ps ∧ Nz ps ∧ ps.length ≤ 7 ∧ Sup (m + 29) l' ∧ exS T big none false 39 lwB [s0, s1, s2, s3, s4, s5, s6, .val (.int z), .own l, s9, s10, s11] = .nx [s0, s1, s2, s3, s4, .val (.tup (frs ps)), s6, .val (.int z), .own l', s9, s10, s11] := by
  obtain ⟨ps, l2, c2, h, nz, hp, s2'⟩ := o.po.2 (n := 6) (k := 30) sup (by omega) (by decide) z1 z2 (by decide) (by decide)
  refine ⟨ps, l2, h, nz, hp, s2'.mono (by omega), ?_⟩
  have e2 : callR T "_law_polynomial" [] ([.o 8, .d (.int 6), .d (.int z)], [s0, s1, s2, s3, s4, s5, s6, .val (.int z), .own l, s9, s10, s11]) = .ok (.tup (frs ps), [s0, s1, s2, s3, s4, s5, s6, .val (.int z), .own l2, s9, s10, s11]) := cr_io (i := 8) (l := l2) (ss := [.own l, .val (.int 6), .val (.int z)]) rfl rfl rfl c2 rfl
  unfold lwB
  simp only [b_ok, b_bad, b_ex, o_ok, o_bad, o_ex, s_nx, s_rt, s_bk, s_ct, s_bad, t_nx, t_ct, t_bk, t_rt, t_bad, e_c, e_v, e_g, e_pr, e_and, e_or, e_ite, and_bl, or_bl, ite_bl, a_nil, a_c, a_g, a_v, a_pr, a_and, a_or, a_ite, a_ch, a_call, a_lc, cons_ok, a_bw, a_io, v_0, v_s, w_0, w_v, w_n, w_s, rd_nil, rd_d, rd_b, r_nil, r_d, r_b, r_o, om_some, ix_0, ix_1, ix_2, l_nil, l_cons, x_asg, x_ret, x_ite, iteO_bl, x_stop, p_add_i, p_sub_i, p_neg_i, p_mul_i, p_fdiv_i, p_mod_i, p_ix_t, p_ix_l, p_lt_i, p_le_i, p_gt_i, p_ge_i, p_abs_i, p_not_b, p_len_t, p_len_l, p_tup0, p_tup1, p_tup2, p_tup3, p_lst0, p_lst1, p_lst2, p_eq_i, p_ne_i, prR, asgR, st_n, st_t, sm_nil, sm_cons, List.set_cons_zero, List.set_cons_succ, fls_iff, tru_iff, n_isSome, s_isSome, if_true, if_false, Bool.false_eq_true, Bool.true_eq_false, x_setI, setR_eq, x_app, x_for, x_par, parR, el_nil, el_cons, elc_ok, x_whl, x_retF, x_pop, e_lc, e_call _ _ _ o.po.1, e2, n5 _]
theorem neg_ht {k : Nat} {ps : List Rat} (h : HtA k ps) : HtA k (ps.map fun q => -q) := fun q hq => by
  obtain ⟨x, hx, rfl⟩ := List.mem_map.mp hq
  refine ⟨?_, ?_⟩
  · rw [Rat.neg_num]; exact (h x hx).1.neg
  · rw [Rat.neg_den]; exact (h x hx).2
theorem neg_nz {ps : List Rat} (h : Nz ps) : Nz (ps.map fun q => -q) := fun x hx => by
  rw [List.getLast?_map] at hx
  cases hl : ps.getLast? with
  | none => rw [hl] at hx; cases hx
  | some q =>
    rw [hl] at hx
    have e : -q = x := Option.some.inj hx
    rw [← e]
    intro z
    refine h q hl ?_
    have := congrArg (fun y => -y) z
    simpa using this
theorem lw_c {m : Nat} {z : Int} (o : La T) (sup : Sup m l) (hm : m + 100000 < 2 ^ 60) (z1 : 2 ≤ z) (z2 : z ≤ 2 ^ 30) (h : HtA 30 ps) (nz : Nz ps) (hp : ps.length ≤ 7) (n1 : NoW s1) (n2 : NoW s2) (n6 : NoW s6) : ∃ (qs : List Rat) (l' : List D), HtA 30 qs ∧ Nz qs ∧ qs.length ≤ 7 ∧ Sup (m + 30) l' ∧ exS T big none false 39 lwC [s0, s1, s2, s3, s4, .val (.tup (frs ps)), s6, .val (.int z), .own l, s9, s10, s11] = .nx [s0, s1, s2, s3, s4, .val (.tup (frs ps)), .val (.tup (frs qs)), .val (.int z), .own l', s9, s10, s11] := by
  obtain ⟨rs, l2, c2, hr, nzr, hpr, s2'⟩ := o.po.2 (n := 6) (k := 30) sup (by omega) (by decide) z1 z2 (by decide) (by decide)
  obtain ⟨d, l3, dm, c3, s3'⟩ := o.on.2 (ds := [.tup (frs rs), .tup (frs (ps.map fun q => -q))]) s2' (by omega) (by simp) (by simp)
  have dv : ∃ qs : List Rat, d = .tup (frs qs) ∧ HtA 30 qs ∧ Nz qs ∧ qs.length ≤ 7 := by
    simp only [List.mem_cons, List.not_mem_nil, or_false] at dm
    rcases dm with e | e
    · exact ⟨rs, e, hr, nzr, hpr⟩
    · exact ⟨_, e, neg_ht h, neg_nz nz, by rw [List.length_map]; exact hp⟩
  obtain ⟨qs, rfl, hq, nzq, hpq⟩ := dv
  refine ⟨qs, l3, hq, nzq, hpq, s3'.mono (by omega), ?_⟩
  have e2 : callR T "_law_polynomial" [] ([.o 8, .d (.int 6), .d (.int z)], [s0, s1, s2, s3, s4, .val (.tup (frs ps)), s6, .val (.int z), .own l, s9, s10, s11]) = .ok (.tup (frs rs), [s0, s1, s2, s3, s4, .val (.tup (frs ps)), s6, .val (.int z), .own l2, s9, s10, s11]) := cr_io (i := 8) (l := l2) (ss := [.own l, .val (.int 6), .val (.int z)]) rfl rfl rfl c2 rfl
  have e3 : callR T "_law_one_of" [] ([.o 8, .d (.lst [.tup (frs rs), .tup (frs (ps.map fun q => -q))])], [s0, s1, s2, s3, s4, .val (.tup (frs ps)), s6, .val (.int z), .own l2, s9, s10, s11]) = .ok (.tup (frs qs), [s0, s1, s2, s3, s4, .val (.tup (frs ps)), s6, .val (.int z), .own l3, s9, s10, s11]) := cr_io (i := 8) (l := l3) (ss := [.own l2, .val (.lst [.tup (frs rs), .tup (frs (ps.map fun q => -q))])]) rfl rfl rfl c3 rfl
  have tl : ∀ l : List D, prim .tuple [.lst l] = .ok (.tup l) := fun _ => rfl
  have l2' : lcR T 34 (.pr .tup [.pr .sub [.c (.int 0), .v 1], .v 2]) (.t [1, 2]) .seq none [1, 2] ([.tup (frs ps)], [s0, s1, s2, s3, s4, .val (.tup (frs ps)), s6, .val (.int z), .own l2, s9, s10, s11]) = .ok (.lst (frs (ps.map fun q => -q)), [s0, s1, s2, s3, s4, .val (.tup (frs ps)), s6, .val (.int z), .own l2, s9, s10, s11]) := by
    have em : frs (ps.map fun q => -q) = ps.map fun q => fr (-q) := by
      unfold frs
      rw [List.map_map]
      rfl
    rw [em]
    refine lcR_mapU (n := 34) (en := [s0, s1, s2, s3, s4, .val (.tup (frs ps)), s6, .val (.int z), .own l2, s9, s10, s11]) (us := ps) (h := fr) (g := fun q => fr (-q)) rfl ?_ (by unfold lineN; omega) fun c hc2 => ?_
    · cases s1 <;> cases s2 <;> first | rfl | (have z := n1 []; rw [w_0] at z; cases z) | (have z := n2 []; rw [w_0] at z; cases z)
    · refine ⟨[s0, .val (.int c.num), .val (.int c.den), s3, s4, .val (.tup (frs ps)), s6, .val (.int z), .own l2, s9, s10, s11], [s0, .val (.int c.num), .val (.int c.den), s3, s4, .val (.tup (frs ps)), s6, .val (.int z), .own l2, s9, s10, s11], rfl, ?_, rfl⟩
      have e : fr (-c) = .tup [.int (0 - c.num), .int c.den] := by
        unfold fr
        rw [Rat.neg_num, Rat.neg_den, Int.zero_sub]
      rw [e]
      simp only [b_ok, b_bad, b_ex, o_ok, o_bad, o_ex, s_nx, s_rt, s_bk, s_ct, s_bad, t_nx, t_ct, t_bk, t_rt, t_bad, e_c, e_v, e_g, e_pr, e_and, e_or, e_ite, and_bl, or_bl, ite_bl, a_nil, a_c, a_g, a_v, a_pr, a_and, a_or, a_ite, a_ch, a_call, a_lc, cons_ok, a_bw, a_io, v_0, v_s, w_0, w_v, w_n, w_s, rd_nil, rd_d, rd_b, r_nil, r_d, r_b, r_o, om_some, ix_0, ix_1, ix_2, l_nil, l_cons, x_asg, x_ret, x_ite, iteO_bl, x_stop, p_add_i, p_sub_i, p_neg_i, p_mul_i, p_fdiv_i, p_mod_i, p_ix_t, p_ix_l, p_lt_i, p_le_i, p_gt_i, p_ge_i, p_abs_i, p_not_b, p_len_t, p_len_l, p_tup0, p_tup1, p_tup2, p_tup3, p_lst0, p_lst1, p_lst2, p_eq_i, p_ne_i, prR, asgR, st_n, st_t, sm_nil, sm_cons, List.set_cons_zero, List.set_cons_succ, fls_iff, tru_iff, n_isSome, s_isSome, if_true, if_false, Bool.false_eq_true, Bool.true_eq_false, x_setI, setR_eq, x_app, x_for, x_par, parR, el_nil, el_cons, elc_ok, x_whl, x_retF, x_pop, e_lc]
  unfold lwC
  simp only [b_ok, b_bad, b_ex, o_ok, o_bad, o_ex, s_nx, s_rt, s_bk, s_ct, s_bad, t_nx, t_ct, t_bk, t_rt, t_bad, e_c, e_v, e_g, e_pr, e_and, e_or, e_ite, and_bl, or_bl, ite_bl, a_nil, a_c, a_g, a_v, a_pr, a_and, a_or, a_ite, a_ch, a_call, a_lc, cons_ok, a_bw, a_io, v_0, v_s, w_0, w_v, w_n, w_s, rd_nil, rd_d, rd_b, r_nil, r_d, r_b, r_o, om_some, ix_0, ix_1, ix_2, l_nil, l_cons, x_asg, x_ret, x_ite, iteO_bl, x_stop, p_add_i, p_sub_i, p_neg_i, p_mul_i, p_fdiv_i, p_mod_i, p_ix_t, p_ix_l, p_lt_i, p_le_i, p_gt_i, p_ge_i, p_abs_i, p_not_b, p_len_t, p_len_l, p_tup0, p_tup1, p_tup2, p_tup3, p_lst0, p_lst1, p_lst2, p_eq_i, p_ne_i, prR, asgR, st_n, st_t, sm_nil, sm_cons, List.set_cons_zero, List.set_cons_succ, fls_iff, tru_iff, n_isSome, s_isSome, if_true, if_false, Bool.false_eq_true, Bool.true_eq_false, x_setI, setR_eq, x_app, x_for, x_par, parR, el_nil, el_cons, elc_ok, x_whl, x_retF, x_pop, e_lc, e_call _ _ _ o.po.1, e_call _ _ _ o.on.1, e2, l2', tl, e3, n6 _]
theorem lw_d (h : HtA 30 ps) (g : HtA 30 qs) (hp : ps.length ≤ 7) (hq : qs.length ≤ 7) (n3 : NoW s3) : exS T big none false 39 lwD [s0, s1, s2, s3, s4, .val (.tup (frs ps)), .val (.tup (frs qs)), s7, .own l, s9, s10, s11] = .nx [s0, s1, s2, .val (.str (D.tup [.tup (frs ps), .tup (frs qs)]).py.shown), s4, .val (.tup (frs ps)), .val (.tup (frs qs)), s7, .own l, s9, s10, s11] := by
  have r := rep_ok (pair_ok h g (by decide) (by omega) (by omega))
  unfold lwD
  simp only [b_ok, b_bad, b_ex, o_ok, o_bad, o_ex, s_nx, s_rt, s_bk, s_ct, s_bad, t_nx, t_ct, t_bk, t_rt, t_bad, e_c, e_v, e_g, e_pr, e_and, e_or, e_ite, and_bl, or_bl, ite_bl, a_nil, a_c, a_g, a_v, a_pr, a_and, a_or, a_ite, a_ch, a_call, a_lc, cons_ok, a_bw, a_io, v_0, v_s, w_0, w_v, w_n, w_s, rd_nil, rd_d, rd_b, r_nil, r_d, r_b, r_o, om_some, ix_0, ix_1, ix_2, l_nil, l_cons, x_asg, x_ret, x_ite, iteO_bl, x_stop, p_add_i, p_sub_i, p_neg_i, p_mul_i, p_fdiv_i, p_mod_i, p_ix_t, p_ix_l, p_lt_i, p_le_i, p_gt_i, p_ge_i, p_abs_i, p_not_b, p_len_t, p_len_l, p_tup0, p_tup1, p_tup2, p_tup3, p_lst0, p_lst1, p_lst2, p_eq_i, p_ne_i, prR, asgR, st_n, st_t, sm_nil, sm_cons, List.set_cons_zero, List.set_cons_succ, fls_iff, tru_iff, n_isSome, s_isSome, if_true, if_false, Bool.false_eq_true, Bool.true_eq_false, x_setI, setR_eq, x_app, x_for, x_par, parR, el_nil, el_cons, elc_ok, x_whl, x_retF, x_pop, e_lc, r, n3 _]
theorem prod_ht {K : Nat} (h : HtA K ps) (g : HtA K qs) : HtA (1 + ps.length * (K + K + 1)) (prod ps qs) := fun x hx => by
  unfold prod at hx
  obtain ⟨i, _, rfl⟩ := List.mem_map.mp hx
  exact cv_ht h g _
theorem prod_len : (prod ps qs).length = ps.length + qs.length - 1 := by
  unfold prod
  rw [List.length_map, List.length_range]
theorem lw_e (o : La T) (h : HtA 30 ps) (g : HtA 30 qs) (hp : ps.length ≤ 7) (hq : qs.length ≤ 7) : exS T big none false 39 lwE [s0, s1, s2, s3, s4, .val (.tup (frs ps)), .val (.tup (frs qs)), s7, .own l, s9, s10, s11] = .nx [s0, s1, s2, s3, s4, .val (.tup (frs ps)), .val (.tup (frs qs)), s7, .own l, s9, s10, s11] := by
  have c1 : ∀ en, callR T "sum_of" [] ([.d (.tup (frs ps)), .d (.tup (frs qs))], en) = .ok (.tup (frs (trim (padd ps qs))), en) := fun en => cr_ok rfl rfl rfl (o.sm.2 h g hp hq) rfl
  have c2 : ∀ en, callR T "_law_added" [] ([.d (.tup (frs ps)), .d (.tup (frs qs))], en) = .ok (.tup (frs (trim (padd ps qs))), en) := fun en => cr_ok rfl rfl rfl (o.sl.2 h g hp hq) rfl
  have tl := trim_len (padd ps qs)
  have pl := padd_len ps qs
  have ok := tup_ok (trim_ht (padd_ht h g (by decide))) (by decide) (by omega)
  have c4 := fun en => al_cr (en := en) o.al ok
  unfold lwE
  simp only [b_ok, b_bad, b_ex, o_ok, o_bad, o_ex, s_nx, s_rt, s_bk, s_ct, s_bad, t_nx, t_ct, t_bk, t_rt, t_bad, e_c, e_v, e_g, e_pr, e_and, e_or, e_ite, and_bl, or_bl, ite_bl, a_nil, a_c, a_g, a_v, a_pr, a_and, a_or, a_ite, a_ch, a_call, a_lc, cons_ok, a_bw, a_io, v_0, v_s, w_0, w_v, w_n, w_s, rd_nil, rd_d, rd_b, r_nil, r_d, r_b, r_o, om_some, ix_0, ix_1, ix_2, l_nil, l_cons, x_asg, x_ret, x_ite, iteO_bl, x_stop, p_add_i, p_sub_i, p_neg_i, p_mul_i, p_fdiv_i, p_mod_i, p_ix_t, p_ix_l, p_lt_i, p_le_i, p_gt_i, p_ge_i, p_abs_i, p_not_b, p_len_t, p_len_l, p_tup0, p_tup1, p_tup2, p_tup3, p_lst0, p_lst1, p_lst2, p_eq_i, p_ne_i, prR, asgR, st_n, st_t, sm_nil, sm_cons, List.set_cons_zero, List.set_cons_succ, fls_iff, tru_iff, n_isSome, s_isSome, if_true, if_false, Bool.false_eq_true, Bool.true_eq_false, x_setI, setR_eq, x_app, x_for, x_par, parR, el_nil, el_cons, elc_ok, x_whl, x_retF, x_pop, e_lc, e_call _ _ _ o.al.1, e_call _ _ _ o.sm.1, e_call _ _ _ o.sl.1, c1, c2, c4, Bool.not_true]
theorem lw_f (o : La T) (h : HtA 30 ps) (g : HtA 30 qs) (hp : ps.length ≤ 7) (hq : qs.length ≤ 7) : exS T big none false 39 lwF [s0, s1, s2, s3, s4, .val (.tup (frs ps)), .val (.tup (frs qs)), s7, .own l, s9, s10, s11] = .nx [s0, s1, s2, s3, s4, .val (.tup (frs ps)), .val (.tup (frs qs)), s7, .own l, s9, s10, s11] := by
  have c1 : ∀ en, callR T "product_of" [] ([.d (.tup (frs ps)), .d (.tup (frs qs))], en) = .ok (.tup (frs (trim (prod ps qs))), en) := fun en => cr_ok rfl rfl rfl (o.pr.2 h g hp hq) rfl
  have c2 : ∀ en, callR T "_law_product" [] ([.d (.tup (frs ps)), .d (.tup (frs qs))], en) = .ok (.tup (frs (trim (prod ps qs))), en) := fun en => cr_ok rfl rfl rfl (o.pl.2 h g hp hq) rfl
  have tl := trim_len (prod ps qs)
  have pl := prod_len (ps := ps) (qs := qs)
  have ok := tup_ok (trim_ht (prod_ht h g)) (by omega) (by omega)
  have c4 := fun en => al_cr (en := en) o.al ok
  unfold lwF
  simp only [b_ok, b_bad, b_ex, o_ok, o_bad, o_ex, s_nx, s_rt, s_bk, s_ct, s_bad, t_nx, t_ct, t_bk, t_rt, t_bad, e_c, e_v, e_g, e_pr, e_and, e_or, e_ite, and_bl, or_bl, ite_bl, a_nil, a_c, a_g, a_v, a_pr, a_and, a_or, a_ite, a_ch, a_call, a_lc, cons_ok, a_bw, a_io, v_0, v_s, w_0, w_v, w_n, w_s, rd_nil, rd_d, rd_b, r_nil, r_d, r_b, r_o, om_some, ix_0, ix_1, ix_2, l_nil, l_cons, x_asg, x_ret, x_ite, iteO_bl, x_stop, p_add_i, p_sub_i, p_neg_i, p_mul_i, p_fdiv_i, p_mod_i, p_ix_t, p_ix_l, p_lt_i, p_le_i, p_gt_i, p_ge_i, p_abs_i, p_not_b, p_len_t, p_len_l, p_tup0, p_tup1, p_tup2, p_tup3, p_lst0, p_lst1, p_lst2, p_eq_i, p_ne_i, prR, asgR, st_n, st_t, sm_nil, sm_cons, List.set_cons_zero, List.set_cons_succ, fls_iff, tru_iff, n_isSome, s_isSome, if_true, if_false, Bool.false_eq_true, Bool.true_eq_false, x_setI, setR_eq, x_app, x_for, x_par, parR, el_nil, el_cons, elc_ok, x_whl, x_retF, x_pop, e_lc, e_call _ _ _ o.al.1, e_call _ _ _ o.pr.1, e_call _ _ _ o.pl.1, c1, c2, c4, Bool.not_true]
theorem lw_g {m : Nat} (o : La T) (sup : Sup m l) (hm : m + 100000 < 2 ^ 60) (h : HtA 30 ps) (g : HtA 30 qs) (nz : Nz ps) (nzq : Nz qs) (hp : ps.length ≤ 7) (hq : qs.length ≤ 7) : ∃ l', Sup (m + 8) l' ∧ exS T big none false 39 lwG [s0, s1, s2, .val (.str (D.tup [.tup (frs ps), .tup (frs qs)]).py.shown), s4, .val (.tup (frs ps)), .val (.tup (frs qs)), s7, .own l, s9, s10, s11] = .nx [s0, s1, s2, .val (.str (D.tup [.tup (frs ps), .tup (frs qs)]).py.shown), s4, .val (.tup (frs ps)), .val (.tup (frs qs)), s7, .own l', s9, s10, s11] := by
  obtain ⟨l2, c2, s2'⟩ := o.o1.2 sup (by omega) nz h hp
  obtain ⟨l3, c3, s3'⟩ := o.o1.2 s2' (by omega) nzq g hq
  refine ⟨l3, s3'.mono (by omega), ?_⟩
  have e2 : callR T "_law_one_right" [] ([.o 8, .d (.tup (frs ps))], [s0, s1, s2, .val (.str (D.tup [.tup (frs ps), .tup (frs qs)]).py.shown), s4, .val (.tup (frs ps)), .val (.tup (frs qs)), s7, .own l, s9, s10, s11]) = .ok (.bl true, [s0, s1, s2, .val (.str (D.tup [.tup (frs ps), .tup (frs qs)]).py.shown), s4, .val (.tup (frs ps)), .val (.tup (frs qs)), s7, .own l2, s9, s10, s11]) := cr_io (i := 8) (l := l2) (ss := [.own l, .val (.tup (frs ps))]) rfl rfl rfl c2 rfl
  have e3 : callR T "_law_one_right" [] ([.o 8, .d (.tup (frs qs))], [s0, s1, s2, .val (.str (D.tup [.tup (frs ps), .tup (frs qs)]).py.shown), s4, .val (.tup (frs ps)), .val (.tup (frs qs)), s7, .own l2, s9, s10, s11]) = .ok (.bl true, [s0, s1, s2, .val (.str (D.tup [.tup (frs ps), .tup (frs qs)]).py.shown), s4, .val (.tup (frs ps)), .val (.tup (frs qs)), s7, .own l3, s9, s10, s11]) := cr_io (i := 8) (l := l3) (ss := [.own l2, .val (.tup (frs qs))]) rfl rfl rfl c3 rfl
  have r := rep_ok (pair_ok h g (by decide) (by omega) (by omega))
  unfold lwG
  simp only [b_ok, b_bad, b_ex, o_ok, o_bad, o_ex, s_nx, s_rt, s_bk, s_ct, s_bad, t_nx, t_ct, t_bk, t_rt, t_bad, e_c, e_v, e_g, e_pr, e_and, e_or, e_ite, and_bl, or_bl, ite_bl, a_nil, a_c, a_g, a_v, a_pr, a_and, a_or, a_ite, a_ch, a_call, a_lc, cons_ok, a_bw, a_io, v_0, v_s, w_0, w_v, w_n, w_s, rd_nil, rd_d, rd_b, r_nil, r_d, r_b, r_o, om_some, ix_0, ix_1, ix_2, l_nil, l_cons, x_asg, x_ret, x_ite, iteO_bl, x_stop, p_add_i, p_sub_i, p_neg_i, p_mul_i, p_fdiv_i, p_mod_i, p_ix_t, p_ix_l, p_lt_i, p_le_i, p_gt_i, p_ge_i, p_abs_i, p_not_b, p_len_t, p_len_l, p_tup0, p_tup1, p_tup2, p_tup3, p_lst0, p_lst1, p_lst2, p_eq_i, p_ne_i, prR, asgR, st_n, st_t, sm_nil, sm_cons, List.set_cons_zero, List.set_cons_succ, fls_iff, tru_iff, n_isSome, s_isSome, if_true, if_false, Bool.false_eq_true, Bool.true_eq_false, x_setI, setR_eq, x_app, x_for, x_par, parR, el_nil, el_cons, elc_ok, x_whl, x_retF, x_pop, e_lc, e_call _ _ _ o.o1.1, e2, e3, r, ne_self, Bool.not_true]
theorem lw_h {m : Nat} (o : La T) (sup : Sup m l) (hm : m + 100000 < 2 ^ 60) (n11 : NoW s11) : ∃ (n : Nat) (l' : List D), n ≤ 4 ∧ Sup (m + 1) l' ∧ exS T big none false 39 lwH [s0, s1, s2, s3, s4, s5, s6, s7, .own l, s9, s10, s11] = .nx [s0, s1, s2, s3, s4, s5, s6, s7, .own l', s9, s10, .val (.lst (frs (List.replicate n 0)))] := by
  obtain ⟨r, l2, c2, r0, r4, s2'⟩ := o.be.2 (size := 4) sup (by omega) (by decide) (by unfold Bd; decide)
  obtain ⟨n, rfl⟩ := Int.eq_ofNat_of_zero_le r0
  refine ⟨n, l2, by omega, s2', ?_⟩
  have e2 : callR T "_law_below" [] ([.o 8, .d (.int 4)], [s0, s1, s2, s3, s4, s5, s6, s7, .own l, s9, s10, s11]) = .ok (.int n, [s0, s1, s2, s3, s4, s5, s6, s7, .own l2, s9, s10, s11]) := cr_io (i := 8) (l := l2) (ss := [.own l, .val (.int 4)]) rfl rfl rfl c2 rfl
  have ea : evE T 37 (.pr .lst [.pr .tup [.c (.int 0), .c (.int 1)]]) [s0, s1, s2, s3, s4, s5, s6, s7, .own l, s9, s10, s11] = .ok (.lst [fr 0], [s0, s1, s2, s3, s4, s5, s6, s7, .own l, s9, s10, s11]) := rfl
  have eb : evE T 37 (.call "_law_below" [.io 8, .c (.int 4)] []) [s0, s1, s2, s3, s4, s5, s6, s7, .own l, s9, s10, s11] = .ok (.int n, [s0, s1, s2, s3, s4, s5, s6, s7, .own l2, s9, s10, s11]) := by
    simp only [b_ok, b_bad, b_ex, o_ok, o_bad, o_ex, s_nx, s_rt, s_bk, s_ct, s_bad, t_nx, t_ct, t_bk, t_rt, t_bad, e_c, e_v, e_g, e_pr, e_and, e_or, e_ite, and_bl, or_bl, ite_bl, a_nil, a_c, a_g, a_v, a_pr, a_and, a_or, a_ite, a_ch, a_call, a_lc, cons_ok, a_bw, a_io, v_0, v_s, w_0, w_v, w_n, w_s, rd_nil, rd_d, rd_b, r_nil, r_d, r_b, r_o, om_some, ix_0, ix_1, ix_2, l_nil, l_cons, x_asg, x_ret, x_ite, iteO_bl, x_stop, p_add_i, p_sub_i, p_neg_i, p_mul_i, p_fdiv_i, p_mod_i, p_ix_t, p_ix_l, p_lt_i, p_le_i, p_gt_i, p_ge_i, p_abs_i, p_not_b, p_len_t, p_len_l, p_tup0, p_tup1, p_tup2, p_tup3, p_lst0, p_lst1, p_lst2, p_eq_i, p_ne_i, prR, asgR, st_n, st_t, sm_nil, sm_cons, List.set_cons_zero, List.set_cons_succ, fls_iff, tru_iff, n_isSome, s_isSome, if_true, if_false, Bool.false_eq_true, Bool.true_eq_false, x_setI, setR_eq, x_app, x_for, x_par, parR, el_nil, el_cons, elc_ok, x_whl, x_retF, x_pop, e_lc, e_call _ _ _ o.be.1, e2]
  have em : frs (List.replicate n 0) = List.replicate n (fr 0) := by
    unfold frs
    rw [List.map_replicate]
  have ec := pr_two (T := T) (n := 37) (p := .mul) (fun _ _ _ => rfl) (fun _ _ _ => rfl) ea eb (wr_l.h3 (fr 0) n (by omega))
  unfold lwH
  rw [x_asg, ec, o_ok, em]
  simp only [b_ok, b_bad, b_ex, o_ok, o_bad, o_ex, s_nx, s_rt, s_bk, s_ct, s_bad, t_nx, t_ct, t_bk, t_rt, t_bad, e_c, e_v, e_g, e_pr, e_and, e_or, e_ite, and_bl, or_bl, ite_bl, a_nil, a_c, a_g, a_v, a_pr, a_and, a_or, a_ite, a_ch, a_call, a_lc, cons_ok, a_bw, a_io, v_0, v_s, w_0, w_v, w_n, w_s, rd_nil, rd_d, rd_b, r_nil, r_d, r_b, r_o, om_some, ix_0, ix_1, ix_2, l_nil, l_cons, x_asg, x_ret, x_ite, iteO_bl, x_stop, p_add_i, p_sub_i, p_neg_i, p_mul_i, p_fdiv_i, p_mod_i, p_ix_t, p_ix_l, p_lt_i, p_le_i, p_gt_i, p_ge_i, p_abs_i, p_not_b, p_len_t, p_len_l, p_tup0, p_tup1, p_tup2, p_tup3, p_lst0, p_lst1, p_lst2, p_eq_i, p_ne_i, prR, asgR, st_n, st_t, sm_nil, sm_cons, List.set_cons_zero, List.set_cons_succ, fls_iff, tru_iff, n_isSome, s_isSome, if_true, if_false, Bool.false_eq_true, Bool.true_eq_false, x_setI, setR_eq, x_app, x_for, x_par, parR, el_nil, el_cons, elc_ok, x_whl, x_retF, x_pop, e_lc, n11 _]
theorem lw_i (o : La T) {d : D} {rs : List Rat} (hd : d = .tup (frs rs) ∨ d = .lst (frs rs)) (hr : HtA 30 rs) (hl : rs.length ≤ 100) (hp : ps.length ≤ 7) (h : HtA 30 ps) (ht : trim rs = ps) (n9 : NoW s9) : ∃ en', loopF (.n 9) (runL (exS T big none false 37) lwI) (rngD 0 2) [s0, s1, s2, .val (.str d.py.shown), .val d, .val (.tup (frs ps)), s6, s7, .own l, s9, s10, s11] = .nx en' ∧ ∃ s9, NoW s9 ∧ en' = [s0, s1, s2, .val (.str d.py.shown), .val d, .val (.tup (frs ps)), s6, s7, .own l, s9, s10, s11] := by
  have ok : d.okShow = true := by
    rcases hd with e | e
    · rw [e]; exact tup_ok hr (by decide) (by omega)
    · rw [e]; exact lst_ok hr (by decide) (by omega)
  have c1 : ∀ en, callR T "trimmed" [] ([.d d], en) = .ok (.tup (frs ps), en) := fun en => by
    have c := o.tr.2 hd hr (by decide) (by decide) (by omega)
    rw [ht] at c
    exact cr_ok rfl rfl rfl c rfl
  have c4 := fun en => al_cr (en := en) o.al (tup_ok h (by decide) (by omega))
  have r := rep_ok ok
  refine loop_all (Q := fun _ => True) (fun x en _ p => ?_) (rngD 0 2) _ (fun _ _ => trivial) ⟨s9, n9, rfl⟩
  obtain ⟨s9, n9, rfl⟩ := p
  refine ⟨[s0, s1, s2, .val (.str d.py.shown), .val d, .val (.tup (frs ps)), s6, s7, .own l, .val x, s10, s11], _, ?_, ?_, .val x, now_val x, rfl⟩
  · rw [st_n]
    simp only [w_s, n9 _, n_isSome, fls_iff, List.set_cons_succ, List.set_cons_zero, Bool.false_eq_true, if_false]
  · unfold lwI
    simp only [b_ok, b_bad, b_ex, o_ok, o_bad, o_ex, s_nx, s_rt, s_bk, s_ct, s_bad, t_nx, t_ct, t_bk, t_rt, t_bad, e_c, e_v, e_g, e_pr, e_and, e_or, e_ite, and_bl, or_bl, ite_bl, a_nil, a_c, a_g, a_v, a_pr, a_and, a_or, a_ite, a_ch, a_call, a_lc, cons_ok, a_bw, a_io, v_0, v_s, w_0, w_v, w_n, w_s, rd_nil, rd_d, rd_b, r_nil, r_d, r_b, r_o, om_some, ix_0, ix_1, ix_2, l_nil, l_cons, x_asg, x_ret, x_ite, iteO_bl, x_stop, p_add_i, p_sub_i, p_neg_i, p_mul_i, p_fdiv_i, p_mod_i, p_ix_t, p_ix_l, p_lt_i, p_le_i, p_gt_i, p_ge_i, p_abs_i, p_not_b, p_len_t, p_len_l, p_tup0, p_tup1, p_tup2, p_tup3, p_lst0, p_lst1, p_lst2, p_eq_i, p_ne_i, prR, asgR, st_n, st_t, sm_nil, sm_cons, List.set_cons_zero, List.set_cons_succ, fls_iff, tru_iff, n_isSome, s_isSome, if_true, if_false, Bool.false_eq_true, Bool.true_eq_false, x_setI, setR_eq, x_app, x_for, x_par, parR, el_nil, el_cons, elc_ok, x_whl, x_retF, x_pop, e_lc, e_call _ _ _ o.al.1, e_call _ _ _ o.tr.1, c1, c4, r, ne_self, Bool.not_true]
theorem lw_k (o : La T) {n : Nat} (h : HtA 30 ps) (nz : Nz ps) (hp : ps.length ≤ 7) (hn : n ≤ 4) (n3 : NoW s3) (n4 : NoW s4) (n9 : NoW s9) : ∃ t3 t4 t9, NoW t3 ∧ NoW t4 ∧ NoW t9 ∧ exS T big none false 39 lwK [s0, s1, s2, s3, s4, .val (.tup (frs ps)), s6, s7, .own l, s9, s10, .val (.lst (frs (List.replicate n 0)))] = .nx [s0, s1, s2, t3, t4, .val (.tup (frs ps)), s6, s7, .own l, t9, s10, .val (.lst (frs (List.replicate n 0)))] := by
  let rs := ps ++ List.replicate n 0
  have hr : HtA 30 rs := fun q hq => by
    rcases List.mem_append.mp hq with h1 | h1
    · exact h q h1
    · rw [(List.mem_replicate.mp h1).2]; exact ht_0 30 (by decide)
  have hl : rs.length ≤ 100 := by
    show (ps ++ List.replicate n 0).length ≤ 100
    rw [List.length_append, List.length_replicate]; omega
  have ht : trim rs = ps := by
    show trim (ps ++ List.replicate n 0) = ps
    rw [trim_zeros, trim_nz nz]
  have ll : (frs ps).length + (frs (List.replicate n (0 : Rat))).length ≤ lineN := by
    rw [frs_len, frs_len, List.length_replicate]; unfold lineN; omega
  have a1 : prim .add [.lst (frs ps), .lst (frs (List.replicate n 0))] = .ok (.lst (frs rs)) := by
    rw [show frs rs = frs ps ++ frs (List.replicate n 0) from frs_app _ _]
    exact wr_l.h4 _ _ ll
  have a2 : prim .add [.tup (frs ps), .tup (frs (List.replicate n 0))] = .ok (.tup (frs rs)) := by
    rw [show frs rs = frs ps ++ frs (List.replicate n 0) from frs_app _ _]
    exact wr_t.h4 _ _ ll
  have t1 : ∀ l : List D, prim .tuple [.lst l] = .ok (.tup l) := fun _ => rfl
  have t2 : ∀ l : List D, prim .tuple [.tup l] = .ok (.tup l) := fun _ => rfl
  have t3 : ∀ l : List D, prim .list [.tup l] = .ok (.lst l) := fun _ => rfl
  have ev : ∀ s0 s1 s2 s3 s4 s6 s7 s9 s10 : Slot, evE T 38 (.pr .lst [.pr .add [.pr .list [.v 5], .v 11], .pr .add [.pr .tuple [.v 5], .pr .tuple [.v 11]]]) [s0, s1, s2, s3, s4, .val (.tup (frs ps)), s6, s7, .own l, s9, s10, .val (.lst (frs (List.replicate n 0)))] = .ok (.lst [.lst (frs rs), .tup (frs rs)], [s0, s1, s2, s3, s4, .val (.tup (frs ps)), s6, s7, .own l, s9, s10, .val (.lst (frs (List.replicate n 0)))]) := fun s0 s1 s2 s3 s4 s6 s7 s9 s10 => by
    simp only [b_ok, b_bad, b_ex, o_ok, o_bad, o_ex, s_nx, s_rt, s_bk, s_ct, s_bad, t_nx, t_ct, t_bk, t_rt, t_bad, e_c, e_v, e_g, e_pr, e_and, e_or, e_ite, and_bl, or_bl, ite_bl, a_nil, a_c, a_g, a_v, a_pr, a_and, a_or, a_ite, a_ch, a_call, a_lc, cons_ok, a_bw, a_io, v_0, v_s, w_0, w_v, w_n, w_s, rd_nil, rd_d, rd_b, r_nil, r_d, r_b, r_o, om_some, ix_0, ix_1, ix_2, l_nil, l_cons, x_asg, x_ret, x_ite, iteO_bl, x_stop, p_add_i, p_sub_i, p_neg_i, p_mul_i, p_fdiv_i, p_mod_i, p_ix_t, p_ix_l, p_lt_i, p_le_i, p_gt_i, p_ge_i, p_abs_i, p_not_b, p_len_t, p_len_l, p_tup0, p_tup1, p_tup2, p_tup3, p_lst0, p_lst1, p_lst2, p_eq_i, p_ne_i, prR, asgR, st_n, st_t, sm_nil, sm_cons, List.set_cons_zero, List.set_cons_succ, fls_iff, tru_iff, n_isSome, s_isSome, if_true, if_false, Bool.false_eq_true, Bool.true_eq_false, x_setI, setR_eq, x_app, x_for, x_par, parR, el_nil, el_cons, elc_ok, x_whl, x_retF, x_pop, e_lc, a1, a2, t1, t2, t3]
  obtain ⟨en', e, s3', s4', s9', m3, m4, m9, q⟩ := loop_all (tg := .n 4) (b := runL (exS T big none false 38) lwJ) (Q := fun d => d = .tup (frs rs) ∨ d = .lst (frs rs)) (P := fun en => ∃ s3 s4 s9, NoW s3 ∧ NoW s4 ∧ NoW s9 ∧ en = [s0, s1, s2, s3, s4, .val (.tup (frs ps)), s6, s7, .own l, s9, s10, .val (.lst (frs (List.replicate n 0)))]) (fun d en hd p => by
    obtain ⟨s3, s4, s9, n3, n4, n9, rfl⟩ := p
    have ok : d.okShow = true := by
      rcases hd with e | e
      · rw [e]; exact tup_ok hr (by decide) (by omega)
      · rw [e]; exact lst_ok hr (by decide) (by omega)
    obtain ⟨en', e, s9', n9', rfl⟩ := lw_i (l := l) (s0 := s0) (s1 := s1) (s2 := s2) (s6 := s6) (s7 := s7) (s10 := s10) (s11 := .val (.lst (frs (List.replicate n 0)))) o hd hr hl hp h ht n9
    refine ⟨[s0, s1, s2, s3, .val d, .val (.tup (frs ps)), s6, s7, .own l, s9, s10, .val (.lst (frs (List.replicate n 0)))], _, ?_, ?_, .val (.str d.py.shown), .val d, s9', now_val _, now_val _, n9', rfl⟩
    · rw [st_n]
      simp only [w_s, n4 _, n_isSome, fls_iff, List.set_cons_succ, List.set_cons_zero, Bool.false_eq_true, if_false]
    · unfold lwJ
      have first : exS T big none false 38 (.asg (.n 3) (.pr .repr [.v 4])) [s0, s1, s2, s3, .val d, .val (.tup (frs ps)), s6, s7, .own l, s9, s10, .val (.lst (frs (List.replicate n 0)))] = .nx [s0, s1, s2, .val (.str d.py.shown), .val d, .val (.tup (frs ps)), s6, s7, .own l, s9, s10, .val (.lst (frs (List.replicate n 0)))] := by
        simp only [b_ok, b_bad, b_ex, o_ok, o_bad, o_ex, s_nx, s_rt, s_bk, s_ct, s_bad, t_nx, t_ct, t_bk, t_rt, t_bad, e_c, e_v, e_g, e_pr, e_and, e_or, e_ite, and_bl, or_bl, ite_bl, a_nil, a_c, a_g, a_v, a_pr, a_and, a_or, a_ite, a_ch, a_call, a_lc, cons_ok, a_bw, a_io, v_0, v_s, w_0, w_v, w_n, w_s, rd_nil, rd_d, rd_b, r_nil, r_d, r_b, r_o, om_some, ix_0, ix_1, ix_2, l_nil, l_cons, x_asg, x_ret, x_ite, iteO_bl, x_stop, p_add_i, p_sub_i, p_neg_i, p_mul_i, p_fdiv_i, p_mod_i, p_ix_t, p_ix_l, p_lt_i, p_le_i, p_gt_i, p_ge_i, p_abs_i, p_not_b, p_len_t, p_len_l, p_tup0, p_tup1, p_tup2, p_tup3, p_lst0, p_lst1, p_lst2, p_eq_i, p_ne_i, prR, asgR, st_n, st_t, sm_nil, sm_cons, List.set_cons_zero, List.set_cons_succ, fls_iff, tru_iff, n_isSome, s_isSome, if_true, if_false, Bool.false_eq_true, Bool.true_eq_false, x_setI, setR_eq, x_app, x_for, x_par, parR, el_nil, el_cons, elc_ok, x_whl, x_retF, x_pop, e_lc, rep_ok ok, n3 _]
      rw [l_cons, first, s_nx, l_cons, x_for1 (d := .int ((2 : Nat) : Int)) rfl (rng1_nat (n := 2) (by decide)), e]
      rfl) [.lst (frs rs), .tup (frs rs)] _ (fun d hd => by
        simp only [List.mem_cons, List.not_mem_nil, or_false] at hd
        rcases hd with e | e
        · exact .inr e
        · exact .inl e) ⟨s3, s4, s9, n3, n4, n9, rfl⟩
  refine ⟨s3', s4', s9', m3, m4, m9, ?_⟩
  unfold lwK
  rw [x_for1 (ev _ _ _ _ _ _ _ _ _) rfl, e, q]
theorem lw_l (o : La T) {n : Nat} (hn : n ≤ 4) : exS T big none false 39 lwL [s0, s1, s2, s3, s4, s5, s6, s7, .own l, s9, s10, .val (.lst (frs (List.replicate n 0)))] = .nx [s0, s1, s2, s3, s4, s5, s6, s7, .own l, s9, s10, .val (.lst (frs (List.replicate n 0)))] := by
  have hr : HtA 30 (List.replicate n (0 : Rat)) := fun q hq => by
    rw [(List.mem_replicate.mp hq).2]; exact ht_0 30 (by decide)
  have c1 : ∀ en, callR T "trimmed" [] ([.d (.tup (frs (List.replicate n 0)))], en) = .ok (.tup [], en) := fun en => by
    have c := o.tr.2 (.inl rfl) hr (by decide) (by decide) (by rw [List.length_replicate]; omega)
    have e : trim (List.replicate n (0 : Rat)) = [] := trim_zeros [] n
    rw [e] at c
    exact cr_ok rfl rfl rfl c rfl
  have ok : (D.tup []).okShow = true := tup_ok (ps := []) (k := 1) (fun _ hq => nomatch hq) (by decide) (by decide)
  have c4 := fun en => al_cr (en := en) o.al ok
  have t1 : ∀ l : List D, prim .tuple [.lst l] = .ok (.tup l) := fun _ => rfl
  unfold lwL
  simp only [b_ok, b_bad, b_ex, o_ok, o_bad, o_ex, s_nx, s_rt, s_bk, s_ct, s_bad, t_nx, t_ct, t_bk, t_rt, t_bad, e_c, e_v, e_g, e_pr, e_and, e_or, e_ite, and_bl, or_bl, ite_bl, a_nil, a_c, a_g, a_v, a_pr, a_and, a_or, a_ite, a_ch, a_call, a_lc, cons_ok, a_bw, a_io, v_0, v_s, w_0, w_v, w_n, w_s, rd_nil, rd_d, rd_b, r_nil, r_d, r_b, r_o, om_some, ix_0, ix_1, ix_2, l_nil, l_cons, x_asg, x_ret, x_ite, iteO_bl, x_stop, p_add_i, p_sub_i, p_neg_i, p_mul_i, p_fdiv_i, p_mod_i, p_ix_t, p_ix_l, p_lt_i, p_le_i, p_gt_i, p_ge_i, p_abs_i, p_not_b, p_len_t, p_len_l, p_tup0, p_tup1, p_tup2, p_tup3, p_lst0, p_lst1, p_lst2, p_eq_i, p_ne_i, prR, asgR, st_n, st_t, sm_nil, sm_cons, List.set_cons_zero, List.set_cons_succ, fls_iff, tru_iff, n_isSome, s_isSome, if_true, if_false, Bool.false_eq_true, Bool.true_eq_false, x_setI, setR_eq, x_app, x_for, x_par, parR, el_nil, el_cons, elc_ok, x_whl, x_retF, x_pop, e_lc, e_call _ _ _ o.al.1, e_call _ _ _ o.tr.1, c1, c4, t1, Bool.not_true]
end
end Vm
end
section
set_option Elab.async false
set_option linter.all false
set_option maxRecDepth 100000
namespace Vm
open PySem PySem.Spec L2
def LwP (s0 : Slot) (m : Nat) (en : En) : Prop := ∃ (l : List D) (s1 s2 s3 s4 s5 s6 s7 s9 s10 s11 : Slot), Sup m l ∧ NoW s1 ∧ NoW s2 ∧ NoW s3 ∧ NoW s4 ∧ NoW s5 ∧ NoW s6 ∧ NoW s7 ∧ NoW s9 ∧ NoW s10 ∧ NoW s11 ∧ en = [s0, s1, s2, s3, s4, s5, s6, s7, .own l, s9, s10, s11]
section
variable {T : Tab}
theorem lw_turn {s0 : Slot} {m : Nat} {en : En} (o : La T) (n0 : NoW s0) (hm : m + 200000 < 2 ^ 60) (p : LwP s0 m en) : ∃ en', runL (exS T big none false 39) lwBody en = .nx en' ∧ LwP s0 (m + 70) en' := by
  obtain ⟨l, s1, s2, s3, s4, s5, s6, s7, s9, s10, s11, sup, n1, n2, n3, n4, n5, n6, n7, n9, n10, n11, rfl⟩ := p
  obtain ⟨z, l1, z1, z2, sup1, r1⟩ := lw_a (s1 := s1) (s2 := s2) (s3 := s3) (s4 := s4) (s5 := s5) (s6 := s6) (s9 := s9) (s10 := s10) (s11 := s11) o sup (by omega) n0 n7
  obtain ⟨ps, l2, hp, nzp, lp, sup2, r2⟩ := lw_b (s0 := s0) (s1 := s1) (s2 := s2) (s3 := s3) (s4 := s4) (s6 := s6) (s9 := s9) (s10 := s10) (s11 := s11) o sup1 (by omega) z1 z2 n5
  obtain ⟨qs, l3, hq, nzq, lq, sup3, r3⟩ := lw_c (s0 := s0) (s3 := s3) (s4 := s4) (s9 := s9) (s10 := s10) (s11 := s11) o sup2 (by omega) z1 z2 hp nzp lp n1 n2 n6
  have r4 := lw_d (T := T) (l := l3) (s0 := s0) (s1 := s1) (s2 := s2) (s4 := s4) (s7 := .val (.int z)) (s9 := s9) (s10 := s10) (s11 := s11) hp hq lp lq n3
  have r5 := lw_e (l := l3) (s0 := s0) (s1 := s1) (s2 := s2) (s3 := .val (.str (D.tup [.tup (frs ps), .tup (frs qs)]).py.shown)) (s4 := s4) (s7 := .val (.int z)) (s9 := s9) (s10 := s10) (s11 := s11) o hp hq lp lq
  have r6 := lw_f (l := l3) (s0 := s0) (s1 := s1) (s2 := s2) (s3 := .val (.str (D.tup [.tup (frs ps), .tup (frs qs)]).py.shown)) (s4 := s4) (s7 := .val (.int z)) (s9 := s9) (s10 := s10) (s11 := s11) o hp hq lp lq
  obtain ⟨l7, sup7, r7⟩ := lw_g (s0 := s0) (s1 := s1) (s2 := s2) (s4 := s4) (s7 := .val (.int z)) (s9 := s9) (s10 := s10) (s11 := s11) o sup3 (by omega) hp hq nzp nzq lp lq
  obtain ⟨n, l8, hn, sup8, r8⟩ := lw_h (s0 := s0) (s1 := s1) (s2 := s2) (s3 := .val (.str (D.tup [.tup (frs ps), .tup (frs qs)]).py.shown)) (s4 := s4) (s5 := .val (.tup (frs ps))) (s6 := .val (.tup (frs qs))) (s7 := .val (.int z)) (s9 := s9) (s10 := s10) (s11 := s11) o sup7 (by omega) n11
  obtain ⟨t3, t4, t9, m3, m4, m9, r9⟩ := lw_k (l := l8) (s0 := s0) (s1 := s1) (s2 := s2) (s6 := .val (.tup (frs qs))) (s7 := .val (.int z)) (s10 := s10) o hp nzp lp hn (now_val (.str (D.tup [.tup (frs ps), .tup (frs qs)]).py.shown)) n4 n9
  have r10 := lw_l (l := l8) (s0 := s0) (s1 := s1) (s2 := s2) (s3 := t3) (s4 := t4) (s5 := .val (.tup (frs ps))) (s6 := .val (.tup (frs qs))) (s7 := .val (.int z)) (s9 := t9) (s10 := s10) o hn
  refine ⟨[s0, s1, s2, t3, t4, .val (.tup (frs ps)), .val (.tup (frs qs)), .val (.int z), .own l8, t9, s10, .val (.lst (frs (List.replicate n 0)))], ?_, _, _, _, _, _, _, _, _, _, _, _, sup8.mono (by omega), n1, n2, m3, m4, now_val _, now_val _, now_val _, m9, n10, now_val _, rfl⟩
  unfold lwBody
  rw [l_cons, r1, s_nx, l_cons, r2, s_nx, l_cons, r3, s_nx, l_cons, r4, s_nx, l_cons, r5, s_nx, l_cons, r6, s_nx, l_cons, r7, s_nx, l_cons, r8, s_nx, l_cons, r9, s_nx, l_cons, r10, s_nx, l_nil]
theorem lw_run {ns : List Int} (o : La T) (hl : ns.length ≤ 63) : runFd T big lwDef [.val (.scr ns)] = .ok (.bl true, none) := by
  obtain ⟨l, c, sup⟩ := o.su.2 hl
  have c1 : ∀ en, callR T "_law_supply" [] ([.d (.scr ns)], en) = .ok (.lst l, en) := fun en => cr_ok rfl rfl rfl c rfl
  have first : exS T big none false 40 (.asgO 8 (.call "_law_supply" [.v 0] [])) [.val (.scr ns), .no, .no, .no, .no, .no, .no, .no, .no, .no, .no, .no] = .nx [.val (.scr ns), .no, .no, .no, .no, .no, .no, .no, .own l, .no, .no, .no] := by
    rw [x_asgO _ _ (by intro h; cases h)]
    simp only [b_ok, b_bad, b_ex, o_ok, o_bad, o_ex, s_nx, s_rt, s_bk, s_ct, s_bad, t_nx, t_ct, t_bk, t_rt, t_bad, e_c, e_v, e_g, e_pr, e_and, e_or, e_ite, and_bl, or_bl, ite_bl, a_nil, a_c, a_g, a_v, a_pr, a_and, a_or, a_ite, a_ch, a_call, a_lc, cons_ok, a_bw, a_io, v_0, v_s, w_0, w_v, w_n, w_s, rd_nil, rd_d, rd_b, r_nil, r_d, r_b, r_o, om_some, ix_0, ix_1, ix_2, l_nil, l_cons, x_asg, x_ret, x_ite, iteO_bl, x_stop, p_add_i, p_sub_i, p_neg_i, p_mul_i, p_fdiv_i, p_mod_i, p_ix_t, p_ix_l, p_lt_i, p_le_i, p_gt_i, p_ge_i, p_abs_i, p_not_b, p_len_t, p_len_l, p_tup0, p_tup1, p_tup2, p_tup3, p_lst0, p_lst1, p_lst2, p_eq_i, p_ne_i, prR, asgR, st_n, st_t, sm_nil, sm_cons, List.set_cons_zero, List.set_cons_succ, fls_iff, tru_iff, n_isSome, s_isSome, if_true, if_false, Bool.false_eq_true, Bool.true_eq_false, x_setI, setR_eq, x_app, x_for, x_par, parR, el_nil, el_cons, elc_ok, x_whl, x_retF, x_pop, e_lc, e_call _ _ _ o.su.1, c1]
  obtain ⟨en', e, p⟩ := loop_ix (tg := .n 10) (b := runL (exS T big none false 39) lwBody) (P := fun i en => LwP (.val (.scr ns)) (i * 70) en) (rngD 0 8) 0 [.val (.scr ns), .no, .no, .no, .no, .no, .no, .no, .own l, .no, .no, .no] (fun i d en hd p => by
    have hi := (rngD_at hd).1
    obtain ⟨l, s1, s2, s3, s4, s5, s6, s7, s9, s10, s11, sup, n1, n2, n3, n4, n5, n6, n7, n9, n10, n11, rfl⟩ := p
    have p2 : LwP (.val (.scr ns)) ((0 + i) * 70) [.val (.scr ns), s1, s2, s3, s4, s5, s6, s7, .own l, s9, .val d, s11] := ⟨l, s1, s2, s3, s4, s5, s6, s7, s9, _, s11, sup, n1, n2, n3, n4, n5, n6, n7, n9, now_val d, n11, rfl⟩
    obtain ⟨en2, e2, p3⟩ := lw_turn o (now_val _) (by omega) p2
    refine ⟨_, en2, ?_, e2, ?_⟩
    · rw [st_n]
      simp only [w_s, n10 _, n_isSome, fls_iff, List.set_cons_succ, List.set_cons_zero, Bool.false_eq_true, if_false]
    · have q : (0 + i + 1) * 70 = (0 + i) * 70 + 70 := by omega
      show LwP _ ((0 + i + 1) * 70) en2
      rw [q]
      exact p3) (by
    show LwP _ (0 * 70) _
    exact ⟨l, .no, .no, .no, .no, .no, .no, .no, .no, .no, .no, sup, now_no, now_no, now_no, now_no, now_no, now_no, now_no, now_no, now_no, now_no, rfl⟩)
  show endOf none false (runL (exS T big none false 40) lwCode [.val (.scr ns), .no, .no, .no, .no, .no, .no, .no, .no, .no, .no, .no]) = _
  unfold lwCode
  rw [l_cons, first, s_nx, l_cons, x_for1 (d := .int ((8 : Nat) : Int)) rfl (rng1_nat (n := 8) (by decide)), e, s_nx, l_cons]
  rfl
end
end Vm
end
section
set_option Elab.async false
set_option linter.all false
set_option maxRecDepth 100000
namespace Vm
open PySem PySem.Spec L2
/-! ### promises in a longer table -/
noncomputable def adds (T : Tab) : List Fd → Tab
  | [] => T
  | d :: ds => adds (T.add big d) ds
def notIn (x : Str) (ds : List Fd) : Bool := ds.all fun d => !decide (x = d.x)
def Same1 (T T' : Tab) (x : Str) : Prop := T'.has x = T.has x ∧ T'.call x = T.call x
theorem same_adds {x : Str} : ∀ (ds : List Fd) (T : Tab), notIn x ds = true → Same1 T (adds T ds) x
  | [], _, _ => ⟨rfl, rfl⟩
  | d :: ds, T, e => by
    have e : (!decide (x = d.x) && notIn x ds) = true := e
    have e1 : (!decide (x = d.x)) = true := by
      cases h : (!decide (x = d.x)) with
      | true => rfl
      | false => rw [h] at e; cases e
    have e2 : notIn x ds = true := by rw [e1] at e; exact e
    have ne : x ≠ d.x := fun z => by rw [decide_eq_true z] at e1; cases e1
    have h := same_adds ds (T.add big d) e2
    exact ⟨h.1.trans (if_neg ne), h.2.trans (funext fun ss => if_neg ne)⟩
theorem glob_adds : ∀ (ds : List Fd) (T : Tab), (adds T ds).glob = T.glob
  | [], _ => rfl
  | d :: ds, T => glob_adds ds (T.add big d)
section
variable {T T' : Tab} {x : Str}
theorem Bl.up (h : Bl T x) (e : Same1 T T' x) : Bl T' x := by unfold Bl; rw [e.1, e.2]; exact h
theorem Be.up (h : Be T x) (e : Same1 T T' x) : Be T' x := by unfold Be; rw [e.1, e.2]; exact h
theorem On.up (h : On T x) (e : Same1 T T' x) : On T' x := by unfold On; rw [e.1, e.2]; exact h
theorem Fr.up (h : Fr T x) (e : Same1 T T' x) : Fr T' x := by unfold Fr; rw [e.1, e.2]; exact h
theorem Po.up (h : Po T x) (e : Same1 T T' x) : Po T' x := by unfold Po; rw [e.1, e.2]; exact h
theorem Mk.up (h : Mk T x) (e : Same1 T T' x) : Mk T' x := by unfold Mk; rw [e.1, e.2]; exact h
theorem Ad.up (h : Ad T x) (e : Same1 T T' x) : Ad T' x := by unfold Ad; rw [e.1, e.2]; exact h
theorem Mu.up (h : Mu T x) (e : Same1 T T' x) : Mu T' x := by unfold Mu; rw [e.1, e.2]; exact h
theorem Dv.up (h : Dv T x) (e : Same1 T T' x) : Dv T' x := by unfold Dv; rw [e.1, e.2]; exact h
theorem Tr.up (h : Tr T x) (e : Same1 T T' x) : Tr T' x := by unfold Tr; rw [e.1, e.2]; exact h
theorem Sc.up (h : Sc T x) (e : Same1 T T' x) : Sc T' x := by unfold Sc; rw [e.1, e.2]; exact h
theorem Al.up (h : Al T) (e : Same1 T T' "_law_alike") : Al T' := by unfold Al; rw [e.1, e.2]; exact h
/-- any promise about one name -/
theorem up1 {C : (List Slot → R (D × Option (List D))) → Prop} (h : T.has x = true ∧ C (T.call x)) (e : Same1 T T' x) : T'.has x = true ∧ C (T'.call x) := by rw [e.1, e.2]; exact h
end
section
variable {T : Tab} {d : Fd}
theorem call_at (d : Fd) (ss : List Slot) : (T.add big d).call d.x ss = runFd T big d ss := if_pos rfl
theorem has_at (d : Fd) : (T.add big d).has d.x = true := if_pos rfl
end
end Vm
end
section
set_option Elab.async false
set_option linter.all false
set_option maxRecDepth 100000
set_option maxHeartbeats 0
namespace K05
open PySem PySem.Spec L2 PyProof.Rows Vm
abbrev R : PySem.W.OpenRow := PySem.W.OpenLaw.row PySem.Challenge.rw_tolimit_k05_sums_and_products_of_polynom
def top (i : Nat) : Stmt := PySem.Challenge.pw_tolimit_k05_sums_and_products_of_polynom.main.body.getD i (.Pass ⟨0, 0, 0, 0⟩)
def c_law_supply : List S := [
  .asgO 3 (.lc (.pr .abs [.v 2]) (.n 2) .seq [.pr .slA [.v 0, .c (.int 18)]] none [2]),
  .for_ (.t [1, 2]) .enum [.pr .slC [.v 0, .c (.int 18), .c (.int 63)]] [.setI 3 (.pr .mod [.v 1, .c (.int 18)]) (.pr .add [.pr .ix [.bw 3, .pr .mod [.v 1, .c (.int 18)]], .pr .abs [.v 2]])],
  .frz 3,
  .retF (.pr .lst [.v 3, .c (.int 0), .c (.int 0)])]
def d_law_supply : Fd := ⟨"_law_supply", 1, 4, none, true, 40, c_law_supply, []⟩
def c_law_blended : List S := [
  .asg (.n 3) (.c (.int 1000000000000000009)),
  .asg (.n 2) (.pr .mod [.pr .add [.pr .add [.pr .mul [.v 0, .c (.int 2862933555777941757)], .pr .mul [.c (.int 3037000493), .v 1]], .c (.int 17)], .v 3]),
  .for_ (.n 4) .rng1 [.c (.int 4)] [.asg (.n 2) (.pr .mod [.pr .add [.pr .add [.pr .add [.pr .mul [.v 2, .v 2], .pr .mul [.c (.int 4), .v 2]], .pr .mul [.c (.int 131), .v 4]], .v 1], .v 3])],
  .ret (.pr .add [.pr .mul [.v 2, .v 3], .pr .mod [.pr .add [.pr .mul [.v 2, .c (.int 69069)], .v 1], .v 3]])]
def d_law_blended : Fd := ⟨"_law_blended", 2, 5, none, false, 40, c_law_blended, []⟩
def c_law_below : List S := [
  .ite (.pr .lt [.pr .ix [.bw 0, .c (.int 2)], .v 1]) [.par [5, 3] [.pr .ix [.bw 0, .c (.int 0)], .pr .ix [.bw 0, .c (.int 1)]], .asg (.n 4) (.ite (.pr .ne [.v 5, .pr .lst []]) (.pr .ix [.v 5, .pr .mod [.v 3, .pr .len [.v 5]]]) (.c (.int 0))), .ite (.or_ (.pr .lt [.v 4, .pr .pow [.c (.int 10), .c (.int 18)]]) (.pr .ge [.v 3, .pr .len [.v 5]])) [.asg (.n 4) (.call "_law_blended" [.pr .add [.pr .mod [.v 4, .pr .pow [.c (.int 10), .c (.int 15)]], .pr .fdiv [.v 3, .pr .add [.pr .len [.v 5], .c (.int 1)]]], .v 3] [])] [], .setI 0 (.c (.int 1)) (.pr .add [.v 3, .c (.int 1)]), .setI 0 (.c (.int 2)) (.v 4)] [],
  .asg (.n 2) (.pr .mod [.pr .ix [.bw 0, .c (.int 2)], .v 1]),
  .setI 0 (.c (.int 2)) (.pr .fdiv [.pr .ix [.bw 0, .c (.int 2)], .v 1]),
  .ret (.v 2)]
def d_law_below : Fd := ⟨"_law_below", 2, 6, some 0, false, 40, c_law_below, []⟩
def c_law_one_of : List S := [
  .ret (.pr .ix [.v 1, .call "_law_below" [.io 0, .pr .len [.v 1]] []])]
def d_law_one_of : Fd := ⟨"_law_one_of", 2, 2, some 0, false, 40, c_law_one_of, []⟩
def c_law_cut : List S := [
  .asgO 1 (.pr .list [.v 0]),
  .whl (.and_ (.pr .ne [.bw 1, .pr .lst []]) (.pr .eq [.pr .ix [.bw 1, .pr .neg [.c (.int 1)]], .pr .tup [.c (.int 0), .c (.int 1)]])) [.pop 1],
  .ret (.pr .tuple [.bw 1])]
def d_law_cut : Fd := ⟨"_law_cut", 1, 2, none, false, 40, c_law_cut, []⟩
def c_law_lowest : List S := [
  .par [2, 3] [.pr .abs [.v 0], .pr .abs [.v 1]],
  .whl (.pr .ne [.v 3, .c (.int 0)]) [.par [2, 3] [.v 3, .pr .mod [.v 2, .v 3]]],
  .asg (.n 4) (.ite (.pr .gt [.v 1, .c (.int 0)]) (.c (.int 1)) (.pr .sub [.c (.int 0), .c (.int 1)])),
  .ret (.pr .tup [.pr .fdiv [.pr .mul [.v 4, .v 0], .v 2], .pr .fdiv [.pr .abs [.v 1], .v 2]])]
def d_law_lowest : Fd := ⟨"_law_lowest", 2, 5, none, false, 40, c_law_lowest, []⟩
def c_law_fraction : List S := [
  .asg (.n 2) (.pr .add [.pr .sub [.call "_law_below" [.io 0, .pr .sub [.pr .mul [.c (.int 2), .v 1], .c (.int 1)]] [], .v 1], .c (.int 1)]),
  .ret (.call "_law_lowest" [.v 2, .pr .add [.c (.int 1), .call "_law_below" [.io 0, .call "_law_one_of" [.io 0, .pr .lst [.c (.int 1), .c (.int 1), .c (.int 4), .pr .sub [.v 1, .c (.int 1)]]] []] []]] [])]
def d_law_fraction : Fd := ⟨"_law_fraction", 2, 3, some 0, false, 40, c_law_fraction, []⟩
def c_law_polynomial : List S := [
  .asgO 3 (.pr .lst []),
  .for_ (.n 4) .rng1 [.call "_law_below" [.io 0, .pr .add [.v 1, .c (.int 2)]] []] [.app 3 (.call "_law_fraction" [.io 0, .call "_law_one_of" [.io 0, .pr .lst [.c (.int 2), .v 2]] []] [])],
  .ret (.call "_law_cut" [.bw 3] [])]
def d_law_polynomial : Fd := ⟨"_law_polynomial", 3, 5, some 0, false, 40, c_law_polynomial, []⟩
def c_law_alike : List S := [
  .ret (.pr .eq [.pr .repr [.v 0], .pr .repr [.v 1]])]
def d_law_alike : Fd := ⟨"_law_alike", 2, 2, none, false, 40, c_law_alike, []⟩
def c_trimmed : List S := [
  .asgO 1 (.pr .list [.v 0]),
  .whl (.and_ (.pr .ne [.bw 1, .pr .lst []]) (.pr .eq [.pr .ix [.bw 1, .pr .neg [.c (.int 1)]], .g "ZERO"])) [.pop 1],
  .ret (.pr .tuple [.bw 1])]
def d_trimmed : Fd := ⟨"trimmed", 1, 2, none, false, 40, c_trimmed, []⟩
def c_common_divisor : List S := [
  .whl (.pr .ne [.v 1, .c (.int 0)]) [.par [0, 1] [.v 1, .pr .mod [.v 0, .v 1]]],
  .ret (.pr .abs [.v 0])]
def d_common_divisor : Fd := ⟨"common_divisor", 2, 2, none, false, 40, c_common_divisor, []⟩
def c_fraction : List S := [
  .ite (.pr .eq [.v 1, .c (.int 0)]) [.stop] [],
  .asg (.n 2) (.call "common_divisor" [.v 0, .v 1] []),
  .asg (.n 3) (.ite (.pr .lt [.v 1, .c (.int 0)]) (.pr .neg [.c (.int 1)]) (.c (.int 1))),
  .ret (.pr .tup [.pr .fdiv [.pr .mul [.v 3, .v 0], .v 2], .pr .fdiv [.pr .mul [.v 3, .v 1], .v 2]])]
def d_fraction : Fd := ⟨"fraction", 2, 4, none, false, 40, c_fraction, [.int 1]⟩
def c_add : List S := [
  .ret (.call "fraction" [.pr .add [.pr .mul [.pr .ix [.v 0, .c (.int 0)], .pr .ix [.v 1, .c (.int 1)]], .pr .mul [.pr .ix [.v 1, .c (.int 0)], .pr .ix [.v 0, .c (.int 1)]]], .pr .mul [.pr .ix [.v 0, .c (.int 1)], .pr .ix [.v 1, .c (.int 1)]]] [])]
def d_add : Fd := ⟨"add", 2, 2, none, false, 40, c_add, []⟩
def c_sum_of : List S := [
  .asg (.n 5) (.pr .max2 [.pr .len [.v 0], .pr .len [.v 1]]),
  .asg (.n 4) (.lc (.pr .add [.pr .tuple [.v 2], .pr .mul [.pr .tup [.g "ZERO"], .pr .sub [.v 5, .pr .len [.v 2]]]]) (.n 2) .seq [.pr .tup [.v 0, .v 1]] none [2]),
  .ret (.call "trimmed" [.lc (.call "add" [.v 2, .v 3] []) (.t [2, 3]) .zip [.pr .ix [.v 4, .c (.int 0)], .pr .ix [.v 4, .c (.int 1)]] none [2, 3]] [])]
def d_sum_of : Fd := ⟨"sum_of", 2, 6, none, false, 40, c_sum_of, []⟩
def c_law_sum : List S := [
  .ret (.call "_law_lowest" [.pr .add [.pr .mul [.pr .ix [.v 0, .c (.int 0)], .pr .ix [.v 1, .c (.int 1)]], .pr .mul [.pr .ix [.v 1, .c (.int 0)], .pr .ix [.v 0, .c (.int 1)]]], .pr .mul [.pr .ix [.v 0, .c (.int 1)], .pr .ix [.v 1, .c (.int 1)]]] [])]
def d_law_sum : Fd := ⟨"_law_sum", 2, 2, none, false, 40, c_law_sum, []⟩
def c_law_added : List S := [
  .asg (.n 5) (.pr .max2 [.pr .len [.v 0], .pr .len [.v 1]]),
  .asg (.n 4) (.lc (.pr .add [.pr .list [.v 2], .pr .mul [.pr .lst [.pr .tup [.c (.int 0), .c (.int 1)]], .pr .sub [.v 5, .pr .len [.v 2]]]]) (.n 2) .seq [.pr .tup [.v 0, .v 1]] none [2]),
  .ret (.call "_law_cut" [.lc (.call "_law_sum" [.v 2, .v 3] []) (.t [2, 3]) .zip [.pr .ix [.v 4, .c (.int 0)], .pr .ix [.v 4, .c (.int 1)]] none [2, 3]] [])]
def d_law_added : Fd := ⟨"_law_added", 2, 6, none, false, 40, c_law_added, []⟩
def c_multiply : List S := [
  .ret (.call "fraction" [.pr .mul [.pr .ix [.v 0, .c (.int 0)], .pr .ix [.v 1, .c (.int 0)]], .pr .mul [.pr .ix [.v 0, .c (.int 1)], .pr .ix [.v 1, .c (.int 1)]]] [])]
def d_multiply : Fd := ⟨"multiply", 2, 2, none, false, 40, c_multiply, []⟩
def c_product_of : List S := [
  .asgO 2 (.pr .mul [.pr .lst [.g "ZERO"], .pr .max2 [.c (.int 0), .pr .sub [.pr .add [.pr .len [.v 0], .pr .len [.v 1]], .c (.int 1)]]]),
  .for_ (.t [6, 3]) .enum [.v 0] [.for_ (.t [5, 4]) .enum [.v 1] [.setI 2 (.pr .add [.v 6, .v 5]) (.call "add" [.pr .ix [.bw 2, .pr .add [.v 6, .v 5]], .call "multiply" [.v 3, .v 4] []] [])]],
  .ret (.call "trimmed" [.bw 2] [])]
def d_product_of : Fd := ⟨"product_of", 2, 7, none, false, 40, c_product_of, []⟩
def c_law_times : List S := [
  .ret (.call "_law_lowest" [.pr .mul [.pr .ix [.v 0, .c (.int 0)], .pr .ix [.v 1, .c (.int 0)]], .pr .mul [.pr .ix [.v 0, .c (.int 1)], .pr .ix [.v 1, .c (.int 1)]]] [])]
def d_law_times : Fd := ⟨"_law_times", 2, 2, none, false, 40, c_law_times, []⟩
def c_law_product : List S := [
  .asgO 3 (.pr .lst []),
  .for_ (.n 5) .rng1 [.ite (.and_ (.pr .ne [.v 0, .pr .tup []]) (.pr .ne [.v 1, .pr .tup []])) (.pr .sub [.pr .add [.pr .len [.v 0], .pr .len [.v 1]], .c (.int 1)]) (.c (.int 0))] [.asg (.n 2) (.pr .tup [.c (.int 0), .c (.int 1)]), .for_ (.n 4) .rng1 [.pr .add [.v 5, .c (.int 1)]] [.ite (.and_ (.pr .lt [.v 4, .pr .len [.v 0]]) (.pr .lt [.pr .sub [.v 5, .v 4], .pr .len [.v 1]])) [.asg (.n 2) (.call "_law_sum" [.v 2, .call "_law_times" [.pr .ix [.v 0, .v 4], .pr .ix [.v 1, .pr .sub [.v 5, .v 4]]] []] [])] []], .app 3 (.v 2)],
  .ret (.call "_law_cut" [.bw 3] [])]
def d_law_product : Fd := ⟨"_law_product", 2, 6, none, false, 40, c_law_product, []⟩
def c_derivative : List S := [
  .ret (.call "trimmed" [.pr .slB [.lc (.call "multiply" [.call "fraction" [.v 2] [.int 1], .v 1] []) (.t [2, 1]) .enum [.v 0] none [2, 1], .c (.int 1)]] [])]
def d_derivative : Fd := ⟨"derivative", 1, 3, none, false, 40, c_derivative, []⟩
def c_value_at : List S := [
  .asg (.n 3) (.g "ZERO"),
  .for_ (.n 2) .seq [.pr .rev [.v 0]] [.asg (.n 3) (.call "add" [.call "multiply" [.v 3, .v 1] [], .v 2] [])],
  .ret (.v 3)]
def d_value_at : Fd := ⟨"value_at", 2, 4, none, false, 40, c_value_at, []⟩
def c_law_value : List S := [
  .asg (.t [3, 4]) (.pr .tup [.pr .tup [.c (.int 0), .c (.int 1)], .pr .tup [.c (.int 1), .c (.int 1)]]),
  .for_ (.n 2) .seq [.v 0] [.asg (.n 3) (.call "_law_sum" [.v 3, .call "_law_times" [.v 2, .v 4] []] []), .asg (.n 4) (.call "_law_times" [.v 4, .v 1] [])],
  .ret (.v 3)]
def d_law_value : Fd := ⟨"_law_value", 2, 5, none, false, 40, c_law_value, []⟩
def c_degree : List S := [
  .ret (.pr .sub [.pr .len [.v 0], .c (.int 1)])]
def d_degree : Fd := ⟨"degree", 1, 1, none, false, 40, c_degree, []⟩
def c_scaled : List S := [
  .ret (.call "trimmed" [.lc (.call "multiply" [.v 2, .v 1] []) (.n 2) .seq [.v 0] none [2]] [])]
def d_scaled : Fd := ⟨"scaled", 2, 3, none, false, 40, c_scaled, []⟩
def c_divide : List S := [
  .ret (.call "fraction" [.pr .mul [.pr .ix [.v 0, .c (.int 0)], .pr .ix [.v 1, .c (.int 1)]], .pr .mul [.pr .ix [.v 0, .c (.int 1)], .pr .ix [.v 1, .c (.int 0)]]] [])]
def d_divide : Fd := ⟨"divide", 2, 2, none, false, 40, c_divide, []⟩
def c_monic : List S := [
  .ret (.ite (.pr .eq [.v 0, .pr .tup []]) (.v 0) (.call "scaled" [.v 0, .call "divide" [.g "ONE", .pr .ix [.v 0, .pr .neg [.c (.int 1)]]] []] []))]
def d_monic : Fd := ⟨"monic", 1, 1, none, false, 40, c_monic, []⟩
def c_law_one_right : List S := [
  .asg (.n 4) (.pr .tup []),
  .ite (.pr .ne [.v 1, .pr .tup []]) [.asg (.t [8, 2]) (.pr .ix [.v 1, .pr .neg [.c (.int 1)]]), .asg (.n 4) (.pr .tuple [.lc (.call "_law_times" [.v 3, .call "_law_lowest" [.v 2, .v 8] []] []) (.n 3) .seq [.v 1] none [3]])] [],
  .ite (.pr .not [.call "_law_alike" [.pr .lst [.call "degree" [.v 1] [], .call "monic" [.v 1] []], .pr .lst [.pr .sub [.pr .len [.v 1], .c (.int 1)], .v 4]] []]) [.ret (.c (.bl false))] [],
  .asg (.n 7) (.call "_law_cut" [.pr .slB [.lc (.call "_law_times" [.pr .tup [.v 5, .c (.int 1)], .v 3] []) (.t [5, 3]) .enum [.v 1] none [5, 3], .c (.int 1)]] []),
  .asg (.n 6) (.call "_law_fraction" [.io 0, .call "_law_one_of" [.io 0, .pr .lst [.c (.int 2), .c (.int 9), .pr .pow [.c (.int 10), .c (.int 6)]]] []] []),
  .ret (.call "_law_alike" [.pr .lst [.call "derivative" [.v 1] [], .call "value_at" [.v 1, .v 6] []], .pr .lst [.v 7, .call "_law_value" [.v 1, .v 6] []]] [])]
def d_law_one_right : Fd := ⟨"_law_one_right", 2, 9, some 0, false, 40, c_law_one_right, []⟩
def c_law : List S := [
  .asgO 8 (.call "_law_supply" [.v 0] []),
  .for_ (.n 10) .rng1 [.c (.int 8)] [.asg (.n 7) (.call "_law_one_of" [.io 8, .pr .lst [.c (.int 2), .c (.int 4), .c (.int 100), .pr .pow [.c (.int 10), .c (.int 9)]]] []), .asg (.n 5) (.call "_law_polynomial" [.io 8, .c (.int 6), .v 7] []), .asg (.n 6) (.call "_law_one_of" [.io 8, .pr .lst [.call "_law_polynomial" [.io 8, .c (.int 6), .v 7] [], .pr .tuple [.lc (.pr .tup [.pr .sub [.c (.int 0), .v 1], .v 2]) (.t [1, 2]) .seq [.v 5] none [1, 2]]]] []), .asg (.n 3) (.pr .repr [.pr .tup [.v 5, .v 6]]), .ite (.pr .not [.call "_law_alike" [.call "sum_of" [.v 5, .v 6] [], .call "_law_added" [.v 5, .v 6] []] []]) [.ret (.c (.bl false))] [], .ite (.pr .not [.call "_law_alike" [.call "product_of" [.v 5, .v 6] [], .call "_law_product" [.v 5, .v 6] []] []]) [.ret (.c (.bl false))] [], .ite (.or_ (.pr .not [.call "_law_one_right" [.io 8, .v 5] []]) (.or_ (.pr .not [.call "_law_one_right" [.io 8, .v 6] []]) (.pr .ne [.pr .repr [.pr .tup [.v 5, .v 6]], .v 3]))) [.ret (.c (.bl false))] [], .asg (.n 11) (.pr .mul [.pr .lst [.pr .tup [.c (.int 0), .c (.int 1)]], .call "_law_below" [.io 8, .c (.int 4)] []]), .for_ (.n 4) .seq [.pr .lst [.pr .add [.pr .list [.v 5], .v 11], .pr .add [.pr .tuple [.v 5], .pr .tuple [.v 11]]]] [.asg (.n 3) (.pr .repr [.v 4]), .for_ (.n 9) .rng1 [.c (.int 2)] [.ite (.or_ (.pr .not [.call "_law_alike" [.call "trimmed" [.v 4] [], .v 5] []]) (.pr .ne [.pr .repr [.v 4], .v 3])) [.ret (.c (.bl false))] []]], .ite (.pr .not [.call "_law_alike" [.call "trimmed" [.pr .tuple [.v 11]] [], .pr .tup []] []]) [.ret (.c (.bl false))] []],
  .ret (.c (.bl true))]
def d_law : Fd := ⟨"law", 1, 12, none, false, 40, c_law, []⟩
def gs : List (Str × D) := [("ONE", .tup [.int 1, .int 1]), ("ZERO", .tup [.int 0, .int 1])]
def names0 : List Str := ["_law_supply", "_law_blended", "_law_below", "_law_one_of", "_law_cut", "_law_lowest", "_law_fraction", "_law_polynomial", "_law_alike", "trimmed", "common_divisor", "fraction", "add", "sum_of", "_law_sum", "_law_added", "multiply", "product_of", "_law_times", "_law_product", "derivative", "value_at", "_law_value", "degree", "scaled", "divide", "monic", "_law_one_right", "law"]
def names : List Str := names0
def T0 : Tab := Tab.nil (gOf gs)
noncomputable def T1 : Tab := T0.add big d_law_supply
noncomputable def T2 : Tab := T1.add big d_law_blended
noncomputable def T3 : Tab := T2.add big d_law_below
noncomputable def T4 : Tab := T3.add big d_law_one_of
noncomputable def T5 : Tab := T4.add big d_law_cut
noncomputable def T6 : Tab := T5.add big d_law_lowest
noncomputable def T7 : Tab := T6.add big d_law_fraction
noncomputable def T8 : Tab := T7.add big d_law_polynomial
noncomputable def T9 : Tab := T8.add big d_law_alike
noncomputable def T10 : Tab := T9.add big d_trimmed
noncomputable def T11 : Tab := T10.add big d_common_divisor
noncomputable def T12 : Tab := T11.add big d_fraction
noncomputable def T13 : Tab := T12.add big d_add
noncomputable def T14 : Tab := T13.add big d_sum_of
noncomputable def T15 : Tab := T14.add big d_law_sum
noncomputable def T16 : Tab := T15.add big d_law_added
noncomputable def T17 : Tab := T16.add big d_multiply
noncomputable def T18 : Tab := T17.add big d_product_of
noncomputable def T19 : Tab := T18.add big d_law_times
noncomputable def T20 : Tab := T19.add big d_law_product
noncomputable def T21 : Tab := T20.add big d_derivative
noncomputable def T22 : Tab := T21.add big d_value_at
noncomputable def T23 : Tab := T22.add big d_law_value
noncomputable def T24 : Tab := T23.add big d_degree
noncomputable def T25 : Tab := T24.add big d_scaled
noncomputable def T26 : Tab := T25.add big d_divide
noncomputable def T27 : Tab := T26.add big d_monic
noncomputable def T28 : Tab := T27.add big d_law_one_right
def fn0 : List He.DefD := [⟨("_law_supply", none), "_law_supply", "_law_supply", C8.fnArgs (top 22), C8.fnBody (top 22), C8.fnScope (top 22), [], []⟩, ⟨("_law_blended", none), "_law_blended", "_law_blended", C8.fnArgs (top 21), C8.fnBody (top 21), C8.fnScope (top 21), [], []⟩, ⟨("_law_below", none), "_law_below", "_law_below", C8.fnArgs (top 23), C8.fnBody (top 23), C8.fnScope (top 23), [], []⟩, ⟨("_law_one_of", none), "_law_one_of", "_law_one_of", C8.fnArgs (top 24), C8.fnBody (top 24), C8.fnScope (top 24), [], []⟩, ⟨("_law_cut", none), "_law_cut", "_law_cut", C8.fnArgs (top 30), C8.fnBody (top 30), C8.fnScope (top 30), [], []⟩, ⟨("_law_lowest", none), "_law_lowest", "_law_lowest", C8.fnArgs (top 26), C8.fnBody (top 26), C8.fnScope (top 26), [], []⟩, ⟨("_law_fraction", none), "_law_fraction", "_law_fraction", C8.fnArgs (top 27), C8.fnBody (top 27), C8.fnScope (top 27), [], []⟩, ⟨("_law_polynomial", none), "_law_polynomial", "_law_polynomial", C8.fnArgs (top 32), C8.fnBody (top 32), C8.fnScope (top 32), [], []⟩, ⟨("_law_alike", none), "_law_alike", "_law_alike", C8.fnArgs (top 25), C8.fnBody (top 25), C8.fnScope (top 25), [], []⟩, ⟨("trimmed", none), "trimmed", "trimmed", C8.fnArgs (top 12), C8.fnBody (top 12), C8.fnScope (top 12), [], []⟩, ⟨("common_divisor", none), "common_divisor", "common_divisor", C8.fnArgs (top 6), C8.fnBody (top 6), C8.fnScope (top 6), [], []⟩, ⟨("fraction", none), "fraction", "fraction", C8.fnArgs (top 7), C8.fnBody (top 7), C8.fnScope (top 7), [.int 1], []⟩, ⟨("add", none), "add", "add", C8.fnArgs (top 8), C8.fnBody (top 8), C8.fnScope (top 8), [], []⟩, ⟨("sum_of", none), "sum_of", "sum_of", C8.fnArgs (top 14), C8.fnBody (top 14), C8.fnScope (top 14), [], []⟩, ⟨("_law_sum", none), "_law_sum", "_law_sum", C8.fnArgs (top 28), C8.fnBody (top 28), C8.fnScope (top 28), [], []⟩, ⟨("_law_added", none), "_law_added", "_law_added", C8.fnArgs (top 33), C8.fnBody (top 33), C8.fnScope (top 33), [], []⟩, ⟨("multiply", none), "multiply", "multiply", C8.fnArgs (top 9), C8.fnBody (top 9), C8.fnScope (top 9), [], []⟩, ⟨("product_of", none), "product_of", "product_of", C8.fnArgs (top 16), C8.fnBody (top 16), C8.fnScope (top 16), [], []⟩, ⟨("_law_times", none), "_law_times", "_law_times", C8.fnArgs (top 29), C8.fnBody (top 29), C8.fnScope (top 29), [], []⟩, ⟨("_law_product", none), "_law_product", "_law_product", C8.fnArgs (top 31), C8.fnBody (top 31), C8.fnScope (top 31), [], []⟩, ⟨("derivative", none), "derivative", "derivative", C8.fnArgs (top 18), C8.fnBody (top 18), C8.fnScope (top 18), [], []⟩, ⟨("value_at", none), "value_at", "value_at", C8.fnArgs (top 19), C8.fnBody (top 19), C8.fnScope (top 19), [], []⟩, ⟨("_law_value", none), "_law_value", "_law_value", C8.fnArgs (top 34), C8.fnBody (top 34), C8.fnScope (top 34), [], []⟩, ⟨("degree", none), "degree", "degree", C8.fnArgs (top 13), C8.fnBody (top 13), C8.fnScope (top 13), [], []⟩, ⟨("scaled", none), "scaled", "scaled", C8.fnArgs (top 15), C8.fnBody (top 15), C8.fnScope (top 15), [], []⟩, ⟨("divide", none), "divide", "divide", C8.fnArgs (top 10), C8.fnBody (top 10), C8.fnScope (top 10), [], []⟩, ⟨("monic", none), "monic", "monic", C8.fnArgs (top 17), C8.fnBody (top 17), C8.fnScope (top 17), [], []⟩, ⟨("_law_one_right", none), "_law_one_right", "_law_one_right", C8.fnArgs (top 35), C8.fnBody (top 35), C8.fnScope (top 35), [], []⟩, ⟨("law", none), "law", "law", C8.fnArgs (top 36), C8.fnBody (top 36), C8.fnScope (top 36), [], []⟩]
def fn : List He.DefD := fn0
section
variable {P : Program} {w : World} {K : PySem.W.Frag} {mg : Str → Option Value} {base : Heap}
theorem s_law_supply : C8.scC ["_law_script", "_law_index", "_law_number", "_law_numbers"] ["_law_script"] (C8.fnScope (top 22)) = true := by decide +kernel
theorem m_law_supply : matSL (matS T0.fresh T0.dflt ["_law_script", "_law_index", "_law_number", "_law_numbers"] (C8.fnScope (top 22)) 40) c_law_supply (C8.fnBody (top 22)) = true := by decide +kernel
theorem k_law_supply (h : TabOk P w K mg base xi0 1 T0) (c : SaysV (facts names) fn gs K) (tp : Top K mg names (gOf gs)) : TabOk P w K mg base xi0 2 T1 :=
  h.step (d := d_law_supply) (ps := ["_law_script"]) (N := ["_law_script", "_law_index", "_law_number", "_law_numbers"]) tp (by decide) (fun_of c.d 0 rfl) (by decide +kernel) s_law_supply rfl rfl (by decide) m_law_supply (binds_none rfl fun _ _ _ _ _ _ us hl => match us, hl with | [_], _ => rfl)
theorem s_law_blended : C8.scC ["_law_number", "_law_index", "_law_found", "_law_modulus", "_law_turn"] ["_law_number", "_law_index"] (C8.fnScope (top 21)) = true := by decide +kernel
theorem m_law_blended : matSL (matS T1.fresh T1.dflt ["_law_number", "_law_index", "_law_found", "_law_modulus", "_law_turn"] (C8.fnScope (top 21)) 40) c_law_blended (C8.fnBody (top 21)) = true := by decide +kernel
theorem k_law_blended (h : TabOk P w K mg base xi0 2 T1) (c : SaysV (facts names) fn gs K) (tp : Top K mg names (gOf gs)) : TabOk P w K mg base xi0 3 T2 :=
  h.step (d := d_law_blended) (ps := ["_law_number", "_law_index"]) (N := ["_law_number", "_law_index", "_law_found", "_law_modulus", "_law_turn"]) tp (by decide) (fun_of c.d 1 rfl) (by decide +kernel) s_law_blended rfl rfl (by decide) m_law_blended (binds_none rfl fun _ _ _ _ _ _ us hl => match us, hl with | [_, _], _ => rfl)
theorem s_law_below : C8.scC ["_law_supply_here", "_law_size", "_law_found", "_law_index", "_law_number", "_law_numbers"] ["_law_supply_here", "_law_size"] (C8.fnScope (top 23)) = true := by decide +kernel
theorem m_law_below : matSL (matS T2.fresh T2.dflt ["_law_supply_here", "_law_size", "_law_found", "_law_index", "_law_number", "_law_numbers"] (C8.fnScope (top 23)) 40) c_law_below (C8.fnBody (top 23)) = true := by decide +kernel
theorem k_law_below (h : TabOk P w K mg base xi0 3 T2) (c : SaysV (facts names) fn gs K) (tp : Top K mg names (gOf gs)) : TabOk P w K mg base xi0 4 T3 :=
  h.step (d := d_law_below) (ps := ["_law_supply_here", "_law_size"]) (N := ["_law_supply_here", "_law_size", "_law_found", "_law_index", "_law_number", "_law_numbers"]) tp (by decide) (fun_of c.d 2 rfl) (by decide +kernel) s_law_below rfl rfl (by decide) m_law_below (binds_none rfl fun _ _ _ _ _ _ us hl => match us, hl with | [_, _], _ => rfl)
theorem s_law_one_of : C8.scC ["_law_supply_here", "_law_options"] ["_law_supply_here", "_law_options"] (C8.fnScope (top 24)) = true := by decide +kernel
theorem m_law_one_of : matSL (matS T3.fresh T3.dflt ["_law_supply_here", "_law_options"] (C8.fnScope (top 24)) 40) c_law_one_of (C8.fnBody (top 24)) = true := by decide +kernel
theorem k_law_one_of (h : TabOk P w K mg base xi0 4 T3) (c : SaysV (facts names) fn gs K) (tp : Top K mg names (gOf gs)) : TabOk P w K mg base xi0 5 T4 :=
  h.step (d := d_law_one_of) (ps := ["_law_supply_here", "_law_options"]) (N := ["_law_supply_here", "_law_options"]) tp (by decide) (fun_of c.d 3 rfl) (by decide +kernel) s_law_one_of rfl rfl (by decide) m_law_one_of (binds_none rfl fun _ _ _ _ _ _ us hl => match us, hl with | [_, _], _ => rfl)
theorem s_law_cut : C8.scC ["_law_coefficients", "_law_found"] ["_law_coefficients"] (C8.fnScope (top 30)) = true := by decide +kernel
theorem m_law_cut : matSL (matS T4.fresh T4.dflt ["_law_coefficients", "_law_found"] (C8.fnScope (top 30)) 40) c_law_cut (C8.fnBody (top 30)) = true := by decide +kernel
theorem k_law_cut (h : TabOk P w K mg base xi0 5 T4) (c : SaysV (facts names) fn gs K) (tp : Top K mg names (gOf gs)) : TabOk P w K mg base xi0 6 T5 :=
  h.step (d := d_law_cut) (ps := ["_law_coefficients"]) (N := ["_law_coefficients", "_law_found"]) tp (by decide) (fun_of c.d 4 rfl) (by decide +kernel) s_law_cut rfl rfl (by decide) m_law_cut (binds_none rfl fun _ _ _ _ _ _ us hl => match us, hl with | [_], _ => rfl)
theorem s_law_lowest : C8.scC ["_law_top", "_law_bottom", "_law_one", "_law_other", "_law_sign"] ["_law_top", "_law_bottom"] (C8.fnScope (top 26)) = true := by decide +kernel
theorem m_law_lowest : matSL (matS T5.fresh T5.dflt ["_law_top", "_law_bottom", "_law_one", "_law_other", "_law_sign"] (C8.fnScope (top 26)) 40) c_law_lowest (C8.fnBody (top 26)) = true := by decide +kernel
theorem k_law_lowest (h : TabOk P w K mg base xi0 6 T5) (c : SaysV (facts names) fn gs K) (tp : Top K mg names (gOf gs)) : TabOk P w K mg base xi0 7 T6 :=
  h.step (d := d_law_lowest) (ps := ["_law_top", "_law_bottom"]) (N := ["_law_top", "_law_bottom", "_law_one", "_law_other", "_law_sign"]) tp (by decide) (fun_of c.d 5 rfl) (by decide +kernel) s_law_lowest rfl rfl (by decide) m_law_lowest (binds_none rfl fun _ _ _ _ _ _ us hl => match us, hl with | [_, _], _ => rfl)
theorem s_law_fraction : C8.scC ["_law_supply_here", "_law_size", "_law_top"] ["_law_supply_here", "_law_size"] (C8.fnScope (top 27)) = true := by decide +kernel
theorem m_law_fraction : matSL (matS T6.fresh T6.dflt ["_law_supply_here", "_law_size", "_law_top"] (C8.fnScope (top 27)) 40) c_law_fraction (C8.fnBody (top 27)) = true := by decide +kernel
theorem k_law_fraction (h : TabOk P w K mg base xi0 7 T6) (c : SaysV (facts names) fn gs K) (tp : Top K mg names (gOf gs)) : TabOk P w K mg base xi0 8 T7 :=
  h.step (d := d_law_fraction) (ps := ["_law_supply_here", "_law_size"]) (N := ["_law_supply_here", "_law_size", "_law_top"]) tp (by decide) (fun_of c.d 6 rfl) (by decide +kernel) s_law_fraction rfl rfl (by decide) m_law_fraction (binds_none rfl fun _ _ _ _ _ _ us hl => match us, hl with | [_, _], _ => rfl)
theorem s_law_polynomial : C8.scC ["_law_supply_here", "_law_most", "_law_size", "_law_coefficients", "_law_k"] ["_law_supply_here", "_law_most", "_law_size"] (C8.fnScope (top 32)) = true := by decide +kernel
theorem m_law_polynomial : matSL (matS T7.fresh T7.dflt ["_law_supply_here", "_law_most", "_law_size", "_law_coefficients", "_law_k"] (C8.fnScope (top 32)) 40) c_law_polynomial (C8.fnBody (top 32)) = true := by decide +kernel
theorem k_law_polynomial (h : TabOk P w K mg base xi0 8 T7) (c : SaysV (facts names) fn gs K) (tp : Top K mg names (gOf gs)) : TabOk P w K mg base xi0 9 T8 :=
  h.step (d := d_law_polynomial) (ps := ["_law_supply_here", "_law_most", "_law_size"]) (N := ["_law_supply_here", "_law_most", "_law_size", "_law_coefficients", "_law_k"]) tp (by decide) (fun_of c.d 7 rfl) (by decide +kernel) s_law_polynomial rfl rfl (by decide) m_law_polynomial (binds_none rfl fun _ _ _ _ _ _ us hl => match us, hl with | [_, _, _], _ => rfl)
theorem s_law_alike : C8.scC ["_law_found", "_law_expected"] ["_law_found", "_law_expected"] (C8.fnScope (top 25)) = true := by decide +kernel
theorem m_law_alike : matSL (matS T8.fresh T8.dflt ["_law_found", "_law_expected"] (C8.fnScope (top 25)) 40) c_law_alike (C8.fnBody (top 25)) = true := by decide +kernel
theorem k_law_alike (h : TabOk P w K mg base xi0 9 T8) (c : SaysV (facts names) fn gs K) (tp : Top K mg names (gOf gs)) : TabOk P w K mg base xi0 10 T9 :=
  h.step (d := d_law_alike) (ps := ["_law_found", "_law_expected"]) (N := ["_law_found", "_law_expected"]) tp (by decide) (fun_of c.d 8 rfl) (by decide +kernel) s_law_alike rfl rfl (by decide) m_law_alike (binds_none rfl fun _ _ _ _ _ _ us hl => match us, hl with | [_, _], _ => rfl)
theorem s_trimmed : C8.scC ["coefficients", "found"] ["coefficients"] (C8.fnScope (top 12)) = true := by decide +kernel
theorem m_trimmed : matSL (matS T9.fresh T9.dflt ["coefficients", "found"] (C8.fnScope (top 12)) 40) c_trimmed (C8.fnBody (top 12)) = true := by decide +kernel
theorem k_trimmed (h : TabOk P w K mg base xi0 10 T9) (c : SaysV (facts names) fn gs K) (tp : Top K mg names (gOf gs)) : TabOk P w K mg base xi0 11 T10 :=
  h.step (d := d_trimmed) (ps := ["coefficients"]) (N := ["coefficients", "found"]) tp (by decide) (fun_of c.d 9 rfl) (by decide +kernel) s_trimmed rfl rfl (by decide) m_trimmed (binds_none rfl fun _ _ _ _ _ _ us hl => match us, hl with | [_], _ => rfl)
theorem s_common_divisor : C8.scC ["first", "second"] ["first", "second"] (C8.fnScope (top 6)) = true := by decide +kernel
theorem m_common_divisor : matSL (matS T10.fresh T10.dflt ["first", "second"] (C8.fnScope (top 6)) 40) c_common_divisor (C8.fnBody (top 6)) = true := by decide +kernel
theorem k_common_divisor (h : TabOk P w K mg base xi0 11 T10) (c : SaysV (facts names) fn gs K) (tp : Top K mg names (gOf gs)) : TabOk P w K mg base xi0 12 T11 :=
  h.step (d := d_common_divisor) (ps := ["first", "second"]) (N := ["first", "second"]) tp (by decide) (fun_of c.d 10 rfl) (by decide +kernel) s_common_divisor rfl rfl (by decide) m_common_divisor (binds_none rfl fun _ _ _ _ _ _ us hl => match us, hl with | [_, _], _ => rfl)
theorem s_fraction : C8.scC ["numerator", "denominator", "divisor", "sign"] ["numerator", "denominator"] (C8.fnScope (top 7)) = true := by decide +kernel
theorem m_fraction : matSL (matS T11.fresh T11.dflt ["numerator", "denominator", "divisor", "sign"] (C8.fnScope (top 7)) 40) c_fraction (C8.fnBody (top 7)) = true := by decide +kernel
theorem k_fraction (h : TabOk P w K mg base xi0 12 T11) (c : SaysV (facts names) fn gs K) (tp : Top K mg names (gOf gs)) : TabOk P w K mg base xi0 13 T12 :=
  h.step (d := d_fraction) (ps := ["numerator", "denominator"]) (N := ["numerator", "denominator", "divisor", "sign"]) tp (by decide) (fun_of c.d 11 rfl) (by decide +kernel) s_fraction rfl rfl (by decide) m_fraction (binds_one (m := 1) rfl rfl (fun _ _ _ _ _ _ _ us its hl h1 => match us, hl, its, h1 with | [_], _, [_], _ => ⟨_, rfl, rfl⟩) (fun _ _ _ _ _ _ _ us its hl h1 => match us, hl, its, h1 with | [_, _], _, [_], _ => ⟨_, rfl, rfl⟩))
theorem s_add : C8.scC ["first", "second"] ["first", "second"] (C8.fnScope (top 8)) = true := by decide +kernel
theorem m_add : matSL (matS T12.fresh T12.dflt ["first", "second"] (C8.fnScope (top 8)) 40) c_add (C8.fnBody (top 8)) = true := by decide +kernel
theorem k_add (h : TabOk P w K mg base xi0 13 T12) (c : SaysV (facts names) fn gs K) (tp : Top K mg names (gOf gs)) : TabOk P w K mg base xi0 14 T13 :=
  h.step (d := d_add) (ps := ["first", "second"]) (N := ["first", "second"]) tp (by decide) (fun_of c.d 12 rfl) (by decide +kernel) s_add rfl rfl (by decide) m_add (binds_none rfl fun _ _ _ _ _ _ us hl => match us, hl with | [_, _], _ => rfl)
theorem s_sum_of : C8.scC ["first", "second", "one", "other", "padded", "size"] ["first", "second"] (C8.fnScope (top 14)) = true := by decide +kernel
theorem m_sum_of : matSL (matS T13.fresh T13.dflt ["first", "second", "one", "other", "padded", "size"] (C8.fnScope (top 14)) 40) c_sum_of (C8.fnBody (top 14)) = true := by decide +kernel
theorem k_sum_of (h : TabOk P w K mg base xi0 14 T13) (c : SaysV (facts names) fn gs K) (tp : Top K mg names (gOf gs)) : TabOk P w K mg base xi0 15 T14 :=
  h.step (d := d_sum_of) (ps := ["first", "second"]) (N := ["first", "second", "one", "other", "padded", "size"]) tp (by decide) (fun_of c.d 13 rfl) (by decide +kernel) s_sum_of rfl rfl (by decide) m_sum_of (binds_none rfl fun _ _ _ _ _ _ us hl => match us, hl with | [_, _], _ => rfl)
theorem s_law_sum : C8.scC ["_law_one", "_law_other"] ["_law_one", "_law_other"] (C8.fnScope (top 28)) = true := by decide +kernel
theorem m_law_sum : matSL (matS T14.fresh T14.dflt ["_law_one", "_law_other"] (C8.fnScope (top 28)) 40) c_law_sum (C8.fnBody (top 28)) = true := by decide +kernel
theorem k_law_sum (h : TabOk P w K mg base xi0 15 T14) (c : SaysV (facts names) fn gs K) (tp : Top K mg names (gOf gs)) : TabOk P w K mg base xi0 16 T15 :=
  h.step (d := d_law_sum) (ps := ["_law_one", "_law_other"]) (N := ["_law_one", "_law_other"]) tp (by decide) (fun_of c.d 14 rfl) (by decide +kernel) s_law_sum rfl rfl (by decide) m_law_sum (binds_none rfl fun _ _ _ _ _ _ us hl => match us, hl with | [_, _], _ => rfl)
theorem s_law_added : C8.scC ["_law_first", "_law_second", "_law_one", "_law_other", "_law_padded", "_law_size"] ["_law_first", "_law_second"] (C8.fnScope (top 33)) = true := by decide +kernel
theorem m_law_added : matSL (matS T15.fresh T15.dflt ["_law_first", "_law_second", "_law_one", "_law_other", "_law_padded", "_law_size"] (C8.fnScope (top 33)) 40) c_law_added (C8.fnBody (top 33)) = true := by decide +kernel
theorem k_law_added (h : TabOk P w K mg base xi0 16 T15) (c : SaysV (facts names) fn gs K) (tp : Top K mg names (gOf gs)) : TabOk P w K mg base xi0 17 T16 :=
  h.step (d := d_law_added) (ps := ["_law_first", "_law_second"]) (N := ["_law_first", "_law_second", "_law_one", "_law_other", "_law_padded", "_law_size"]) tp (by decide) (fun_of c.d 15 rfl) (by decide +kernel) s_law_added rfl rfl (by decide) m_law_added (binds_none rfl fun _ _ _ _ _ _ us hl => match us, hl with | [_, _], _ => rfl)
theorem s_multiply : C8.scC ["first", "second"] ["first", "second"] (C8.fnScope (top 9)) = true := by decide +kernel
theorem m_multiply : matSL (matS T16.fresh T16.dflt ["first", "second"] (C8.fnScope (top 9)) 40) c_multiply (C8.fnBody (top 9)) = true := by decide +kernel
theorem k_multiply (h : TabOk P w K mg base xi0 17 T16) (c : SaysV (facts names) fn gs K) (tp : Top K mg names (gOf gs)) : TabOk P w K mg base xi0 18 T17 :=
  h.step (d := d_multiply) (ps := ["first", "second"]) (N := ["first", "second"]) tp (by decide) (fun_of c.d 16 rfl) (by decide +kernel) s_multiply rfl rfl (by decide) m_multiply (binds_none rfl fun _ _ _ _ _ _ us hl => match us, hl with | [_, _], _ => rfl)
theorem s_product_of : C8.scC ["first", "second", "found", "one", "other", "other_place", "place"] ["first", "second"] (C8.fnScope (top 16)) = true := by decide +kernel
theorem m_product_of : matSL (matS T17.fresh T17.dflt ["first", "second", "found", "one", "other", "other_place", "place"] (C8.fnScope (top 16)) 40) c_product_of (C8.fnBody (top 16)) = true := by decide +kernel
theorem k_product_of (h : TabOk P w K mg base xi0 18 T17) (c : SaysV (facts names) fn gs K) (tp : Top K mg names (gOf gs)) : TabOk P w K mg base xi0 19 T18 :=
  h.step (d := d_product_of) (ps := ["first", "second"]) (N := ["first", "second", "found", "one", "other", "other_place", "place"]) tp (by decide) (fun_of c.d 17 rfl) (by decide +kernel) s_product_of rfl rfl (by decide) m_product_of (binds_none rfl fun _ _ _ _ _ _ us hl => match us, hl with | [_, _], _ => rfl)
theorem s_law_times : C8.scC ["_law_one", "_law_other"] ["_law_one", "_law_other"] (C8.fnScope (top 29)) = true := by decide +kernel
theorem m_law_times : matSL (matS T18.fresh T18.dflt ["_law_one", "_law_other"] (C8.fnScope (top 29)) 40) c_law_times (C8.fnBody (top 29)) = true := by decide +kernel
theorem k_law_times (h : TabOk P w K mg base xi0 19 T18) (c : SaysV (facts names) fn gs K) (tp : Top K mg names (gOf gs)) : TabOk P w K mg base xi0 20 T19 :=
  h.step (d := d_law_times) (ps := ["_law_one", "_law_other"]) (N := ["_law_one", "_law_other"]) tp (by decide) (fun_of c.d 18 rfl) (by decide +kernel) s_law_times rfl rfl (by decide) m_law_times (binds_none rfl fun _ _ _ _ _ _ us hl => match us, hl with | [_, _], _ => rfl)
theorem s_law_product : C8.scC ["_law_first", "_law_second", "_law_amount", "_law_found", "_law_k", "_law_place"] ["_law_first", "_law_second"] (C8.fnScope (top 31)) = true := by decide +kernel
theorem m_law_product : matSL (matS T19.fresh T19.dflt ["_law_first", "_law_second", "_law_amount", "_law_found", "_law_k", "_law_place"] (C8.fnScope (top 31)) 40) c_law_product (C8.fnBody (top 31)) = true := by decide +kernel
theorem k_law_product (h : TabOk P w K mg base xi0 20 T19) (c : SaysV (facts names) fn gs K) (tp : Top K mg names (gOf gs)) : TabOk P w K mg base xi0 21 T20 :=
  h.step (d := d_law_product) (ps := ["_law_first", "_law_second"]) (N := ["_law_first", "_law_second", "_law_amount", "_law_found", "_law_k", "_law_place"]) tp (by decide) (fun_of c.d 19 rfl) (by decide +kernel) s_law_product rfl rfl (by decide) m_law_product (binds_none rfl fun _ _ _ _ _ _ us hl => match us, hl with | [_, _], _ => rfl)
theorem s_derivative : C8.scC ["polynomial", "one", "place"] ["polynomial"] (C8.fnScope (top 18)) = true := by decide +kernel
theorem m_derivative : matSL (matS T20.fresh T20.dflt ["polynomial", "one", "place"] (C8.fnScope (top 18)) 40) c_derivative (C8.fnBody (top 18)) = true := by decide +kernel
theorem k_derivative (h : TabOk P w K mg base xi0 21 T20) (c : SaysV (facts names) fn gs K) (tp : Top K mg names (gOf gs)) : TabOk P w K mg base xi0 22 T21 :=
  h.step (d := d_derivative) (ps := ["polynomial"]) (N := ["polynomial", "one", "place"]) tp (by decide) (fun_of c.d 20 rfl) (by decide +kernel) s_derivative rfl rfl (by decide) m_derivative (binds_none rfl fun _ _ _ _ _ _ us hl => match us, hl with | [_], _ => rfl)
theorem s_value_at : C8.scC ["polynomial", "number", "coefficient", "found"] ["polynomial", "number"] (C8.fnScope (top 19)) = true := by decide +kernel
theorem m_value_at : matSL (matS T21.fresh T21.dflt ["polynomial", "number", "coefficient", "found"] (C8.fnScope (top 19)) 40) c_value_at (C8.fnBody (top 19)) = true := by decide +kernel
theorem k_value_at (h : TabOk P w K mg base xi0 22 T21) (c : SaysV (facts names) fn gs K) (tp : Top K mg names (gOf gs)) : TabOk P w K mg base xi0 23 T22 :=
  h.step (d := d_value_at) (ps := ["polynomial", "number"]) (N := ["polynomial", "number", "coefficient", "found"]) tp (by decide) (fun_of c.d 21 rfl) (by decide +kernel) s_value_at rfl rfl (by decide) m_value_at (binds_none rfl fun _ _ _ _ _ _ us hl => match us, hl with | [_, _], _ => rfl)
theorem s_law_value : C8.scC ["_law_polynomial_here", "_law_number", "_law_coefficient", "_law_found", "_law_power"] ["_law_polynomial_here", "_law_number"] (C8.fnScope (top 34)) = true := by decide +kernel
theorem m_law_value : matSL (matS T22.fresh T22.dflt ["_law_polynomial_here", "_law_number", "_law_coefficient", "_law_found", "_law_power"] (C8.fnScope (top 34)) 40) c_law_value (C8.fnBody (top 34)) = true := by decide +kernel
theorem k_law_value (h : TabOk P w K mg base xi0 23 T22) (c : SaysV (facts names) fn gs K) (tp : Top K mg names (gOf gs)) : TabOk P w K mg base xi0 24 T23 :=
  h.step (d := d_law_value) (ps := ["_law_polynomial_here", "_law_number"]) (N := ["_law_polynomial_here", "_law_number", "_law_coefficient", "_law_found", "_law_power"]) tp (by decide) (fun_of c.d 22 rfl) (by decide +kernel) s_law_value rfl rfl (by decide) m_law_value (binds_none rfl fun _ _ _ _ _ _ us hl => match us, hl with | [_, _], _ => rfl)
theorem s_degree : C8.scC ["polynomial"] ["polynomial"] (C8.fnScope (top 13)) = true := by decide +kernel
theorem m_degree : matSL (matS T23.fresh T23.dflt ["polynomial"] (C8.fnScope (top 13)) 40) c_degree (C8.fnBody (top 13)) = true := by decide +kernel
theorem k_degree (h : TabOk P w K mg base xi0 24 T23) (c : SaysV (facts names) fn gs K) (tp : Top K mg names (gOf gs)) : TabOk P w K mg base xi0 25 T24 :=
  h.step (d := d_degree) (ps := ["polynomial"]) (N := ["polynomial"]) tp (by decide) (fun_of c.d 23 rfl) (by decide +kernel) s_degree rfl rfl (by decide) m_degree (binds_none rfl fun _ _ _ _ _ _ us hl => match us, hl with | [_], _ => rfl)
theorem s_scaled : C8.scC ["polynomial", "factor", "coefficient"] ["polynomial", "factor"] (C8.fnScope (top 15)) = true := by decide +kernel
theorem m_scaled : matSL (matS T24.fresh T24.dflt ["polynomial", "factor", "coefficient"] (C8.fnScope (top 15)) 40) c_scaled (C8.fnBody (top 15)) = true := by decide +kernel
theorem k_scaled (h : TabOk P w K mg base xi0 25 T24) (c : SaysV (facts names) fn gs K) (tp : Top K mg names (gOf gs)) : TabOk P w K mg base xi0 26 T25 :=
  h.step (d := d_scaled) (ps := ["polynomial", "factor"]) (N := ["polynomial", "factor", "coefficient"]) tp (by decide) (fun_of c.d 24 rfl) (by decide +kernel) s_scaled rfl rfl (by decide) m_scaled (binds_none rfl fun _ _ _ _ _ _ us hl => match us, hl with | [_, _], _ => rfl)
theorem s_divide : C8.scC ["first", "second"] ["first", "second"] (C8.fnScope (top 10)) = true := by decide +kernel
theorem m_divide : matSL (matS T25.fresh T25.dflt ["first", "second"] (C8.fnScope (top 10)) 40) c_divide (C8.fnBody (top 10)) = true := by decide +kernel
theorem k_divide (h : TabOk P w K mg base xi0 26 T25) (c : SaysV (facts names) fn gs K) (tp : Top K mg names (gOf gs)) : TabOk P w K mg base xi0 27 T26 :=
  h.step (d := d_divide) (ps := ["first", "second"]) (N := ["first", "second"]) tp (by decide) (fun_of c.d 25 rfl) (by decide +kernel) s_divide rfl rfl (by decide) m_divide (binds_none rfl fun _ _ _ _ _ _ us hl => match us, hl with | [_, _], _ => rfl)
theorem s_monic : C8.scC ["polynomial"] ["polynomial"] (C8.fnScope (top 17)) = true := by decide +kernel
theorem m_monic : matSL (matS T26.fresh T26.dflt ["polynomial"] (C8.fnScope (top 17)) 40) c_monic (C8.fnBody (top 17)) = true := by decide +kernel
theorem k_monic (h : TabOk P w K mg base xi0 27 T26) (c : SaysV (facts names) fn gs K) (tp : Top K mg names (gOf gs)) : TabOk P w K mg base xi0 28 T27 :=
  h.step (d := d_monic) (ps := ["polynomial"]) (N := ["polynomial"]) tp (by decide) (fun_of c.d 26 rfl) (by decide +kernel) s_monic rfl rfl (by decide) m_monic (binds_none rfl fun _ _ _ _ _ _ us hl => match us, hl with | [_], _ => rfl)
theorem s_law_one_right : C8.scC ["_law_supply_here", "_law_one", "_law_bottom", "_law_coefficient", "_law_due", "_law_k", "_law_number", "_law_slopes", "_law_top"] ["_law_supply_here", "_law_one"] (C8.fnScope (top 35)) = true := by decide +kernel
theorem m_law_one_right : matSL (matS T27.fresh T27.dflt ["_law_supply_here", "_law_one", "_law_bottom", "_law_coefficient", "_law_due", "_law_k", "_law_number", "_law_slopes", "_law_top"] (C8.fnScope (top 35)) 40) c_law_one_right (C8.fnBody (top 35)) = true := by decide +kernel
theorem k_law_one_right (h : TabOk P w K mg base xi0 28 T27) (c : SaysV (facts names) fn gs K) (tp : Top K mg names (gOf gs)) : TabOk P w K mg base xi0 29 T28 :=
  h.step (d := d_law_one_right) (ps := ["_law_supply_here", "_law_one"]) (N := ["_law_supply_here", "_law_one", "_law_bottom", "_law_coefficient", "_law_due", "_law_k", "_law_number", "_law_slopes", "_law_top"]) tp (by decide) (fun_of c.d 27 rfl) (by decide +kernel) s_law_one_right rfl rfl (by decide) m_law_one_right (binds_none rfl fun _ _ _ _ _ _ us hl => match us, hl with | [_, _], _ => rfl)
theorem s_law : C8.scC ["_law_script", "_law_a", "_law_b", "_law_before", "_law_longer", "_law_one", "_law_other", "_law_size", "_law_supply_here", "_law_time", "_law_turn", "_law_zeros"] ["_law_script"] (C8.fnScope (top 36)) = true := by decide +kernel
theorem m_law : matSL (matS T28.fresh T28.dflt ["_law_script", "_law_a", "_law_b", "_law_before", "_law_longer", "_law_one", "_law_other", "_law_size", "_law_supply_here", "_law_time", "_law_turn", "_law_zeros"] (C8.fnScope (top 36)) 40) c_law (C8.fnBody (top 36)) = true := by decide +kernel
theorem tab (c : SaysV (facts names) fn gs K) (tp : Top K mg names (gOf gs)) : TabOk P w K mg base xi0 29 T28 := by
  have h0 : TabOk P w K mg base xi0 1 T0 := TabOk.nil _ _
  have h1 := k_law_supply h0 c tp
  have h2 := k_law_blended h1 c tp
  have h3 := k_law_below h2 c tp
  have h4 := k_law_one_of h3 c tp
  have h5 := k_law_cut h4 c tp
  have h6 := k_law_lowest h5 c tp
  have h7 := k_law_fraction h6 c tp
  have h8 := k_law_polynomial h7 c tp
  have h9 := k_law_alike h8 c tp
  have h10 := k_trimmed h9 c tp
  have h11 := k_common_divisor h10 c tp
  have h12 := k_fraction h11 c tp
  have h13 := k_add h12 c tp
  have h14 := k_sum_of h13 c tp
  have h15 := k_law_sum h14 c tp
  have h16 := k_law_added h15 c tp
  have h17 := k_multiply h16 c tp
  have h18 := k_product_of h17 c tp
  have h19 := k_law_times h18 c tp
  have h20 := k_law_product h19 c tp
  have h21 := k_derivative h20 c tp
  have h22 := k_value_at h21 c tp
  have h23 := k_law_value h22 c tp
  have h24 := k_degree h23 c tp
  have h25 := k_scaled h24 c tp
  have h26 := k_divide h25 c tp
  have h27 := k_monic h26 c tp
  have h28 := k_law_one_right h27 c tp
  exact h28
end
def loose0 : List Str := ["ToLimitError", "ZeroDivisor", "ZERO", "ONE", "common_divisor", "fraction", "add", "multiply", "divide", "trimmed", "degree", "sum_of", "scaled", "product_of", "monic", "derivative", "value_at", "_law_blended", "_law_supply", "_law_below", "_law_one_of", "_law_alike", "_law_lowest", "_law_fraction", "_law_sum", "_law_times", "_law_cut", "_law_product", "_law_polynomial", "_law_added"]
def loose1 : List Str := ["_law_value", "_law_one_right"]
def loose : List Str := loose0 ++ loose1
abbrev hk : PySem.W.Hook := hookV 5 (facts names) fn gs
def ob (s : PySem.W.SharedT) : AlV := obsVG 5 (facts names) fn gs (HandSHeadRun.getT s)
theorem ob_eq (s : PySem.W.SharedT) : ob s = hk.obs s.abs := obsVG_eq (HandSHeadRun.getT_eq s)
theorem run (w : World) : HandSHeadRun.RunEq R (PySem.W.view R.prog [36]) hk ob 4000 loose w := by
  intro os
  kernel_rfl
end K05
open PySem PySem.W PySem.Calls PyProof.Rows
theorem K05.closes (run_ : ∀ ns : List Int, ns.length ≤ 63 → (∀ z ∈ ns, Builtin.Int.intBits z ≤ 1048576) → Vm.runFd K05.T28 Vm.big K05.d_law [.val (.scr ns)] = .ok (.bl true, none)) : PySem.Challenge.rw_tolimit_k05_sums_and_products_of_polynom.Holds := by
  w_on; o_law
  refine HandSHeadRun.head_any (r := OpenLaw.row PySem.Challenge.rw_tolimit_k05_sums_and_products_of_polynom) (q := view (OpenLaw.row PySem.Challenge.rw_tolimit_k05_sums_and_products_of_polynom).prog [36]) (H := K05.hk) (ob := K05.ob) (M := 4000) (loose := K05.loose) (d := HandSHeadRun.topDef (OpenLaw.row PySem.Challenge.rw_tolimit_k05_sums_and_products_of_polynom).prog 36) (kwd := []) K05.ob_eq
    (by kernel_rfl) (fun s => by kernel_rfl) K05.run (by kernel_rfl) (by kernel_rfl) (by kernel_rfl) (by rfl) (by first | assumption | decide +kernel) (by decide +kernel) ⟨rfl, rfl, rfl, rfl, rfl, by decide +kernel⟩ ?hw ?hc
  case hw => w_witness2
  case hc =>
    refine Vm.walk_end (l := PySem.Challenge.rw_tolimit_k05_sums_and_products_of_polynom) (n := 63) (k := 30) (x := "_law_script") rfl (by decide) (by kernel_rfl) ⟨rfl, by decide, by decide⟩ ?F run_
    intro w mg fa h Y G hmg0
    obtain ⟨K, KX, c⟩ := Y
    have tp := Vm.top_of KX G c
    have hmg : mg ("law" : PySem.Str) = some (.ref fa) := by
      have e : (HandSHeadRun.topDef (OpenLaw.row PySem.Challenge.rw_tolimit_k05_sums_and_products_of_polynom).prog 36).name = ("law" : PySem.Str) := by kernel_rfl
      rw [← e]
      exact hmg0
    obtain ⟨fd, Fu⟩ := Vm.fun_of c.d 28 (x := "law") rfl
    have e := hmg.symm.trans (tp.nm "law" (by decide +kernel))
    cases e
    have b := L2.FunD.bindsA (ps := ["_law_script"]) Fu fun _ _ _ _ _ _ us hl => match us, hl with | [_], _ => rfl
    exact ⟨K, fd, KX, fun s v => b s [v] rfl, fun base _ _ => Vm.fnG_of (d := K05.d_law) (N := ["_law_script", "_law_a", "_law_b", "_law_before", "_law_longer", "_law_one", "_law_other", "_law_size", "_law_supply_here", "_law_time", "_law_turn", "_law_zeros"]) (K05.tab c tp) (fun _ _ _ _ _ _ _ z => z) tp.gl tp.bl (by decide) Fu (C8.fnScope_by K05.s_law) rfl rfl K05.m_law (by decide)⟩
end
section
set_option Elab.async false
set_option linter.all false
set_option maxRecDepth 100000
set_option maxHeartbeats 0
namespace K05
open PySem PySem.Spec L2 Vm
theorem z_law_supply_L : K05.T1.has "_law_supply" = true ∧ ∀ {ns : List Int}, ns.length ≤ 63 → ∃ l, K05.T1.call "_law_supply" [.val (.scr ns)] = .ok (.lst l, none) ∧ Sup 0 l := ⟨has_at K05.d_law_supply, fun hl => by
  obtain ⟨l, h, s⟩ := su_run (T := K05.T0) (nm := "_law_supply") hl
  exact ⟨l, (call_at K05.d_law_supply _).trans h, s⟩⟩
theorem z_law_blended_L : Bl K05.T2 "_law_blended" := ⟨has_at K05.d_law_blended, fun h1 h2 h3 => by
  obtain ⟨r, h, s⟩ := bl_run (T := K05.T1) (nm := "_law_blended") (M := 1000000000000000009) (A := 2862933555777941757) (B := 3037000493) (a := 4) (b := 131) (c := 69069) (by decide) (by decide) (by unfold Bd; decide) (by unfold Bd; decide) (by unfold Bd; decide) (by unfold Bd; decide) (by unfold Bd; decide) h1 h2 h3
  exact ⟨r, (call_at K05.d_law_blended _).trans h, s⟩⟩
theorem z_law_below_L : Be K05.T3 "_law_below" := ⟨has_at K05.d_law_below, fun sup hm hs hb => by
  obtain ⟨r, l', h, s⟩ := be_run z_law_blended_L sup hm hs hb
  exact ⟨r, l', (call_at K05.d_law_below _).trans h, s⟩⟩
theorem z_law_one_of_L : On K05.T4 "_law_one_of" := ⟨has_at K05.d_law_one_of, fun sup hm hd hl => by
  obtain ⟨e, l', g, h, s⟩ := on_run z_law_below_L sup hm hd hl
  exact ⟨e, l', g, (call_at K05.d_law_one_of _).trans h, s⟩⟩
theorem z_law_cut_L : Tr K05.T5 "_law_cut" := ⟨has_at K05.d_law_cut, fun hd h k1 hk hl => (call_at K05.d_law_cut _).trans (tr_run (nm := "_law_cut") (zr_t _) hd h k1 hk hl)⟩
theorem z_law_lowest_L : Mk K05.T6 "_law_lowest" := ⟨has_at K05.d_law_lowest, fun hq h1 h2 hk => (call_at K05.d_law_lowest _).trans (lo_run hq h1 h2 hk)⟩
theorem z_law_fraction_L : Fr K05.T7 "_law_fraction" := ⟨has_at K05.d_law_fraction, fun sup hm h2 hk k3 k4 => by
  obtain ⟨q, l', h, s⟩ := rf_run (z_law_below_L.up (show Same1 K05.T3 K05.T6 "_law_below" from same_adds [K05.d_law_one_of, K05.d_law_cut, K05.d_law_lowest] K05.T3 (by decide +kernel))) (z_law_one_of_L.up (show Same1 K05.T4 K05.T6 "_law_one_of" from same_adds [K05.d_law_cut, K05.d_law_lowest] K05.T4 (by decide +kernel))) z_law_lowest_L sup hm h2 hk k3 k4
  exact ⟨q, l', (call_at K05.d_law_fraction _).trans h, s⟩⟩
theorem z_law_polynomial_L : Po K05.T8 "_law_polynomial" := ⟨has_at K05.d_law_polynomial, fun sup hm hn h2 hk k3 k4 => by
  obtain ⟨q, l', h, s⟩ := po_run (z_law_below_L.up (show Same1 K05.T3 K05.T7 "_law_below" from same_adds [K05.d_law_one_of, K05.d_law_cut, K05.d_law_lowest, K05.d_law_fraction] K05.T3 (by decide +kernel))) (z_law_one_of_L.up (show Same1 K05.T4 K05.T7 "_law_one_of" from same_adds [K05.d_law_cut, K05.d_law_lowest, K05.d_law_fraction] K05.T4 (by decide +kernel))) z_law_fraction_L (z_law_cut_L.up (show Same1 K05.T5 K05.T7 "_law_cut" from same_adds [K05.d_law_lowest, K05.d_law_fraction] K05.T5 (by decide +kernel))) sup hm hn h2 hk k3 k4
  exact ⟨q, l', (call_at K05.d_law_polynomial _).trans h, s⟩⟩
theorem z_law_alike_L : Al K05.T9 := ⟨has_at K05.d_law_alike, fun h => (call_at K05.d_law_alike _).trans (al_run h)⟩
theorem z_trimmed : Tr K05.T10 "trimmed" := ⟨has_at K05.d_trimmed, fun hd h k1 hk hl => (call_at K05.d_trimmed _).trans (tr_run (nm := "trimmed") (zr_g rfl) hd h k1 hk hl)⟩
theorem z_common_divisor : K05.T11.has "common_divisor" = true ∧ ∀ {k : Nat} {a b : Int}, Bd k b → k ≤ 268435456 → K05.T11.call "common_divisor" [.val (.int a), .val (.int b)] = .ok (.int (a.gcd b), none) := ⟨has_at K05.d_common_divisor, fun hb hk => (call_at K05.d_common_divisor _).trans (cd_run hb hk)⟩
theorem z_fraction : Mk K05.T12 "fraction" := ⟨has_at K05.d_fraction, fun hq h1 h2 hk => (call_at K05.d_fraction _).trans (fr_run z_common_divisor.1 z_common_divisor.2 hq h1 h2 hk)⟩
theorem z_add : Ad K05.T13 "add" := ⟨has_at K05.d_add, fun h g hk => (call_at K05.d_add _).trans (add_run (x := "add") z_fraction h g hk)⟩
theorem z_sum_of : K05.T14.has "sum_of" = true ∧ ∀ {ps qs : List Rat}, HtA 30 ps → HtA 30 qs → ps.length ≤ 7 → qs.length ≤ 7 → K05.T14.call "sum_of" [.val (.tup (frs ps)), .val (.tup (frs qs))] = .ok (.tup (frs (trim (padd ps qs))), none) := ⟨has_at K05.d_sum_of, fun h g hp hq => (call_at K05.d_sum_of _).trans (sum_run (nm := "sum_of") (zr_g rfl) wr_t z_add (z_trimmed.up (show Same1 K05.T10 K05.T13 "trimmed" from same_adds [K05.d_common_divisor, K05.d_fraction, K05.d_add] K05.T10 (by decide +kernel))) h g (by decide) (by decide) (by omega) (by omega))⟩
theorem z_law_sum_L : Ad K05.T15 "_law_sum" := ⟨has_at K05.d_law_sum, fun h g hk => (call_at K05.d_law_sum _).trans (add_run (x := "_law_sum") (z_law_lowest_L.up (show Same1 K05.T6 K05.T14 "_law_lowest" from same_adds [K05.d_law_fraction, K05.d_law_polynomial, K05.d_law_alike, K05.d_trimmed, K05.d_common_divisor, K05.d_fraction, K05.d_add, K05.d_sum_of] K05.T6 (by decide +kernel))) h g hk)⟩
theorem z_law_added_L : K05.T16.has "_law_added" = true ∧ ∀ {ps qs : List Rat}, HtA 30 ps → HtA 30 qs → ps.length ≤ 7 → qs.length ≤ 7 → K05.T16.call "_law_added" [.val (.tup (frs ps)), .val (.tup (frs qs))] = .ok (.tup (frs (trim (padd ps qs))), none) := ⟨has_at K05.d_law_added, fun h g hp hq => (call_at K05.d_law_added _).trans (sum_run (nm := "_law_added") (zr_t _) wr_l z_law_sum_L (z_law_cut_L.up (show Same1 K05.T5 K05.T15 "_law_cut" from same_adds [K05.d_law_lowest, K05.d_law_fraction, K05.d_law_polynomial, K05.d_law_alike, K05.d_trimmed, K05.d_common_divisor, K05.d_fraction, K05.d_add, K05.d_sum_of, K05.d_law_sum] K05.T5 (by decide +kernel))) h g (by decide) (by decide) (by omega) (by omega))⟩
theorem z_multiply : Mu K05.T17 "multiply" := ⟨has_at K05.d_multiply, fun h g hk => (call_at K05.d_multiply _).trans (mul_run (x := "multiply") (z_fraction.up (show Same1 K05.T12 K05.T16 "fraction" from same_adds [K05.d_add, K05.d_sum_of, K05.d_law_sum, K05.d_law_added] K05.T12 (by decide +kernel))) h g hk)⟩
theorem z_product_of : K05.T18.has "product_of" = true ∧ ∀ {ps qs : List Rat}, HtA 30 ps → HtA 30 qs → ps.length ≤ 7 → qs.length ≤ 7 → K05.T18.call "product_of" [.val (.tup (frs ps)), .val (.tup (frs qs))] = .ok (.tup (frs (trim (prod ps qs))), none) := ⟨has_at K05.d_product_of, fun h g hp hq => (call_at K05.d_product_of _).trans (pr_run (zr_g rfl) (z_add.up (show Same1 K05.T13 K05.T17 "add" from same_adds [K05.d_sum_of, K05.d_law_sum, K05.d_law_added, K05.d_multiply] K05.T13 (by decide +kernel))) z_multiply (z_trimmed.up (show Same1 K05.T10 K05.T17 "trimmed" from same_adds [K05.d_common_divisor, K05.d_fraction, K05.d_add, K05.d_sum_of, K05.d_law_sum, K05.d_law_added, K05.d_multiply] K05.T10 (by decide +kernel))) h g (by decide) (by omega) (by decide) (by omega) (by omega))⟩
theorem z_law_times_L : Mu K05.T19 "_law_times" := ⟨has_at K05.d_law_times, fun h g hk => (call_at K05.d_law_times _).trans (mul_run (x := "_law_times") (z_law_lowest_L.up (show Same1 K05.T6 K05.T18 "_law_lowest" from same_adds [K05.d_law_fraction, K05.d_law_polynomial, K05.d_law_alike, K05.d_trimmed, K05.d_common_divisor, K05.d_fraction, K05.d_add, K05.d_sum_of, K05.d_law_sum, K05.d_law_added, K05.d_multiply, K05.d_product_of] K05.T6 (by decide +kernel))) h g hk)⟩
theorem z_law_product_L : K05.T20.has "_law_product" = true ∧ ∀ {ps qs : List Rat}, HtA 30 ps → HtA 30 qs → ps.length ≤ 7 → qs.length ≤ 7 → K05.T20.call "_law_product" [.val (.tup (frs ps)), .val (.tup (frs qs))] = .ok (.tup (frs (trim (prod ps qs))), none) := ⟨has_at K05.d_law_product, fun h g hp hq => (call_at K05.d_law_product _).trans (lp_run (z_law_sum_L.up (show Same1 K05.T15 K05.T19 "_law_sum" from same_adds [K05.d_law_added, K05.d_multiply, K05.d_product_of, K05.d_law_times] K05.T15 (by decide +kernel))) z_law_times_L (z_law_cut_L.up (show Same1 K05.T5 K05.T19 "_law_cut" from same_adds [K05.d_law_lowest, K05.d_law_fraction, K05.d_law_polynomial, K05.d_law_alike, K05.d_trimmed, K05.d_common_divisor, K05.d_fraction, K05.d_add, K05.d_sum_of, K05.d_law_sum, K05.d_law_added, K05.d_multiply, K05.d_product_of, K05.d_law_times] K05.T5 (by decide +kernel))) h g (by decide) (by omega) (by decide) (by omega) (by omega))⟩
theorem z_derivative : K05.T21.has "derivative" = true ∧ ∀ {ps : List Rat}, HtA 30 ps → ps.length ≤ 7 → K05.T21.call "derivative" [.val (.tup (frs ps))] = .ok (.tup (frs (trim (drv ps))), none) := ⟨has_at K05.d_derivative, fun h hp => (call_at K05.d_derivative _).trans (dv_run (z_multiply.up (show Same1 K05.T17 K05.T20 "multiply" from same_adds [K05.d_product_of, K05.d_law_times, K05.d_law_product] K05.T17 (by decide +kernel))) (z_fraction.up (show Same1 K05.T12 K05.T20 "fraction" from same_adds [K05.d_add, K05.d_sum_of, K05.d_law_sum, K05.d_law_added, K05.d_multiply, K05.d_product_of, K05.d_law_times, K05.d_law_product] K05.T12 (by decide +kernel))) (z_trimmed.up (show Same1 K05.T10 K05.T20 "trimmed" from same_adds [K05.d_common_divisor, K05.d_fraction, K05.d_add, K05.d_sum_of, K05.d_law_sum, K05.d_law_added, K05.d_multiply, K05.d_product_of, K05.d_law_times, K05.d_law_product] K05.T10 (by decide +kernel))) h (by decide) (by decide) (by omega))⟩
theorem z_value_at : K05.T22.has "value_at" = true ∧ ∀ {ps : List Rat} {x : Rat}, HtA 30 ps → Ht 20 x → ps.length ≤ 7 → K05.T22.call "value_at" [.val (.tup (frs ps)), .val (fr x)] = .ok (fr (hv x ps), none) := ⟨has_at K05.d_value_at, fun h hx hp => (call_at K05.d_value_at _).trans (va_run (zr_g rfl) (z_add.up (show Same1 K05.T13 K05.T21 "add" from same_adds [K05.d_sum_of, K05.d_law_sum, K05.d_law_added, K05.d_multiply, K05.d_product_of, K05.d_law_times, K05.d_law_product, K05.d_derivative] K05.T13 (by decide +kernel))) (z_multiply.up (show Same1 K05.T17 K05.T21 "multiply" from same_adds [K05.d_product_of, K05.d_law_times, K05.d_law_product, K05.d_derivative] K05.T17 (by decide +kernel))) h (hx.mono (by decide)) (by omega) (by decide))⟩
theorem z_law_value_L : K05.T23.has "_law_value" = true ∧ ∀ {ps : List Rat} {x : Rat}, HtA 30 ps → Ht 20 x → ps.length ≤ 7 → K05.T23.call "_law_value" [.val (.tup (frs ps)), .val (fr x)] = .ok (fr (hv x ps), none) := ⟨has_at K05.d_law_value, fun h hx hp => (call_at K05.d_law_value _).trans (lv_run (n := 7) (z_law_sum_L.up (show Same1 K05.T15 K05.T22 "_law_sum" from same_adds [K05.d_law_added, K05.d_multiply, K05.d_product_of, K05.d_law_times, K05.d_law_product, K05.d_derivative, K05.d_value_at] K05.T15 (by decide +kernel))) (z_law_times_L.up (show Same1 K05.T19 K05.T22 "_law_times" from same_adds [K05.d_law_product, K05.d_derivative, K05.d_value_at] K05.T19 (by decide +kernel))) h (hx.mono (by decide)) hp (by decide))⟩
theorem z_degree : K05.T24.has "degree" = true ∧ ∀ {ps : List Rat}, K05.T24.call "degree" [.val (.tup (frs ps))] = .ok (.int ((ps.length : Int) - 1), none) := ⟨has_at K05.d_degree, (call_at K05.d_degree _).trans dg_run⟩
theorem z_scaled : Sc K05.T25 "scaled" := ⟨has_at K05.d_scaled, fun h g k1 hk hp => (call_at K05.d_scaled _).trans (sc_run (z_multiply.up (show Same1 K05.T17 K05.T24 "multiply" from same_adds [K05.d_product_of, K05.d_law_times, K05.d_law_product, K05.d_derivative, K05.d_value_at, K05.d_law_value, K05.d_degree] K05.T17 (by decide +kernel))) (z_trimmed.up (show Same1 K05.T10 K05.T24 "trimmed" from same_adds [K05.d_common_divisor, K05.d_fraction, K05.d_add, K05.d_sum_of, K05.d_law_sum, K05.d_law_added, K05.d_multiply, K05.d_product_of, K05.d_law_times, K05.d_law_product, K05.d_derivative, K05.d_value_at, K05.d_law_value, K05.d_degree] K05.T10 (by decide +kernel))) h g k1 hk hp)⟩
theorem z_divide : Dv K05.T26 "divide" := ⟨has_at K05.d_divide, fun hb h g hk => (call_at K05.d_divide _).trans (div_run (x := "divide") (z_fraction.up (show Same1 K05.T12 K05.T25 "fraction" from same_adds [K05.d_add, K05.d_sum_of, K05.d_law_sum, K05.d_law_added, K05.d_multiply, K05.d_product_of, K05.d_law_times, K05.d_law_product, K05.d_derivative, K05.d_value_at, K05.d_law_value, K05.d_degree, K05.d_scaled] K05.T12 (by decide +kernel))) hb h g hk)⟩
theorem z_monic : K05.T27.has "monic" = true ∧ ∀ {ps : List Rat}, Nz ps → HtA 30 ps → ps.length ≤ 7 → K05.T27.call "monic" [.val (.tup (frs ps))] = .ok (.tup (frs (trim (mon ps))), none) := ⟨has_at K05.d_monic, fun nz h hp => (call_at K05.d_monic _).trans (mo_run (z_scaled.up (show Same1 K05.T25 K05.T26 "scaled" from same_adds [K05.d_divide] K05.T25 (by decide +kernel))) z_divide rfl nz h (by decide) (by decide) (by omega))⟩
theorem z_law_one_right_L : K05.T28.has "_law_one_right" = true ∧ ∀ {m : Nat} {l : List D} {ps : List Rat}, Sup m l → m + 100 < 2 ^ 60 → Nz ps → HtA 30 ps → ps.length ≤ 7 → ∃ l', K05.T28.call "_law_one_right" [.own l, .val (.tup (frs ps))] = .ok (.bl true, some l') ∧ Sup (m + 4) l' := ⟨has_at K05.d_law_one_right, fun sup hm nz h hp => by
  obtain ⟨l', h, s⟩ := or_run ⟨(z_law_one_of_L.up (show Same1 K05.T4 K05.T27 "_law_one_of" from same_adds [K05.d_law_cut, K05.d_law_lowest, K05.d_law_fraction, K05.d_law_polynomial, K05.d_law_alike, K05.d_trimmed, K05.d_common_divisor, K05.d_fraction, K05.d_add, K05.d_sum_of, K05.d_law_sum, K05.d_law_added, K05.d_multiply, K05.d_product_of, K05.d_law_times, K05.d_law_product, K05.d_derivative, K05.d_value_at, K05.d_law_value, K05.d_degree, K05.d_scaled, K05.d_divide, K05.d_monic] K05.T4 (by decide +kernel))), (z_law_fraction_L.up (show Same1 K05.T7 K05.T27 "_law_fraction" from same_adds [K05.d_law_polynomial, K05.d_law_alike, K05.d_trimmed, K05.d_common_divisor, K05.d_fraction, K05.d_add, K05.d_sum_of, K05.d_law_sum, K05.d_law_added, K05.d_multiply, K05.d_product_of, K05.d_law_times, K05.d_law_product, K05.d_derivative, K05.d_value_at, K05.d_law_value, K05.d_degree, K05.d_scaled, K05.d_divide, K05.d_monic] K05.T7 (by decide +kernel))), (z_law_lowest_L.up (show Same1 K05.T6 K05.T27 "_law_lowest" from same_adds [K05.d_law_fraction, K05.d_law_polynomial, K05.d_law_alike, K05.d_trimmed, K05.d_common_divisor, K05.d_fraction, K05.d_add, K05.d_sum_of, K05.d_law_sum, K05.d_law_added, K05.d_multiply, K05.d_product_of, K05.d_law_times, K05.d_law_product, K05.d_derivative, K05.d_value_at, K05.d_law_value, K05.d_degree, K05.d_scaled, K05.d_divide, K05.d_monic] K05.T6 (by decide +kernel))), (z_law_times_L.up (show Same1 K05.T19 K05.T27 "_law_times" from same_adds [K05.d_law_product, K05.d_derivative, K05.d_value_at, K05.d_law_value, K05.d_degree, K05.d_scaled, K05.d_divide, K05.d_monic] K05.T19 (by decide +kernel))), (z_law_cut_L.up (show Same1 K05.T5 K05.T27 "_law_cut" from same_adds [K05.d_law_lowest, K05.d_law_fraction, K05.d_law_polynomial, K05.d_law_alike, K05.d_trimmed, K05.d_common_divisor, K05.d_fraction, K05.d_add, K05.d_sum_of, K05.d_law_sum, K05.d_law_added, K05.d_multiply, K05.d_product_of, K05.d_law_times, K05.d_law_product, K05.d_derivative, K05.d_value_at, K05.d_law_value, K05.d_degree, K05.d_scaled, K05.d_divide, K05.d_monic] K05.T5 (by decide +kernel))), (z_law_alike_L.up (show Same1 K05.T9 K05.T27 "_law_alike" from same_adds [K05.d_trimmed, K05.d_common_divisor, K05.d_fraction, K05.d_add, K05.d_sum_of, K05.d_law_sum, K05.d_law_added, K05.d_multiply, K05.d_product_of, K05.d_law_times, K05.d_law_product, K05.d_derivative, K05.d_value_at, K05.d_law_value, K05.d_degree, K05.d_scaled, K05.d_divide, K05.d_monic] K05.T9 (by decide +kernel))), (by have e : Same1 K05.T24 K05.T27 "degree" := same_adds [K05.d_scaled, K05.d_divide, K05.d_monic] K05.T24 (by decide +kernel); rw [e.1, e.2]; exact z_degree), z_monic, (by have e : Same1 K05.T21 K05.T27 "derivative" := same_adds [K05.d_value_at, K05.d_law_value, K05.d_degree, K05.d_scaled, K05.d_divide, K05.d_monic] K05.T21 (by decide +kernel); rw [e.1, e.2]; exact z_derivative), (by have e : Same1 K05.T22 K05.T27 "value_at" := same_adds [K05.d_law_value, K05.d_degree, K05.d_scaled, K05.d_divide, K05.d_monic] K05.T22 (by decide +kernel); rw [e.1, e.2]; exact z_value_at), (by have e : Same1 K05.T23 K05.T27 "_law_value" := same_adds [K05.d_degree, K05.d_scaled, K05.d_divide, K05.d_monic] K05.T23 (by decide +kernel); rw [e.1, e.2]; exact z_law_value_L)⟩ sup hm nz h hp
  exact ⟨l', (call_at K05.d_law_one_right _).trans h, s⟩⟩
theorem la : La K05.T28 := ⟨(by have e : Same1 K05.T1 K05.T28 "_law_supply" := same_adds [K05.d_law_blended, K05.d_law_below, K05.d_law_one_of, K05.d_law_cut, K05.d_law_lowest, K05.d_law_fraction, K05.d_law_polynomial, K05.d_law_alike, K05.d_trimmed, K05.d_common_divisor, K05.d_fraction, K05.d_add, K05.d_sum_of, K05.d_law_sum, K05.d_law_added, K05.d_multiply, K05.d_product_of, K05.d_law_times, K05.d_law_product, K05.d_derivative, K05.d_value_at, K05.d_law_value, K05.d_degree, K05.d_scaled, K05.d_divide, K05.d_monic, K05.d_law_one_right] K05.T1 (by decide +kernel); rw [e.1, e.2]; exact z_law_supply_L), (z_law_one_of_L.up (show Same1 K05.T4 K05.T28 "_law_one_of" from same_adds [K05.d_law_cut, K05.d_law_lowest, K05.d_law_fraction, K05.d_law_polynomial, K05.d_law_alike, K05.d_trimmed, K05.d_common_divisor, K05.d_fraction, K05.d_add, K05.d_sum_of, K05.d_law_sum, K05.d_law_added, K05.d_multiply, K05.d_product_of, K05.d_law_times, K05.d_law_product, K05.d_derivative, K05.d_value_at, K05.d_law_value, K05.d_degree, K05.d_scaled, K05.d_divide, K05.d_monic, K05.d_law_one_right] K05.T4 (by decide +kernel))), (z_law_polynomial_L.up (show Same1 K05.T8 K05.T28 "_law_polynomial" from same_adds [K05.d_law_alike, K05.d_trimmed, K05.d_common_divisor, K05.d_fraction, K05.d_add, K05.d_sum_of, K05.d_law_sum, K05.d_law_added, K05.d_multiply, K05.d_product_of, K05.d_law_times, K05.d_law_product, K05.d_derivative, K05.d_value_at, K05.d_law_value, K05.d_degree, K05.d_scaled, K05.d_divide, K05.d_monic, K05.d_law_one_right] K05.T8 (by decide +kernel))), (z_law_below_L.up (show Same1 K05.T3 K05.T28 "_law_below" from same_adds [K05.d_law_one_of, K05.d_law_cut, K05.d_law_lowest, K05.d_law_fraction, K05.d_law_polynomial, K05.d_law_alike, K05.d_trimmed, K05.d_common_divisor, K05.d_fraction, K05.d_add, K05.d_sum_of, K05.d_law_sum, K05.d_law_added, K05.d_multiply, K05.d_product_of, K05.d_law_times, K05.d_law_product, K05.d_derivative, K05.d_value_at, K05.d_law_value, K05.d_degree, K05.d_scaled, K05.d_divide, K05.d_monic, K05.d_law_one_right] K05.T3 (by decide +kernel))), (z_law_alike_L.up (show Same1 K05.T9 K05.T28 "_law_alike" from same_adds [K05.d_trimmed, K05.d_common_divisor, K05.d_fraction, K05.d_add, K05.d_sum_of, K05.d_law_sum, K05.d_law_added, K05.d_multiply, K05.d_product_of, K05.d_law_times, K05.d_law_product, K05.d_derivative, K05.d_value_at, K05.d_law_value, K05.d_degree, K05.d_scaled, K05.d_divide, K05.d_monic, K05.d_law_one_right] K05.T9 (by decide +kernel))), (z_trimmed.up (show Same1 K05.T10 K05.T28 "trimmed" from same_adds [K05.d_common_divisor, K05.d_fraction, K05.d_add, K05.d_sum_of, K05.d_law_sum, K05.d_law_added, K05.d_multiply, K05.d_product_of, K05.d_law_times, K05.d_law_product, K05.d_derivative, K05.d_value_at, K05.d_law_value, K05.d_degree, K05.d_scaled, K05.d_divide, K05.d_monic, K05.d_law_one_right] K05.T10 (by decide +kernel))), (by have e : Same1 K05.T14 K05.T28 "sum_of" := same_adds [K05.d_law_sum, K05.d_law_added, K05.d_multiply, K05.d_product_of, K05.d_law_times, K05.d_law_product, K05.d_derivative, K05.d_value_at, K05.d_law_value, K05.d_degree, K05.d_scaled, K05.d_divide, K05.d_monic, K05.d_law_one_right] K05.T14 (by decide +kernel); rw [e.1, e.2]; exact z_sum_of), (by have e : Same1 K05.T16 K05.T28 "_law_added" := same_adds [K05.d_multiply, K05.d_product_of, K05.d_law_times, K05.d_law_product, K05.d_derivative, K05.d_value_at, K05.d_law_value, K05.d_degree, K05.d_scaled, K05.d_divide, K05.d_monic, K05.d_law_one_right] K05.T16 (by decide +kernel); rw [e.1, e.2]; exact z_law_added_L), (by have e : Same1 K05.T18 K05.T28 "product_of" := same_adds [K05.d_law_times, K05.d_law_product, K05.d_derivative, K05.d_value_at, K05.d_law_value, K05.d_degree, K05.d_scaled, K05.d_divide, K05.d_monic, K05.d_law_one_right] K05.T18 (by decide +kernel); rw [e.1, e.2]; exact z_product_of), (by have e : Same1 K05.T20 K05.T28 "_law_product" := same_adds [K05.d_derivative, K05.d_value_at, K05.d_law_value, K05.d_degree, K05.d_scaled, K05.d_divide, K05.d_monic, K05.d_law_one_right] K05.T20 (by decide +kernel); rw [e.1, e.2]; exact z_law_product_L), z_law_one_right_L⟩
theorem runs : ∀ ns : List Int, ns.length ≤ 63 → runFd K05.T28 big K05.d_law [.val (.scr ns)] = .ok (.bl true, none) := fun ns h => lw_run la h
end K05
theorem PySem.Challenge.cw_tolimit_k05_sums_and_products_of_polynom_holds : PySem.Challenge.rw_tolimit_k05_sums_and_products_of_polynom.Holds :=
  K05.closes fun ns h _ => K05.runs ns h
end
