import PyProof.Rows.All
import Wide.All
import OpenK.AllK
import Wide.FinOn
import KE.KStateDown
import KE.KExcIs
import HandS.Base
import HandS.Call
import HandS.CallRecv
import HandS.List
import HandS.Comp
import HandS.Ends
import HandS.Words
import HandS.WordsExc
import HandS.Dict
import HandS.Iter
import HandS.Exc
import HandS.TryOnly
import HandS.TryMany
import HandS.ExcInit
import HandS.IsInst
import HandS.Wide
import HandS.TupAny
import HandS.TupMul
import HandS.Zip
import HandS.Defaults
import HandS.Conv
import HandS.Head0
import HandS.Head1
import HandS.Head2
import HandS.HeadEnd
import HandS.HeadHook1
import HandS.HeadHook2
import HandS.RaiseMore
import HandS.Text
import HandS.Style
import HandS.Replace
import HandS.Strs
import HandS.TupLe
import PyProof.ReprRoads
import HandS.HotCalls
import KE.GoesEnum
import HandS.WideMore
import HandS.Codes
import PySem.Challenge.RW_picturetide_k01_errors
set_option Elab.async false
set_option linter.all false
set_option maxRecDepth 100000
/-! A pure evaluator for the subset of Python that the laws use. -/
namespace Pv
open PySem PySem.Spec PyProof.Rows L2
/-! ### values, store, results -/
/-- an own class of errors whose __init__ keeps its arguments: its fields, the classes (of those in all) that it is one of -/
structure Xc where
  name : Str
  fs : List Str
  anc : List Str
  all : List Str
  deriving DecidableEq
/-- an own class whose instances are made: its name, its instances' attributes -/
structure Kc where
  name : Str
  fs : List Str
  deriving DecidableEq
inductive Val where
  | non | bl (b : Bool) | int (i : Int) | str (s : Str) | tup (l : List Val) | lst (l : List Val) | scr (l : List Int) | ref (n : Nat) | rng (lo hi c : Int) | exc (d : Xc) (vs : List Val) | gtp (l : List Val)
instance : Inhabited Val := ⟨.non⟩
inductive Ob where
  | lst (l : List Val) | gone | ins (d : Kc) (fs : List (Str × Val)) | dic (l : List (List L2.Key × Val))
abbrev Sto := List Ob
abbrev Env := List (Option Val)
/-- an error: its class, its fields' values -/
structure Xn where
  d : Xc
  vs : List Val
def Xn.v (x : Xn) : Val := .exc x.d x.vs
inductive R (α : Type) where
  | ok (a : α) (st : Sto)
  | exn (x : Xn) (st : Sto)
  | stuck
def R.bind {α β : Type} (r : R α) (f : α → Sto → R β) : R β := match r with
  | .ok a st => f a st
  | .exn x st => .exn x st
  | .stuck => .stuck
@[simp] theorem R.bind_ok {α β : Type} {a : α} {st : Sto} {f : α → Sto → R β} : (R.ok a st).bind f = f a st := rfl
@[simp] theorem R.bind_exn {α β : Type} {x : Xn} {st : Sto} {f : α → Sto → R β} : (R.exn x st : R α).bind f = .exn x st := rfl
@[simp] theorem R.bind_stuck {α β : Type} {f : α → Sto → R β} : (R.stuck : R α).bind f = .stuck := rfl
inductive Fl where
  | nx (l : Env) (st : Sto)
  | ret (v : Val) (st : Sto)
  | brk (l : Env) (st : Sto)
  | cnt (l : Env) (st : Sto)
  | exn (x : Xn) (l : Env) (st : Sto)
  | stuck
/-! ### the text -/
inductive Op where
  | add | sub | mul | fdiv | mod | pow | shl | shr | band
  deriving DecidableEq
inductive Cm where
  | eq | ne | lt | le | gt | ge | is' | isN | in' | nin
  deriving DecidableEq
inductive Cl where
  | int | bool | str | tuple | list
  deriving DecidableEq
inductive Bf where
  | len | abs | int | tuple | min2 | max2 | sum | all | any | repr | rg1 | rg2 | rg3 | max1 | min1
  deriving DecidableEq
/-- targets: a name; a tuple of targets -/
inductive Tg where
  | nm (i : Nat)
  | tp (is : List Nat)
  | ls (is : List Nat)
  | tn (i : Nat) (is : List Nat)
mutual
inductive Xp where
  | var (i : Nat)
  | num (k : Int)
  | bol (b : Bool)
  | non
  | str (s : Str)
  | glo (k : Nat)
  | bin (o : Op) (a b : Xp)
  | neg (a : Xp)
  | cmp (o : Cm) (a b : Xp)
  | chn (o p : Cm) (a b c : Xp)
  | and (a b : Xp)
  | or (a b : Xp)
  | not (a : Xp)
  | ife (c a b : Xp)
  | tup (es : List Xp)
  | lst (m : Bool) (es : List Xp)
  | idx (a i : Xp)
  | slc (m : Bool) (a : Xp) (lo hi : Option Xp)
  | isi (a : Xp) (c : Cl)
  | blt (f : Bf) (es : List Xp)
  | mkl (m : Bool) (a : Xp)
  | cat (m : Bool) (a b : Xp)
  | rep (m : Bool) (a b : Xp)
  | cal (f : Nat) (es : List Xp) (ks : List (Nat × Xp))
  | lc (m : Bool) (e : Xp) (tg : Tg) (it : It) (ifs : List Xp)
  | app (o e : Xp)
  | ext (o e : Xp)
  | att (a : Xp) (f : Str)
  | isx (a : Xp) (C : Str)
  | lc2 (m : Bool) (e : Xp) (tg : Tg) (it : It) (tg1 : Tg) (it1 : It)
  | rev (m : Bool) (a : Xp)
  | ixl (o a : Xp)
  | ixs (o a : Xp)
  | ixg (n : Nat) (a : Xp)
  | fld (o : Xp) (f : Str)
  | mth (C m : Str) (i : Nat) (o : Xp) (es : List Xp) (ks : List (Nat × Xp))
  | mak (d : Kc) (i : Nat) (es : List Xp) (ks : List (Nat × Xp))
  | dnw
  | dgt (d k x : Xp)
  | dix (d k : Xp)
  | din (k d : Xp)
  | iss (a : Xp) (c d : Cl)
  | mkx (d : Xc) (es : List Xp)
  | jn (o a : Xp)
  | upr (o : Xp)
  | spl (m : Bool) (o a : Xp)
inductive It where
  | rng (es : List Xp)
  | seq (e : Xp)
  | zip (a b : Xp)
  | enm (a : Xp)
end
mutual
inductive Sm where
  | set (i : Nat) (e : Xp)
  | asg (tg : Tg) (e : Xp)
  | par (is : List Nat) (es : List Xp)
  | aug (i : Nat) (o : Op) (e : Xp)
  | setI (a i e : Xp)
  | setS (a lo hi e : Xp)
  | exp (e : Xp)
  | ret (e : Xp)
  | retN
  | ife (c : Xp) (a b : List Sm)
  | for' (tg : Tg) (it : It) (b : List Sm)
  | whl (c : Xp) (b : List Sm)
  | brk | cnt | pas
  | try' (b : List Sm)
  | frz (i : Nat)
  | raise (d : Xc) (es : List Xp)
  | tryx (b : List Sm) (hs : List Hd)
  | setF (o : Xp) (f : Str) (e : Xp)
  | augF (o : Xp) (f : Str) (op : Op) (e : Xp)
  | setD (d k e : Xp)
/-- except C as (slot i): b -/
inductive Hd where
  | mk (C : Str) (i : Option Nat) (b : List Sm)
end
end Pv

set_option Elab.async false
set_option linter.all false
set_option maxRecDepth 100000
namespace Pv
open PySem PySem.Spec PyProof.Rows L2

noncomputable section
open Classical
/-! ### small functions -/
def lview (st : Sto) : Val → Option (List Val)
  | .lst l => some l
  | .ref n => match st[n]? with
    | some (.lst l) => some l
    | _ => none
  | _ => none
def sview (st : Sto) : Val → Option (List Val)
  | .tup l => some l
  | .gtp l => some l
  | .scr l => some (l.map .int)
  | .lst l => some l
  | .ref n => match st[n]? with
    | some (.lst l) => some l
    | _ => none
  | _ => none
def newL (m : Bool) (l : List Val) (st : Sto) : R Val := match m with
  | true => .ok (.ref st.length) (st ++ [.lst l])
  | false => .ok (.lst l) st
mutual
def toD0 : Val → Option PyData
  | .non => some .none
  | .bl b => some (.bool b)
  | .int i => some (.int i)
  | .str s => some (.str s)
  | .tup l => (toDs0 l).map .tuple
  | .lst l => (toDs0 l).map .list
  | .scr l => some (.list (l.map .int))
  | .ref _ => none
  | .rng _ _ _ => none
  | .exc _ _ => none
  | .gtp l => (toDs0 l).map .tuple
def toDs0 : List Val → Option (List PyData)
  | [] => some []
  | x :: xs => match toD0 x, toDs0 xs with
    | some d, some ds => some (d :: ds)
    | _, _ => none
end
def toD (st : Sto) (v : Val) : Option PyData := match v with
  | .ref n => (match st[n]? with
    | some (.lst l) => (toDs0 l).map .list
    | _ => none)
  | v => toD0 v
def mulOk (i j : Int) : Prop := (-(2 ^ 64) < i ∧ i < 2 ^ 64) ∨ (-(2 ^ 64) < j ∧ j < 2 ^ 64) ∨ i.natAbs.log2 + j.natAbs.log2 < 1000000
def divOk (i j : Int) : Prop := 0 < j ∧ (j.natAbs.log2 < 9000 ∨ i.natAbs.log2 ≤ j.natAbs.log2 + 4470)
def powOk (i j : Int) : Prop := 0 ≤ j ∧ j ≤ 1000000 ∧ i.natAbs < 2 ^ 64
def opI : Op → Int → Int → Option Int
  | .add, i, j => some (i + j)
  | .sub, i, j => some (i - j)
  | .mul, i, j => if mulOk i j then some (i * j) else none
  | .fdiv, i, j => if divOk i j then some (i / j) else none
  | .mod, i, j => if 0 < j then some (i % j) else none
  | .pow, i, j => if powOk i j then some (i ^ j.toNat) else none
  | .shl, i, j => if powOk i j then some (i * 2 ^ j.toNat) else none
  | .shr, i, j => if 0 ≤ j then some (i / 2 ^ j.toNat) else none
  | .band, i, j => some (Builtin.bitAnd i j)
def strRep (z : Str) (n : Int) : Str := if n < 1 then Str.empty else if (n == 1 || z.length == 0) = true then z else ⟨(List.replicate n.toNat z.cps).foldl (· ++ ·) #[]⟩
def binEv (o : Op) (a b : Val) (st : Sto) : R Val := match a, b with
  | .int i, .int j => (match opI o i j with
    | some k => .ok (.int k) st
    | none => .stuck)
  | .tup xs, .tup ys => (match o with
    | .add => if xs.length + ys.length ≤ sizeLine then .ok (.tup (xs ++ ys)) st else .stuck
    | _ => .stuck)
  | .tup xs, .int k => (match o with
    | .mul => if xs ≠ [] ∧ -1000 ≤ k ∧ k ≤ 1000 ∧ xs.length ≤ 1000 then .ok (.tup (List.replicate k.toNat xs).flatten) st else .stuck
    | _ => .stuck)
  | .str x, .str y => (match o with
    | .add => if x.length + y.length ≤ sizeLine then .ok (.str (x ++ y)) st else .stuck
    | _ => .stuck)
  | .str x, .int k => (match o with
    | .mul => if x.length ≤ 1000 ∧ -1000 ≤ k ∧ k ≤ 1000 then .ok (.str (strRep x k)) st else .stuck
    | _ => .stuck)
  | _, _ => .stuck
def eqEv (st : Sto) (a b : Val) : Option Bool := match a, b with
  | .int i, .int j => some (decide (i = j))
  | .bl i, .bl j => some (decide (i = j))
  | .str i, .str j => some (decide (i = j))
  | a, b => (match toD st a, toD st b with
    | some d, some e => if SeqAt.shaped d = true ∧ SeqAt.shaped e = true then some (PyData.eqv d e) else none
    | _, _ => none)
def flat : Val → Bool
  | .non => true
  | .bl _ => true
  | .int _ => true
  | .str _ => true
  | _ => false
def feq : Val → Val → Bool
  | .non, .non => true
  | .bl a, .bl b => a == b
  | .bl a, .int b => (if a then 1 else 0) == b
  | .int a, .bl b => a == (if b then 1 else 0)
  | .int a, .int b => a == b
  | .str a, .str b => a == b
  | _, _ => false
def inSeq (st : Sto) (a b : Val) : Option Bool := match sview st b with
  | some l => if flat a = true ∧ l.all flat = true then some (l.any fun y => feq y a) else none
  | none => none
def inEv (st : Sto) (a b : Val) : Option Bool := match a, b with
  | .int i, .rng lo hi c => some (Builtin.Range.rangePlace? lo hi c i).isSome
  | .str i, .str j => some (!(Builtin.Str.occurrences j i 0 j.length 1).isEmpty)
  | a, b => inSeq st a b
def isNon : Val → Bool
  | .non => true
  | _ => false
def cmEv (o : Cm) (a b : Val) (st : Sto) : R Val := match o with
  | .eq => (match eqEv st a b with
    | some c => .ok (.bl c) st
    | none => .stuck)
  | .ne => (match eqEv st a b with
    | some c => .ok (.bl (!c)) st
    | none => .stuck)
  | .lt => (match a, b with
    | .int i, .int j => .ok (.bl (decide (i < j))) st
    | _, _ => .stuck)
  | .le => (match a, b with
    | .int i, .int j => .ok (.bl (decide (i ≤ j))) st
    | _, _ => .stuck)
  | .gt => (match a, b with
    | .int i, .int j => .ok (.bl (decide (j < i))) st
    | _, _ => .stuck)
  | .ge => (match a, b with
    | .int i, .int j => .ok (.bl (decide (j ≤ i))) st
    | _, _ => .stuck)
  | .is' => (match a, b with
    | .bl i, .bl j => .ok (.bl (decide (i = j))) st
    | a, .non => .ok (.bl (isNon a)) st
    | _, _ => .stuck)
  | .isN => (match a, b with
    | .bl i, .bl j => .ok (.bl (!decide (i = j))) st
    | a, .non => .ok (.bl (!isNon a)) st
    | _, _ => .stuck)
  | .in' => (match inEv st a b with
    | some c => .ok (.bl c) st
    | none => .stuck)
  | .nin => (match inEv st a b with
    | some c => .ok (.bl (!c)) st
    | none => .stuck)
def idxEv (a i : Val) (st : Sto) : R Val := match sview st a, i with
  | some l, .int k => (match L2.atI l k with
    | some v => .ok v st
    | none => .stuck)
  | none, .int k => (match a with
    | .str z => (match L2.atI z.cps.toList k with
      | some c => if z.length ≤ sizeLine then .ok (.str ⟨#[c]⟩) st else .stuck
      | none => .stuck)
    | _ => .stuck)
  | _, _ => .stuck
def cutL (xs : List Val) (lo hi : Option Int) : List Val := (xs.drop (HT.sIx xs.length 0 lo)).take (HT.sIx xs.length xs.length hi - HT.sIx xs.length 0 lo)
def slcEv (m : Bool) (a : Val) (lo hi : Option Int) (st : Sto) : R Val := match a with
  | .tup l => .ok (.tup (cutL l lo hi)) st
  | .str z => if z.length ≤ sizeLine then .ok (.str (L2.cutS z lo hi)) st else .stuck
  | a => (match lview st a with
    | some l => newL m (cutL l lo hi) st
    | none => .stuck)
def revEv (m : Bool) (a : Val) (st : Sto) : R Val := match a with
  | .tup l => .ok (.tup l.reverse) st
  | a => (match lview st a with
    | some l => newL m l.reverse st
    | none => .stuck)
/-- the first place of an equal one -/
def fstI (x : Val) : List Val → Nat → Option Nat
  | [], _ => none
  | y :: ys, k => if feq y x = true then some k else fstI x ys (k + 1)
def ixEv (l : List Val) (x : Val) (st : Sto) : R Val := if flat x = true ∧ l.all flat = true then (match fstI x l 0 with
  | some j => .ok (.int j) st
  | none => .stuck) else .stuck
def ixlEv (a x : Val) (st : Sto) : R Val := match lview st a with
  | some l => ixEv l x st
  | none => .stuck
def ixsEv (a x : Val) (st : Sto) : R Val := match a, x with
  | .str z, .str y => (match Builtin.Str.occurrences z y 0 z.length 1 with
    | i :: _ => .ok (.int i) st
    | [] => .stuck)
  | _, _ => .stuck
def maxL : List Int → Int
  | [] => 0
  | [x] => x
  | x :: xs => if maxL xs < x then x else maxL xs
def minL : List Int → Int
  | [] => 0
  | [x] => x
  | x :: xs => if x < minL xs then x else minL xs
def isiEv (st : Sto) (c : Cl) (a : Val) : Option Bool := match a, c with
  | .non, _ => some false
  | .bl _, .int => some true
  | .bl _, .bool => some true
  | .bl _, _ => some false
  | .int _, .int => some true
  | .int _, _ => some false
  | .str _, .str => some true
  | .str _, _ => some false
  | .tup _, .tuple => some true
  | .tup _, _ => some false
  | .lst _, .list => some true
  | .lst _, _ => some false
  | .scr _, .list => some true
  | .scr _, _ => some false
  | .rng _ _ _, _ => none
  | .exc _ _, _ => none
  | .gtp _, _ => none
  | .ref n, c => (match st[n]? with
    | some (.lst _) => some (decide (c = .list))
    | _ => none)
def issEv (st : Sto) (c d : Cl) (a : Val) : Option Bool := match isiEv st c a, isiEv st d a with
  | some x, some y => some (x || y)
  | _, _ => none
def allS : List Val → Option (List Str)
  | [] => some []
  | .str z :: r => (allS r).map (z :: ·)
  | _ :: _ => none
/-- x.join(list) -/
def jnEv (x y : Val) (st : Sto) : R Val := match x, (lview st y).bind allS with
  | .str z, some ys => if (ys.map (·.length)).sum + ys.length * z.length ≤ 16777216 then .ok (.str (Txt.join z ys)) st else .stuck
  | _, _ => .stuck
def uprEv (x : Val) (st : Sto) : R Val := match x with
  | .str z => if z.length ≤ 5592405 then .ok (.str (Txt.upper z)) st else .stuck
  | _ => .stuck
def splEv (m : Bool) (x y : Val) (st : Sto) : R Val := match x, y with
  | .str a, .str b => if (b.length == 0) = false ∧ a.length + 2 ≤ sizeLine then newL m ((Txt.split a b).map .str) st else .stuck
  | _, _ => .stuck
def allI : List Val → Option (List Int)
  | [] => some []
  | .int i :: r => (allI r).map (i :: ·)
  | _ :: _ => none
def allB : List Val → Option (List Bool)
  | [] => some []
  | .bl i :: r => (allB r).map (i :: ·)
  | _ :: _ => none
def isObj : Val → Bool
  | .tup _ => true
  | .lst _ => true
  | .scr _ => true
  | .ref _ => true
  | _ => false
def shOk (d : PyData) : Prop := d.showable = true ∧ d.hasDict = false ∧ d.depth ≤ 50 ∧ d.shown.length ≤ sizeLine
def bfEv (f : Bf) (es : List Val) (st : Sto) : R Val := match f, es with
  | .len, [a] => (match sview st a with
    | some l => .ok (.int l.length) st
    | none => (match a with
      | .str z => if z.length ≤ sizeLine then .ok (.int z.length) st else .stuck
      | _ => .stuck))
  | .abs, [.int i] => .ok (.int (if i < 0 then -i else i)) st
  | .int, [.int i] => .ok (.int i) st
  | .int, [.bl k] => .ok (.int (if k then 1 else 0)) st
  | .tuple, [.tup l] => .ok (.tup l) st
  | .tuple, [a] => (match lview st a with
    | some l => .ok (.tup l) st
    | none => .stuck)
  | .min2, [.int i, .int j] => .ok (.int (if j < i then j else i)) st
  | .max2, [.int i, .int j] => .ok (.int (if j > i then j else i)) st
  | .sum, [a] => (match (lview st a).bind allI with
    | some l => .ok (.int l.sum) st
    | none => .stuck)
  | .all, [a] => (match (lview st a).bind allB with
    | some l => .ok (.bl (l.all id)) st
    | none => .stuck)
  | .any, [a] => (match (lview st a).bind allB with
    | some l => .ok (.bl (l.any id)) st
    | none => .stuck)
  | .repr, [.int i] => if i.natAbs.log2 < 1920 then .ok (.str (PyData.shown (.int i))) st else .stuck
  | .repr, [.bl b] => .ok (.str (PyData.shown (.bool b))) st
  | .repr, [.non] => .ok (.str (PyData.shown .none)) st
  | .repr, [.str x] => if (PyData.shown (.str x)).length ≤ sizeLine then .ok (.str (PyData.shown (.str x))) st else .stuck
  | .repr, [a] => (match toD st a with
    | some d => if isObj a = true ∧ shOk d then .ok (.str d.shown) st else .stuck
    | none => .stuck)
  | .max1, [a] => (match (lview st a).bind allI with
    | some (x :: l) => .ok (.int (maxL (x :: l))) st
    | _ => .stuck)
  | .min1, [a] => (match (lview st a).bind allI with
    | some (x :: l) => .ok (.int (minL (x :: l))) st
    | _ => .stuck)
  | .rg1, [.int j] => .ok (.rng 0 j 1) st
  | .rg2, [.int i, .int j] => .ok (.rng i j 1) st
  | .rg3, [.int i, .int j, .int c] => if c ≠ 0 ∧ c.natAbs < 1073741824 then .ok (.rng i j c) st else .stuck
  | _, _ => .stuck
/-- a field of an instance -/
def fldEv (f : Str) (a : Val) (st : Sto) : R Val := match a with
  | .ref n => (match st[n]? with
    | some (.ins d fs) => (match fs.lookup f with
      | some v => if d.fs.contains f = true then .ok v st else .stuck
      | none => .stuck)
    | _ => .stuck)
  | _ => .stuck
def putV (f : Str) (v : Val) : List (Str × Val) → List (Str × Val)
  | [] => [(f, v)]
  | (g, x) :: r => if g = f then (g, v) :: r else (g, x) :: putV f v r
def setFEv (f : Str) (a z : Val) (st : Sto) : Option Sto := match a with
  | .ref n => (match st[n]? with
    | some (.ins d fs) => if d.fs.contains f = true ∧ fs.length < 1000 then some (st.set n (.ins d (putV f z fs))) else none
    | _ => none)
  | _ => none
/-- an instance is made: its __init__ gives None -/
def madeEv (r v : Val) (st : Sto) : R Val := match v with
  | .non => .ok r st
  | _ => .stuck
/-- an instance's class -/
def clsOf (a : Val) (st : Sto) : Option Kc := match a with
  | .ref n => (match st[n]? with
    | some (.ins d _) => some d
    | _ => none)
  | _ => none
/-- an instance whose class has the method m -/
def insOf (C m : Str) (a : Val) (st : Sto) : Bool := match a with
  | .ref n => (match st[n]? with
    | some (.ins d fs) => decide (C = d.name) && (fs.lookup m).isNone
    | _ => false)
  | _ => false
/-- a dict's key: a tuple of ints and strs -/
def keyI : List Val → Option (List L2.Key)
  | [] => some []
  | .int i :: r => (keyI r).map (.inl i :: ·)
  | .str z :: r => (keyI r).map (.inr z :: ·)
  | _ :: _ => none
def keyOf : Val → Option (List L2.Key)
  | .tup l => keyI l
  | _ => none
def dval (kvs : List (List L2.Key × Val)) (k : List L2.Key) : Option Val := (kvs.find? fun kv => decide (kv.1 = k)).map (·.2)
def dput (kvs : List (List L2.Key × Val)) (k : List L2.Key) (v : Val) : List (List L2.Key × Val) :=
  if (kvs.any fun kv => decide (kv.1 = k)) = true then kvs.map (fun kv => if kv.1 = k then (kv.1, v) else kv) else kvs ++ [(k, v)]
def dicOf (st : Sto) : Val → Option (Nat × List (List L2.Key × Val))
  | .ref n => (match st[n]? with
    | some (.dic l) => some (n, l)
    | _ => none)
  | _ => none
/-- d[k], the key there -/
def dixEv (a y : Val) (st : Sto) : R Val := match dicOf st a, keyOf y with
  | some (_, l), some k => (match dval l k with
    | some v => .ok v st
    | none => .stuck)
  | _, _ => .stuck
/-- k in d -/
def dinEv (y a : Val) (st : Sto) : R Val := match dicOf st a, keyOf y with
  | some (_, l), some k => .ok (.bl (dval l k).isSome) st
  | _, _ => .stuck
def dgtEv (a y z : Val) (st : Sto) : R Val := match dicOf st a, keyOf y with
  | some (_, l), some k => .ok ((dval l k).getD z) st
  | _, _ => .stuck
def setDEv (a y z : Val) (st : Sto) : Option Sto := match dicOf st a, keyOf y with
  | some (n, l), some k => if l.length < sizeLine then some (st.set n (.dic (dput l k z))) else none
  | _, _ => none
/-- a field of an error -/
def attEv (f : Str) (a : Val) (st : Sto) : R Val := match a with
  | .exc d vs => (match (d.fs.zip vs).lookup f with
    | some v => .ok v st
    | none => .stuck)
  | _ => .stuck
def isxEv (C : Str) (a : Val) : Option Bool := match a with
  | .exc d _ => if d.all.contains C = true then some (d.anc.contains C) else none
  | _ => none
def mklEv (m : Bool) (a : Val) (st : Sto) : R Val := match a with
  | .tup l => newL m l st
  | a => (match lview st a with
    | some l => newL m l st
    | none => .stuck)
def catEv (m : Bool) (a b : Val) (st : Sto) : R Val := match lview st a, lview st b with
  | some x, some y => if x.length + y.length ≤ sizeLine then newL m (x ++ y) st else .stuck
  | _, _ => .stuck
def repEv (m : Bool) (a b : Val) (st : Sto) : R Val := match lview st a, b with
  | some x, .int k => if -(2 ^ 63) ≤ k ∧ k < 2 ^ 63 ∧ x.length * k.toNat ≤ sizeLine then newL m (List.replicate k.toNat x).flatten st else .stuck
  | _, _ => .stuck
def mlist (st : Sto) : Val → Option (Nat × List Val)
  | .ref n => (match st[n]? with
    | some (.lst l) => some (n, l)
    | _ => none)
  | _ => none
def appEv (o e : Val) (st : Sto) : R Val := match mlist st o with
  | some (n, l) => if l.length < sizeLine then .ok .non (st.set n (.lst (l ++ [e]))) else .stuck
  | none => .stuck
def extEv (o e : Val) (st : Sto) : R Val := match mlist st o, lview st e with
  | some (n, l), some x => if l.length + x.length ≤ sizeLine then .ok .non (st.set n (.lst (l ++ x))) else .stuck
  | _, _ => .stuck
def setIEv (o i e : Val) (st : Sto) : Option Sto := match mlist st o, i with
  | some (n, l), .int k => (match L2.ixN l.length k with
    | some j => some (st.set n (.lst (l.set j e)))
    | none => none)
  | _, _ => none
def setSEv (o u w z : Val) (st : Sto) : Option Sto := match mlist st o, z, u, w with
  | some (n, l), .lst ys, .int i, .int j => if 0 ≤ i ∧ i ≤ j ∧ j ≤ l.length ∧ l.length + ys.length ≤ sizeLine then some (st.set n (.lst (l.take i.toNat ++ ys ++ l.drop j.toNat))) else none
  | _, _, _, _ => none
def truth (st : Sto) (v : Val) : Option Bool := match v with
  | .non => some false
  | .bl b => some b
  | .int i => some (i != 0)
  | v => (match sview st v with
    | some l => some (!l.isEmpty)
    | none => none)
/-- as a test: the truth -/
def fin (t : Bool) (r : R Val) : R Val := match t with
  | false => r
  | true => r.bind fun v st => match truth st v with
    | some b => .ok (.bl b) st
    | none => .stuck
@[simp] theorem fin_false {r : R Val} : fin false r = r := rfl
theorem fin_true {r : R Val} : fin true r = r.bind fun v st => match truth st v with
    | some b => .ok (.bl b) st
    | none => .stuck := rfl
@[simp] theorem fin_bl {t : Bool} {b : Bool} {st : Sto} : fin t (.ok (.bl b) st) = .ok (.bl b) st := by cases t <;> rfl
@[simp] theorem fin_stuck {t : Bool} : fin t .stuck = .stuck := by cases t <;> rfl
/-! ### targets -/
def setAll : List Nat → List Val → Env → Env
  | i :: is, v :: vs, l => setAll is vs (l.set i (some v))
  | _, _, l => l
def tgSet (tg : Tg) (v : Val) (l : Env) : Option Env := match tg, v with
  | .nm i, v => some (l.set i (some v))
  | .tp is, .tup vs => if is.length = vs.length then some (setAll is vs l) else none
  | .ls is, .lst vs => if is.length = vs.length then some (setAll is vs l) else none
  | .tn i is, .tup [v, .tup vs] => if is.length = vs.length then some (setAll is vs (l.set i (some v))) else none
  | _, _ => none
def Tg.slots : Tg → List Nat
  | .nm i => [i]
  | .tp is => is
  | .ls is => is
  | .tn i is => i :: is
def wipeE (l : Env) : List Nat → Env
  | [] => l
  | v :: vs => (wipeE l vs).set v none
/-! ### what is walked -/
/-- the items, and the lists that must stand while they are walked -/
abbrev Its := List Val × List (Nat × List Val)
def gst (st : Sto) (v : Val) : List (Nat × List Val) := match mlist st v with
  | some p => [p]
  | none => []
def guardOk (st : Sto) (g : List (Nat × List Val)) : Prop := ∀ p ∈ g, st[p.1]? = some (.lst p.2)
def rngC (i j c : Int) : Prop := c ≠ 0 ∧ c.natAbs < 1073741824 ∧ Builtin.Range.small i j c = true
def rngL (lo c : Int) (n : Nat) : List Val := (List.range n).map fun k => Val.int (lo + (k : Nat) * c)
def inR (i : Int) : Prop := -(2 ^ 62) ≤ i ∧ i < 2 ^ 62
def rngEv (es : List Val) (st : Sto) : R Its := match es with
  | [.int j] => if inR j then .ok (rngL 0 1 j.toNat, []) st else .stuck
  | [.int i, .int j] => if inR i ∧ inR j then .ok (rngL i 1 (j - i).toNat, []) st else .stuck
  | [.int i, .int j, .int c] => if rngC i j c then .ok (rngL i c (Builtin.Range.rangeSize i j c).toNat, []) st else .stuck
  | _ => .stuck
def smallR (i j c : Int) : Prop := Builtin.Range.small i j c = true
/-- a text's signs -/
def strL (z : Str) : List Val := z.cps.toList.map fun c => .str ⟨#[c]⟩
/-- a value that is walked -/
def seqV (x : Val) (st : Sto) : R Its := match x with
  | .rng lo hi d => if smallR lo hi d then .ok (rngL lo d (Builtin.Range.rangeSize lo hi d).toNat, []) st else .stuck
  | .str z => .ok (strL z, []) st
  | x => match sview st x with
    | some xs => .ok (xs, gst st x) st
    | none => .stuck
@[simp] theorem seqV_str {z : Str} {st : Sto} : seqV (.str z) st = .ok (strL z, []) st := rfl
@[simp] theorem seqV_tup {l : List Val} {st : Sto} : seqV (.tup l) st = .ok (l, []) st := rfl
@[simp] theorem seqV_gtp {l : List Val} {st : Sto} : seqV (.gtp l) st = .ok (l, []) st := rfl
@[simp] theorem seqV_lst {l : List Val} {st : Sto} : seqV (.lst l) st = .ok (l, []) st := rfl
@[simp] theorem seqV_scr {l : List Int} {st : Sto} : seqV (.scr l) st = .ok (l.map .int, []) st := rfl
@[simp] theorem seqV_ref {n : Nat} {st : Sto} : seqV (.ref n) st = match sview st (.ref n) with
    | some xs => .ok (xs, gst st (.ref n)) st
    | none => .stuck := rfl
def zipV : List Val → List Val → List Val
  | x :: xs, y :: ys => .tup [x, y] :: zipV xs ys
  | _, _ => []
/-- items with their places -/
def enmV (l : List Val) : List Val := (List.range l.length).map fun (i : Nat) => Val.tup [.int i, l.getD i .non]
def enumEv (a : Val) (st : Sto) : R Its := match a with
  | .tup x => .ok (enmV x, []) st
  | .gtp x => .ok (enmV x, []) st
  | a => (match lview st a with
    | some x => .ok (enmV x, gst st a) st
    | none => .stuck)
def zipEv (a b : Val) (st : Sto) : R Its := match a, b with
  | .tup x, .tup y => .ok (zipV x y, []) st
  | a, b => (match lview st a, lview st b with
    | some x, some y => .ok (zipV x y, gst st a ++ gst st b) st
    | _, _ => .stuck)
/-! ### comprehensions, loops -/
def lcL (body : Val → Sto → R (Option Val)) (g : List (Nat × List Val)) : List Val → List Val → Sto → R (List Val)
  | [], acc, st => if guardOk st g then .ok acc st else .stuck
  | v :: vs, acc, st => if guardOk st g then (match body v st with
    | .ok (some x) st' => if acc.length < sizeLine then lcL body g vs (acc ++ [x]) st' else .stuck
    | .ok none st' => lcL body g vs acc st'
    | .exn _ _ => .stuck
    | .stuck => .stuck) else .stuck
/-- .. of two clauses -/
def lcO (inner : Val → List Val → Sto → R (List Val)) (g : List (Nat × List Val)) : List Val → List Val → Sto → R (List Val)
  | [], acc, st => if guardOk st g then .ok acc st else .stuck
  | v :: vs, acc, st => if guardOk st g then (match inner v acc st with
    | .ok acc st => lcO inner g vs acc st
    | _ => .stuck) else .stuck
def forL (body : Env → Sto → Fl) (tg : Tg) (g : List (Nat × List Val)) : List Val → Env → Sto → Fl
  | [], l, st => if guardOk st g then .nx l st else .stuck
  | v :: vs, l, st => if guardOk st g then (match tgSet tg v l with
    | none => .stuck
    | some l1 => match body l1 st with
      | .nx l2 st2 => forL body tg g vs l2 st2
      | .cnt l2 st2 => forL body tg g vs l2 st2
      | .brk l2 st2 => .nx l2 st2
      | .ret v st2 => .ret v st2
      | .exn x l2 st2 => .exn x l2 st2
      | .stuck => .stuck) else .stuck
def whL (c : Env → Sto → R Val) (body : Env → Sto → Fl) : Nat → Env → Sto → Fl
  | 0, _, _ => .stuck
  | n + 1, l, st => match c l st with
    | .ok (.bl true) st1 => (match body l st1 with
      | .nx l2 st2 => whL c body n l2 st2
      | .cnt l2 st2 => whL c body n l2 st2
      | .brk l2 st2 => .nx l2 st2
      | .ret v st2 => .ret v st2
      | .exn x l2 st2 => .exn x l2 st2
      | .stuck => .stuck)
    | .ok (.bl false) st1 => .nx l st1
    | .ok _ _ => .stuck
    | .exn x st1 => .exn x l st1
    | .stuck => .stuck
/-- the turns that a while may take -/
def wfuel : Nat := 1000000000
theorem wfuel_eq : wfuel = 1000000000 := rfl
/-- the arguments in the parameters' order -/
def putK (xs : List Val) (zs : List (Nat × Val)) : List Val := match zs with
  | [] => xs
  | zs => (List.range (xs.length + zs.length)).map fun i => (xs[i]?).getD ((zs.lookup i).getD .non)
abbrev CallT := Nat → List Val → Sto → R Val
/-- what the calls do; the globals that are read -/
structure Cn where
  call : CallT
  G : List (Str × Val)
mutual
def ev (c : Cn) (t : Bool) : Xp → Env → Sto → R Val
  | .var i, l, st => (match l[i]? with
    | some (some v) => fin t (.ok v st)
    | _ => .stuck)
  | .num k, _, st => fin t (.ok (.int k) st)
  | .bol b, _, st => .ok (.bl b) st
  | .non, _, st => fin t (.ok .non st)
  | .str s, _, st => fin t (.ok (.str s) st)
  | .glo k, _, st => (match c.G[k]? with
    | some p => fin t (.ok p.2 st)
    | none => .stuck)
  | .bin o a b, l, st => (ev c false a l st).bind fun x st => (ev c false b l st).bind fun y st => fin t (binEv o x y st)
  | .neg a, l, st => (ev c false a l st).bind fun x st => match x with
    | .int i => fin t (.ok (.int (-i)) st)
    | _ => .stuck
  | .cmp o a b, l, st => (ev c false a l st).bind fun x st => (ev c false b l st).bind fun y st => cmEv o x y st
  | .chn o p a b d, l, st => (ev c false a l st).bind fun x st => (ev c false b l st).bind fun y st => (cmEv o x y st).bind fun r st => match r with
    | .bl true => (ev c false d l st).bind fun z st => cmEv p y z st
    | .bl false => .ok (.bl false) st
    | _ => .stuck
  | .and a b, l, st => (ev c t a l st).bind fun x st => match x with
    | .bl true => ev c t b l st
    | .bl false => .ok (.bl false) st
    | _ => .stuck
  | .or a b, l, st => (ev c t a l st).bind fun x st => match x with
    | .bl true => .ok (.bl true) st
    | .bl false => ev c t b l st
    | _ => .stuck
  | .not a, l, st => (ev c t a l st).bind fun x st => match x with
    | .bl b => .ok (.bl (!b)) st
    | _ => .stuck
  | .ife d a b, l, st => match t with
    | true => .stuck
    | false => (ev c true d l st).bind fun x st => match x with
      | .bl true => ev c false a l st
      | .bl false => ev c false b l st
      | _ => .stuck
  | .tup es, l, st => (evs c es l st).bind fun xs st => if xs.length ≤ sizeLine then fin t (.ok (.tup xs) st) else .stuck
  | .lst m es, l, st => (evs c es l st).bind fun xs st => if xs.length ≤ sizeLine then fin t (newL m xs st) else .stuck
  | .idx a i, l, st => (ev c false a l st).bind fun x st => (ev c false i l st).bind fun y st => fin t (idxEv x y st)
  | .slc m a lo hi, l, st => (ev c false a l st).bind fun x st => (evo c lo l st).bind fun u st => (evo c hi l st).bind fun w st => fin t (slcEv m x u w st)
  | .isi a k, l, st => (ev c false a l st).bind fun x st => match isiEv st k x with
    | some b => .ok (.bl b) st
    | none => .stuck
  | .blt f es, l, st => (evs c es l st).bind fun xs st => fin t (bfEv f xs st)
  | .mkl m a, l, st => (ev c false a l st).bind fun x st => fin t (mklEv m x st)
  | .cat m a b, l, st => (ev c false a l st).bind fun x st => (ev c false b l st).bind fun y st => fin t (catEv m x y st)
  | .rep m a b, l, st => (ev c false a l st).bind fun x st => (ev c false b l st).bind fun y st => fin t (repEv m x y st)
  | .cal f es ks, l, st => (evs c es l st).bind fun xs st => (evk c ks l st).bind fun zs st => fin t (c.call f (putK xs zs) st)
  | .lc m e tg it ifs, l, st => (evi c it l st).bind fun J st =>
      (lcL (fun v st => match tgSet tg v (wipeE l tg.slots) with
        | none => .stuck
        | some l1 => (evf c ifs l1 st).bind fun b st => match b with
          | true => (ev c false e l1 st).bind fun x st => .ok (some x) st
          | false => .ok none st) J.2 J.1 [] st).bind fun xs st => fin t (newL m xs st)
  | .app o e, l, st => (ev c false o l st).bind fun x st => match mlist st x with
    | none => .stuck
    | some _ => (ev c false e l st).bind fun y st => fin t (appEv x y st)
  | .ext o e, l, st => (ev c false o l st).bind fun x st => match mlist st x with
    | none => .stuck
    | some _ => (ev c false e l st).bind fun y st => fin t (extEv x y st)
  | .lc2 m e tg it tg1 it1, l, st => (evi c it l st).bind fun J st =>
      (lcO (fun v acc st => match tgSet tg v (wipeE l (tg.slots ++ tg1.slots)) with
        | none => .stuck
        | some l1 => match evi c it1 l1 st with
          | .ok J1 st => lcL (fun v st => match tgSet tg1 v (wipeE l1 tg1.slots) with
            | none => .stuck
            | some l2 => (ev c false e l2 st).bind fun x st => .ok (some x) st) J1.2 J1.1 acc st
          | _ => .stuck) J.2 J.1 [] st).bind fun xs st => fin t (newL m xs st)
  | .att a f, l, st => (ev c false a l st).bind fun x st => fin t (attEv f x st)
  | .rev m a, l, st => (ev c false a l st).bind fun x st => fin t (revEv m x st)
  | .ixl o a, l, st => (ev c false o l st).bind fun x st => match lview st x with
    | none => .stuck
    | some _ => (ev c false a l st).bind fun y st => fin t (ixlEv x y st)
  | .ixs o a, l, st => (ev c false o l st).bind fun x st => match x with
    | .str z => (ev c false a l st).bind fun y st => fin t (ixsEv (.str z) y st)
    | _ => .stuck
  | .ixg n a, l, st => (ev c false a l st).bind fun y st => match c.G[n]? with
    | some (_, .gtp l') => fin t (ixEv l' y st)
    | _ => .stuck
  | .fld a f, l, st => (ev c false a l st).bind fun x st => fin t (fldEv f x st)
  | .mth C m i o es ks, l, st => (ev c false o l st).bind fun x st => if insOf C m x st = true then (evs c es l st).bind fun xs st => (evk c ks l st).bind fun zs st => fin t (c.call i (putK (x :: xs) zs) st) else .stuck
  | .mak d i es ks, l, st => (evs c es l st).bind fun xs st => (evk c ks l st).bind fun zs st => fin t ((c.call i (putK (.ref st.length :: xs) zs) (st ++ [.ins d []])).bind fun v st' => madeEv (.ref st.length) v st')
  | .dnw, l, st => fin t (.ok (.ref st.length) (st ++ [.dic []]))
  | .dix d k, l, st => (ev c false d l st).bind fun a st => (ev c false k l st).bind fun y st => fin t (dixEv a y st)
  | .din k d, l, st => (ev c false k l st).bind fun y st => (ev c false d l st).bind fun a st => dinEv y a st
  | .dgt d k x, l, st => (ev c false d l st).bind fun a st => match dicOf st a with
    | none => .stuck
    | some _ => (ev c false k l st).bind fun y st => (ev c false x l st).bind fun z st => fin t (dgtEv a y z st)
  | .isx a C, l, st => (ev c false a l st).bind fun x st => match isxEv C x with
    | some b => .ok (.bl b) st
    | none => .stuck
  | .mkx d es, l, st => (evs c es l st).bind fun xs st => if xs.length = d.fs.length then fin t (.ok (.exc d xs) st) else .stuck
  | .iss a k k2, l, st => (ev c false a l st).bind fun x st => match issEv st k k2 x with
    | some b => .ok (.bl b) st
    | none => .stuck
  | .jn o a, l, st => (ev c false o l st).bind fun x st => match x with
    | .str z => (ev c false a l st).bind fun y st => fin t (jnEv (.str z) y st)
    | _ => .stuck
  | .upr o, l, st => (ev c false o l st).bind fun x st => fin t (uprEv x st)
  | .spl m o a, l, st => (ev c false o l st).bind fun x st => match x with
    | .str z => (ev c false a l st).bind fun y st => fin t (splEv m (.str z) y st)
    | _ => .stuck
def evs (c : Cn) : List Xp → Env → Sto → R (List Val)
  | [], _, st => .ok [] st
  | e :: es, l, st => (ev c false e l st).bind fun x st => (evs c es l st).bind fun xs st => .ok (x :: xs) st
def evo (c : Cn) : Option Xp → Env → Sto → R (Option Int)
  | none, _, st => .ok none st
  | some e, l, st => (ev c false e l st).bind fun x st => match x with
    | .int i => .ok (some i) st
    | _ => .stuck
def evk (c : Cn) : List (Nat × Xp) → Env → Sto → R (List (Nat × Val))
  | [], _, st => .ok [] st
  | (k, e) :: es, l, st => (ev c false e l st).bind fun x st => (evk c es l st).bind fun xs st => .ok ((k, x) :: xs) st
def evf (c : Cn) : List Xp → Env → Sto → R Bool
  | [], _, st => .ok true st
  | e :: es, l, st => (ev c true e l st).bind fun x st => match x with
    | .bl true => evf c es l st
    | .bl false => .ok false st
    | _ => .stuck
def evi (c : Cn) : It → Env → Sto → R Its
  | .rng es, l, st => (evs c es l st).bind fun xs st => rngEv xs st
  | .seq e, l, st => (ev c false e l st).bind fun x st => seqV x st
  | .zip a b, l, st => (ev c false a l st).bind fun x st => (ev c false b l st).bind fun y st => zipEv x y st
  | .enm a, l, st => (ev c false a l st).bind fun x st => enumEv x st
end
/-! ### statements -/
def R.fl {α : Type} (r : R α) (l : Env) (f : α → Sto → Fl) : Fl := match r with
  | .ok v st => f v st
  | .exn x st => .exn x l st
  | .stuck => .stuck
@[simp] theorem R.fl_ok {α : Type} {l : Env} {v : α} {st : Sto} {f : α → Sto → Fl} : (R.ok v st).fl l f = f v st := rfl
@[simp] theorem R.fl_exn {α : Type} {l : Env} {x : Xn} {st : Sto} {f : α → Sto → Fl} : (R.exn x st).fl l f = .exn x l st := rfl
@[simp] theorem R.fl_stuck {α : Type} {l : Env} {f : α → Sto → Fl} : (R.stuck).fl l f = .stuck := rfl
mutual
def pureV : Val → Bool
  | .tup l => pureVs l
  | .lst l => pureVs l
  | .exc _ l => pureVs l
  | .gtp l => pureVs l
  | .ref _ => false
  | _ => true
def pureVs : List Val → Bool
  | [] => true
  | x :: xs => pureV x && pureVs xs
end
/-- a list of one's own becomes one that stands: its items hold none of one's own, or lists of such -/
def thaw1 (st : Sto) (v : Val) : Option (Val × List Nat) := match v with
  | .ref n => (match st[n]? with
    | some (.lst l) => if pureVs l = true then some (.lst l, [n]) else none
    | _ => none)
  | v => if pureV v = true then some (v, []) else none
def thawL (st : Sto) : List Val → Option (List Val × List Nat)
  | [] => some ([], [])
  | v :: vs => match thaw1 st v, thawL st vs with
    | some (x, a), some (xs, b) => some (x :: xs, a ++ b)
    | _, _ => none
def killAll : List Nat → Sto → Sto
  | [], st => st
  | n :: ns, st => killAll ns (st.set n .gone)
def frzEv (i : Nat) (l : Env) (st : Sto) : Fl := match l[i]? with
  | some (some (.ref n)) => (match st[n]? with
    | some (.lst xs) => (match thawL st xs with
      | some (ys, ns) => .nx (l.set i (some (.lst ys))) (killAll (n :: ns) st)
      | none => .stuck)
    | _ => .stuck)
  | _ => .stuck
/-- the name of an except clause, ahead of its suite and behind it -/
def bindX (i : Option Nat) (x : Xn) (l : Env) : Env := match i with
  | some i => l.set i (some x.v)
  | none => l
def unbX (i : Option Nat) (l : Env) : Env := match i with
  | some i => l.set i none
  | none => l
def catchEv (i : Option Nat) (r : Fl) : Fl := match r with
  | .nx l st => .nx (unbX i l) st
  | .ret v st => .ret v st
  | .brk l st => .brk (unbX i l) st
  | .cnt l st => .cnt (unbX i l) st
  | .exn _ _ _ => .stuck
  | .stuck => .stuck
mutual
def evS (c : Cn) : Sm → Env → Sto → Fl
  | .set i e, l, st => (ev c false e l st).fl l fun x st => .nx (l.set i (some x)) st
  | .asg tg e, l, st => (ev c false e l st).fl l fun x st => match tgSet tg x l with
    | some l1 => .nx l1 st
    | none => .stuck
  | .par is es, l, st => (evs c es l st).fl l fun xs st => match is, xs with
    | [i, j], [u, v] => .nx ((l.set i (some u)).set j (some v)) st
    | [i, j, k], [u, v, w] => .nx (((l.set i (some u)).set j (some v)).set k (some w)) st
    | _, _ => .stuck
  | .aug i o e, l, st => (match l[i]? with
    | some (some x) => (ev c false e l st).fl l fun y st => (match x, y with
      | .int a, .int b => (match opI o a b with
        | some k => .nx (l.set i (some (.int k))) st
        | none => .stuck)
      | _, _ => .stuck)
    | _ => .stuck)
  | .setI a i e, l, st => (ev c false e l st).fl l fun z st => (ev c false a l st).fl l fun x st => (ev c false i l st).fl l fun y st => match setIEv x y z st with
    | some st' => .nx l st'
    | none => .stuck
  | .setS a i j e, l, st => (ev c false e l st).fl l fun z st => (ev c false a l st).fl l fun x st => (ev c false i l st).fl l fun u st => (ev c false j l st).fl l fun w st => match setSEv x u w z st with
    | some st' => .nx l st'
    | none => .stuck
  | .setF a f e, l, st => (ev c false e l st).fl l fun z st => (ev c false a l st).fl l fun x st => match setFEv f x z st with
    | some st' => .nx l st'
    | none => .stuck
  | .augF a f o e, l, st => (ev c false a l st).fl l fun x st1 => (fldEv f x st1).fl l fun u _ => (ev c false e l st1).fl l fun y st => (match u, y with
      | .int i, .int j => (match opI o i j with
        | some k => if clsOf x st = clsOf x st1 then (match setFEv f x (.int k) st with
          | some st' => .nx l st'
          | none => .stuck) else .stuck
        | none => .stuck)
      | _, _ => .stuck)
  | .setD a i e, l, st => (ev c false e l st).fl l fun z st => (ev c false a l st).fl l fun x st => (ev c false i l st).fl l fun y st => match setDEv x y z st with
    | some st' => .nx l st'
    | none => .stuck
  | .exp e, l, st => (ev c false e l st).fl l fun _ st => .nx l st
  | .ret e, l, st => (ev c false e l st).fl l fun x st => .ret x st
  | .retN, l, st => .ret .non st
  | .ife d a b, l, st => (ev c true d l st).fl l fun x st => match x with
    | .bl true => evSs c a l st
    | .bl false => evSs c b l st
    | _ => .stuck
  | .for' tg it b, l, st => (evi c it l st).fl l fun J st => forL (fun l st => evSs c b l st) tg J.2 J.1 l st
  | .whl d b, l, st => whL (fun l st => ev c true d l st) (fun l st => evSs c b l st) wfuel l st
  | .brk, l, st => .brk l st
  | .cnt, l, st => .cnt l st
  | .pas, l, st => .nx l st
  | .try' b, l, st => (match evSs c b l st with
    | .exn _ _ _ => .stuck
    | r => r)
  | .frz i, l, st => frzEv i l st
  | .raise d es, l, st => (evs c es l st).fl l fun xs st => if xs.length = d.fs.length then .exn ⟨d, xs⟩ l st else .stuck
  | .tryx b hs, l, st => (match evSs c b l st with
    | .exn x l st => evHs c hs x l st
    | r => r)
def evHs (c : Cn) : List Hd → Xn → Env → Sto → Fl
  | [], x, l, st => .exn x l st
  | .mk C i b :: hs, x, l, st => match x.d.all.contains C, x.d.anc.contains C with
    | true, true => catchEv i (evSs c b (bindX i x l) st)
    | true, false => evHs c hs x l st
    | false, _ => .stuck
def evSs (c : Cn) : List Sm → Env → Sto → Fl
  | [], l, st => .nx l st
  | s :: ss, l, st => (match evS c s l st with
    | .nx l st => evSs c ss l st
    | r => r)
end
/-! ### defs -/
structure Fd where
  name : Str
  ps : Nat
  N : List Str
  body : List Sm
  own : Option Str
mutual
def belowV (n : Nat) : Val → Bool
  | .tup l => belowVs n l
  | .lst l => belowVs n l
  | .exc _ l => belowVs n l
  | .gtp l => belowVs n l
  | .ref k => decide (k < n)
  | _ => true
def belowVs (n : Nat) : List Val → Bool
  | [] => true
  | x :: xs => belowV n x && belowVs n xs
end
def belowO (n : Nat) : Ob → Bool
  | .lst l => belowVs n l
  | .gone => true
  | .ins _ fs => belowVs n (fs.map (·.2))
  | .dic l => belowVs n (l.map (·.2))
/-- what the callers see is as it was, or holds nothing of the call's own -/
def outOk (st st' : Sto) : Prop := ∀ i, i < st.length → st'[i]? = st[i]? ∨ ∃ o, st'[i]? = some o ∧ belowO st.length o = true

def leave (st : Sto) (v : Val) (st' : Sto) : R Val := if belowV st.length v = true ∧ outOk st st' then .ok v (st'.take st.length) else .ok v st'
def frameOf (d : Fd) (args : List Val) : Env := args.map some ++ List.replicate (d.N.length - args.length) none
def callF (T : List Fd) (c : Cn) (f : Nat) (args : List Val) (st : Sto) : R Val := match T[f]? with
  | none => .stuck
  | some d => if args.length = d.ps then (match evSs c d.body (frameOf d args) st with
    | .nx _ st' => leave st .non st'
    | .ret v st' => leave st v st'
    | .exn x _ st' => .exn x st'
    | _ => .stuck) else .stuck
def runF (T : List Fd) (G : List (Str × Val)) : Nat → CallT
  | 0 => fun _ _ _ => .stuck
  | n + 1 => callF T ⟨runF T G n, G⟩
end
end Pv

set_option Elab.async false
set_option linter.all false
set_option maxRecDepth 100000
namespace Pv
open PySem PySem.Spec PyProof.Rows L2
/-! ### the text of the IR is that of the program -/
def opM : Op → Operator
  | .add => .Add
  | .sub => .Sub
  | .mul => .Mult
  | .fdiv => .FloorDiv
  | .mod => .Mod
  | .pow => .Pow
  | .shl => .LShift
  | .shr => .RShift
  | .band => .BitAnd
def cmM : Cm → CmpOp
  | .eq => .Eq
  | .ne => .NotEq
  | .lt => .Lt
  | .le => .LtE
  | .gt => .Gt
  | .ge => .GtE
  | .is' => .Is
  | .isN => .IsNot
  | .in' => .In
  | .nin => .NotIn
def clM : Cl → Str
  | .int => "int"
  | .bool => "bool"
  | .str => "str"
  | .tuple => "tuple"
  | .list => "list"
def bfM : Bf → Str × Nat
  | .len => ("len", 1)
  | .abs => ("abs", 1)
  | .int => ("int", 1)
  | .tuple => ("tuple", 1)
  | .min2 => ("min", 2)
  | .max2 => ("max", 2)
  | .sum => ("sum", 1)
  | .all => ("all", 1)
  | .any => ("any", 1)
  | .repr => ("repr", 1)
  | .rg1 => ("range", 1)
  | .rg2 => ("range", 2)
  | .rg3 => ("range", 3)
  | .max1 => ("max", 1)
  | .min1 => ("min", 1)
/-- the built-in names that are asked of the module: all are free there -/
def bnames : List Str := ["len", "abs", "int", "tuple", "list", "min", "max", "sum", "all", "any", "isinstance", "range", "zip", "bool", "str", "repr", "enumerate", "sorted"]
def glB (sc : Scope) (x : Str) : Bool := decide (sc.names.lookup x = some .globalImplicit)
def visB (sc : Scope) (x : Str) : Bool := decide (sc.names.lookup x = some .local) || decide (sc.names.lookup x = some .cell) || decide (sc.names.lookup x = some .free)
def locB (sc : Scope) (x : Str) : Bool := decide (sc.names.lookup x = some .local) || decide (sc.names.lookup x = some .cell)
def okName (x : Str) : Bool := !(x == ("__debug__" : Str)) && !(x == ("__classdict__" : Str)) && !(x == ("__name__" : Str))
/-- the scope of a comprehension's block -/
structure Ck where
  N : List Str
  sc : Scope
  fn : Str → Bool
  T : List Fd
  G : List (Str × Val)
  cm : Bool
  X : List Xc
  KC : List Kc
/-- a class that the errors' table tells of -/
def Ck.knows (k : Ck) (C : Str) : Bool := k.X.any fun d => d.all.contains C
def Ck.hot (k : Ck) : Ck := { k with cm := false }
/-- the defs that may be called while an exception is handled -/
def hotN : List Str := ["_law_alike", "_law_is_integer"]
def hotF (d : Fd) : Bool := hotN.contains d.name
def Ck.blk (k : Ck) (scope : Scope) : Ck := { k with sc := relS scope k.sc, fn := fun x => scope.names.lookup x == some .cell }
def nameB (k : Ck) (i : Nat) (e : Expr) : Bool := match e with
  | .Name x _ => decide (k.N[i]? = some x) && locB k.sc x && (k.fn x || decide (k.sc.names.lookup x = some .local))
  | _ => false
def namesB (k : Ck) : List Nat → List Expr → Bool
  | [], [] => true
  | i :: is, e :: es => nameB k i e && namesB k is es
  | _, _ => false
def mTg (k : Ck) (tg : Tg) (e : Expr) : Bool := match tg, e with
  | .nm i, e => nameB k i e
  | .tp is, .Tuple es _ _ => namesB k is es
  | .ls is, .Tuple es _ _ => namesB k is es
  | .tn i is, .Tuple [e, .Tuple es _ _] _ _ => nameB k i e && namesB k is es
  | _, _ => false
def nst (e : Expr) : Bool := match e with
  | .Starred _ _ => false
  | _ => true
def notSl (e : Expr) : Bool := match e with
  | .Slice _ _ _ _ => false
  | _ => true
def notSet (e : Expr) : Bool := match e with
  | .Set _ _ _ => false
  | _ => true
def notComp (e : Expr) : Bool := match e with
  | .ListComp _ _ _ _ => false
  | .SetComp _ _ _ _ => false
  | .DictComp _ _ _ _ _ => false
  | _ => true
def notTup (e : Expr) : Bool := match e with
  | .Tuple _ _ _ => false
  | _ => true
def isTupE (e : Expr) : Bool := match e with
  | .Tuple _ _ _ => true
  | _ => false
/-- an expression whose truth is its value's -/
def plainT (e : Expr) : Bool := match e with
  | .UnaryOp .Not _ _ => false
  | .BoolOp _ _ _ => false
  | .IfExp _ _ _ _ => false
  | .Compare _ _ _ _ => false
  | _ => true
def callN (e : Expr) : Option (Str × List Expr × List Keyword) := match e with
  | .Call (.Name x _) es ks _ => some (x, es, ks)
  | _ => none
def noSuper (o : Expr) : Bool := match o with
  | .Call _ [] [] _ => false
  | _ => true
/-- o.f(es) on one line -/
def methN (e : Expr) : Option (Expr × Str × List Expr) := match e with
  | .Call (.Attribute o f apos) es [] pos => if apos.endLine == pos.line then some (o, f, es) else none
  | _ => none
def ownOf (N : List Str) (is : List Nat) : List (Str × Nat) := is.map fun i => ((N[i]?).getD "", i)
def isNm (e : Expr) : Bool := match e with
  | .Name _ _ => true
  | _ => false
/-- o.f(es, ks) -/
def methK (e : Expr) : Option (Expr × Str × List Expr × List Keyword) := match e with
  | .Call (.Attribute o f apos) es ks pos => if apos.endLine == pos.line then (if decide (es.length + ks.length < 28) then some (o, f, es, ks) else none) else none
  | _ => none
/-- the built-in functions that may be called in an except suite -/
def cool : Bf → Bool
  | .len => true
  | .repr => true
  | .tuple => true
  | .abs => true
  | .int => true
  | _ => false
mutual
def mE (k : Ck) (x : Xp) (e : Expr) : Bool := match x with
  | .var i => (match e with
    | .Name y _ => decide (k.N[i]? = some y) && visB k.sc y && okName y
    | _ => false)
  | .num n => (match e with
    | .Constant (.int j) _ _ => decide (j = n)
    | _ => false)
  | .bol b => (match e with
    | .Constant (.bool j) _ _ => decide (j = b)
    | _ => false)
  | .non => (match e with
    | .Constant .none _ _ => true
    | _ => false)
  | .str s => (match e with
    | .Constant (.str j) _ _ => decide (j = s)
    | _ => false)
  | .glo n => (match e with
    | .Name y _ => decide ((k.G[n]?).map (·.1) = some y) && glB k.sc y && okName y
    | _ => false)
  | .bin o a b => (match e with
    | .BinOp a' o' b' _ => decide (o' = opM o) && mE k a a' && mE k b b'
    | _ => false)
  | .neg a => (match e with
    | .UnaryOp .USub a' _ => mE k a a'
    | _ => false)
  | .cmp o a b => (match e with
    | .Compare a' [o'] [b'] _ => decide (o' = cmM o) && !behindInMarks o' b' && mE k a a' && mE k b b'
    | _ => false)
  | .chn o p a b c => (match e with
    | .Compare a' [o', p'] [b', c'] _ => decide (o' = cmM o) && decide (p' = cmM p) && !behindInMarks o' b' && !behindInMarks p' c' && mE k a a' && mE k b b' && mE k c c'
    | _ => false)
  | .and a b => (match e with
    | .BoolOp .And [a', b'] _ => mE k a a' && mE k b b'
    | .BoolOp .And (a' :: b' :: c' :: r) p => mE k a a' && mE k b (.BoolOp .And (b' :: c' :: r) p)
    | _ => false)
  | .or a b => (match e with
    | .BoolOp .Or [a', b'] _ => mE k a a' && mE k b b'
    | .BoolOp .Or (a' :: b' :: c' :: r) p => mE k a a' && mE k b (.BoolOp .Or (b' :: c' :: r) p)
    | _ => false)
  | .not a => (match e with
    | .UnaryOp .Not a' _ => mE k a a'
    | _ => false)
  | .ife c a b => (match e with
    | .IfExp c' a' b' _ => mE k c c' && mE k a a' && mE k b b'
    | _ => false)
  | .tup es => (match e with
    | .Tuple es' _ _ => mEs k es es'
    | _ => false)
  | .lst _ es => (match e with
    | .List es' _ => mEs k es es'
    | _ => false)
  | .idx a i => (match e with
    | .Subscript a' i' _ => notSl i' && mE k a a' && mE k i i'
    | _ => false)
  | .slc _ a lo hi => (match e with
    | .Subscript a' (.Slice lo' hi' none _) _ => mE k a a' && mEo k lo lo' && mEo k hi hi'
    | _ => false)
  | .isi a c => (match callN e with
    | some (f, [a', .Name y _], []) => decide (f = "isinstance") && glB k.sc f && nst a' && decide (y = clM c) && glB k.sc y && mE k a a'
    | _ => false)
  | .blt f es => (match callN e with
    | some (x, es', []) => (k.cm || cool f) && decide (x = (bfM f).1) && decide (es'.length = (bfM f).2) && glB k.sc x && es'.all nst && mEs k es es'
    | _ => false)
  | .mkl _ a => (match callN e with
    | some (x, [a'], []) => decide (x = "list") && glB k.sc x && nst a' && mE k a a'
    | _ => false)
  | .cat _ a b => (match e with
    | .BinOp a' .Add b' _ => mE k a a' && mE k b b'
    | _ => false)
  | .rep _ a b => (match e with
    | .BinOp a' .Mult b' _ => mE k a a' && mE k b b'
    | _ => false)
  | .cal f es ks => (match callN e, k.T[f]? with
    | some (x, es', ks'), some d => (k.cm || hotF d) && decide (d.own = none) && decide (x = d.name) && glB k.sc x && es'.all nst && mEs k es es' && mKs k (es'.length) d ks ks' && decide (es'.length + ks'.length = d.ps) && decide ((ks.map (·.1)).Nodup) && ((List.range d.ps).all fun i => decide (i < es'.length) || (ks.map (·.1)).contains i) && decide d.N.Nodup && decide (d.ps ≤ d.N.length) && okName d.name
    | _, _ => false)
  | .lc _ a tg it ifs => (match e with
    | .ListComp a' [⟨tg', it', ifs', z⟩] scope _ => k.cm && decide (z = 0) && blkC k.N k.sc scope (ownOf k.N tg.slots) && mTg (k.blk scope) tg tg' && mI k it it' && notSet it' && (decide (ifs'.length ≤ 1)) && mEs (k.blk scope) ifs ifs' && mE (k.blk scope) a a' && (match it with
      | .zip _ _ => isTupE tg'
      | .enm _ => isTupE tg'
      | _ => true)
    | _ => false)
  | .lc2 _ a tg it tg1 it1 => (match e with
    | .ListComp a' [⟨tg', it', [], z⟩, ⟨tg1', it1', [], z1⟩] scope _ => k.cm && decide (z = 0) && decide (z1 = 0) && blkC k.N k.sc scope (ownOf k.N (tg.slots ++ tg1.slots)) && mTg (k.blk scope) tg tg' && mTg (k.blk scope) tg1 tg1' && mI k it it' && mI (k.blk scope) it1 it1' && notSet it' && notSet it1' && mE (k.blk scope) a a' && (match it with
      | .zip _ _ => isTupE tg'
      | .enm _ => isTupE tg'
      | _ => true) && (match it1 with
      | .zip _ _ => isTupE tg1'
      | .enm _ => isTupE tg1'
      | _ => true)
    | _ => false)
  | .app o a => (match methN e with
    | some (o', f, [a']) => decide (f = "append") && noSuper o' && nst a' && mE k o o' && mE k a a'
    | _ => false)
  | .ext o a => (match methN e with
    | some (o', f, [a']) => decide (f = "extend") && noSuper o' && nst a' && mE k o o' && mE k a a'
    | _ => false)
  | .rev _ a => (match e with
    | .Subscript a' (.Slice none none (some (.UnaryOp .USub (.Constant (.int j) _ _) _)) _) _ => decide (j = 1) && mE k a a'
    | _ => false)
  | .ixl o a => (match methN e with
    | some (o', f, [a']) => decide (f = "index") && noSuper o' && nst a' && mE k o o' && mE k a a'
    | _ => false)
  | .ixs o a => (match methN e with
    | some (o', f, [a']) => decide (f = "index") && noSuper o' && nst a' && mE k o o' && mE k a a'
    | _ => false)
  | .ixg n a => (match methN e with
    | some (.Name y _, f, [a']) => decide (f = "index") && decide ((k.G[n]?).map (·.1) = some y) && glB k.sc y && okName y && nst a' && (match k.G[n]? with
      | some (_, .gtp _) => true
      | _ => false) && mE k a a'
    | _ => false)
  | .att a f => (match e with
    | .Attribute a' f' _ => decide (f' = f) && noSuper a' && mE k a a'
    | _ => false)
  | .fld a f => (match e with
    | .Attribute a' f' _ => decide (f' = f) && noSuper a' && mE k a a'
    | _ => false)
  | .mth C m f o es ks => (match methK e, k.T[f]? with
    | some (o', x, es', ks'), some d => k.cm && decide (x = m) && decide (d.name = m) && decide (d.own = some C) && (k.KC.any fun d => decide (d.name = C)) && noSuper o' && mE k o o' && es'.all nst && mEs k es es' && mKs k (es'.length + 1) d ks ks' && decide (es'.length + ks'.length + 1 = d.ps) && decide ((ks.map (·.1)).Nodup) && ((List.range d.ps).all fun i => decide (i < es'.length + 1) || (ks.map (·.1)).contains i) && decide d.N.Nodup && decide (d.ps ≤ d.N.length)
    | _, _ => false)
  | .mak c f es ks => (match callN e, k.T[f]? with
    | some (x, es', ks'), some d => k.cm && k.KC.contains c && decide (x = c.name) && glB k.sc x && okName x && decide (d.name = "__init__") && decide (d.own = some c.name) && es'.all nst && mEs k es es' && mKs k (es'.length + 1) d ks ks' && decide (es'.length + ks'.length + 1 = d.ps) && decide ((ks.map (·.1)).Nodup) && ((List.range d.ps).all fun i => decide (i < es'.length + 1) || (ks.map (·.1)).contains i) && decide d.N.Nodup && decide (d.ps ≤ d.N.length)
    | _, _ => false)
  | .dnw => (match e with
    | .Dict [] [] _ => true
    | _ => false)
  | .dix d a => (match e with
    | .Subscript d' a' _ => notSl a' && mE k d d' && mE k a a'
    | _ => false)
  | .din a d => (match e with
    | .Compare a' [.In] [d'] _ => !behindInMarks .In d' && mE k a a' && mE k d d'
    | _ => false)
  | .dgt d a b => (match methN e with
    | some (o', f, [a', b']) => decide (f = "get") && noSuper o' && nst a' && nst b' && mE k d o' && mE k a a' && mE k b b'
    | _ => false)
  | .mkx d es => (match callN e with
    | some (x, es', []) => k.cm && decide (x = d.name) && glB k.sc x && okName x && k.X.contains d && es'.all nst && mEs k es es' && decide (es'.length = d.fs.length) && decide (0 < es'.length) && decide (d.fs.length ≤ 100)
    | _ => false)
  | .iss a c d => (match callN e with
    | some (f, [a', .Tuple [.Name y _, .Name z _] _ _], []) => decide (f = "isinstance") && glB k.sc f && nst a' && decide (y = clM c) && glB k.sc y && decide (z = clM d) && glB k.sc z && mE k a a'
    | _ => false)
  | .jn o a => (match methN e with
    | some (o', f, [a']) => decide (f = "join") && noSuper o' && nst a' && mE k o o' && mE k a a'
    | _ => false)
  | .upr o => (match methN e with
    | some (o', f, []) => decide (f = "upper") && noSuper o' && mE k o o'
    | _ => false)
  | .spl _ o a => (match methN e with
    | some (o', f, [a']) => decide (f = "split") && noSuper o' && nst a' && mE k o o' && mE k a a'
    | _ => false)
  | .isx a C => (match callN e with
    | some (f, [a', .Name y _], []) => decide (f = "isinstance") && glB k.sc f && nst a' && decide (y = C) && glB k.sc y && okName y && k.knows C && mE k a a'
    | _ => false)
def mEs (k : Ck) (xs : List Xp) (es : List Expr) : Bool := match xs, es with
  | [], [] => true
  | x :: xs, e :: es => nst e && mE k x e && mEs k xs es
  | _, _ => false
def mEo (k : Ck) (x : Option Xp) (e : Option Expr) : Bool := match x, e with
  | none, none => true
  | some x, some e => mE k x e
  | _, _ => false
/-- keywords: each tells a parameter behind the n given by position -/
def mKs (k : Ck) (n : Nat) (d : Fd) (xs : List (Nat × Xp)) (es : List Keyword) : Bool := match xs, es with
  | [], [] => true
  | (i, x) :: xs, ⟨some y, e, _⟩ :: es => decide (d.N[i]? = some y) && decide (n ≤ i) && decide (i < d.ps) && mE k x e && mKs k n d xs es
  | _, _ => false
def mI (k : Ck) (x : It) (e : Expr) : Bool := match x with
  | .rng es => (match callN e with
    | some (f, es', []) => decide (f = "range") && glB k.sc f && es'.all nst && mEs k es es' && decide (es'.length ≤ 3) && decide (0 < es'.length)
    | _ => false)
  | .seq a => mE k a e
  | .zip a b => (match callN e with
    | some (f, [a', b'], []) => decide (f = "zip") && glB k.sc f && nst a' && nst b' && mE k a a' && mE k b b'
    | _ => false)
  | .enm a => (match callN e with
    | some (f, [a'], []) => decide (f = "enumerate") && glB k.sc f && nst a' && mE k a a'
    | _ => false)
end
def augB : Op → Bool
  | .pow => false
  | _ => true
/-- x = [..] on one line -/
def swB (sc : Scope) (x : Str) (p : Pos) (e : Expr) : Bool := match e with
  | .ListComp _ _ s q => decide (sc.names.lookup x = some .local) && (p.line == q.line) && !(s.names.any fun (n, k) => n == x && (k == .local || k == .cell))
  | _ => false
def aTup (e : Expr) : Bool := match e with
  | .Tuple _ _ _ => true
  | .Set _ _ _ => true
  | .SetComp _ _ _ _ => true
  | .DictComp _ _ _ _ _ => true
  | _ => false
def noLc2 (e : Xp) : Bool := match e with
  | .lc2 _ _ _ _ _ _ => false
  | _ => true
def bkOf (sc : Scope) : ScopeKind := if sc.kind.isAnnotationScope then .function else sc.kind
/-- swappedStores, where it answers -/
def swN (sc : Scope) (ts vs : List Expr) : Option (Option (List Str)) :=
  if (!(ts.length == 2 || ts.length == 3) || vs.length != ts.length || bkOf sc != .function) = true then some none else
  if (vs.any fun | .Starred .. => true | _ => false) = true then some none else
  let line := (ts.head?.map (·.pos.line)).getD 0
  let names := ts.filterMap fun
    | .Name id pos => if (sc.names.lookup id == some .local && pos.line == line) = true then some id else none
    | _ => none
  if (names.length != ts.length || names.eraseDups.length != names.length) = true then some none else
  if (vs.all (foldedForSure 8)) = true then some none else
  if (vs.all (constantsAlone 8)) = true then none else some (some names)
/-- a, b = constants: no swapped stores -/
def foldT (sc : Scope) (tg e : Expr) : Bool := match tg, e with
  | .Tuple ts _ _, .Tuple vs _ _ => decide (swN sc ts vs = some none)
  | _, _ => false
mutual
def mS (k : Ck) (s : Sm) (p : Stmt) : Bool := match s with
  | .set i e => (match p with
    | .Assign [.Name x p] e' _ => noLc2 e && decide (k.N[i]? = some x) && locB k.sc x && mE k e e' && (notComp e' || swB k.sc x p e' || decide (k.sc.names.lookup x ≠ some .local)) && (k.fn x || decide (k.sc.names.lookup x = some .local))
    | _ => false)
  | .asg tg e => (match p with
    | .Assign [tg'] e' _ => k.cm && isTupE tg' && mTg k tg tg' && (notTup e' || foldT k.sc tg' e') && notComp e' && mE k e e'
    | _ => false)
  | .par is es => (match p with
    | .Assign [.Tuple ts _ _] (.Tuple vs _ _) _ => k.cm && mEs k es vs && (match is, ts, vs with
      | [i, j], [.Name x _, .Name y _], [_, _] => decide (k.N[i]? = some x) && decide (k.N[j]? = some y) && decide (i ≠ j) && decide (k.sc.names.lookup x = some .local) && decide (k.sc.names.lookup y = some .local) && decide (swN k.sc ts vs = some (some [x, y]))
      | [i, j, l], [.Name x _, .Name y _, .Name z _], [_, _, _] => decide (k.N[i]? = some x) && decide (k.N[j]? = some y) && decide (k.N[l]? = some z) && decide (i ≠ j) && decide (i ≠ l) && decide (j ≠ l) && decide (k.sc.names.lookup x = some .local) && decide (k.sc.names.lookup y = some .local) && decide (k.sc.names.lookup z = some .local) && decide (swN k.sc ts vs = some (some [x, y, z]))
      | _, _, _ => false)
    | _ => false)
  | .aug i o e => (match p with
    | .AugAssign (.Name x _) o' e' _ => decide (k.N[i]? = some x) && locB k.sc x && decide (o' = opM o) && mE k e e' && augB o && (k.fn x || decide (k.sc.names.lookup x = some .local))
    | _ => false)
  | .setI a i e => (match p with
    | .Assign [.Subscript a' i' _] e' _ => notSl i' && notComp e' && mE k e e' && mE k a a' && mE k i i'
    | _ => false)
  | .setS a i j e => (match p with
    | .Assign [.Subscript a' (.Slice (some i') (some j') none _) _] e' _ => notComp e' && mE k e e' && mE k a a' && mE k i i' && mE k j j'
    | _ => false)
  | .setF a f e => (match p with
    | .Assign [.Attribute a' f' _] e' _ => decide (f' = f) && notComp e' && mE k e e' && mE k a a'
    | _ => false)
  | .augF a f o e => (match p with
    | .AugAssign (.Attribute a' f' _) o' e' _ => decide (f' = f) && decide (o' = opM o) && augB o && mE k e e' && mE k a a'
    | _ => false)
  | .setD a i e => (match p with
    | .Assign [.Subscript a' i' _] e' _ => notSl i' && notComp e' && mE k e e' && mE k a a' && mE k i i'
    | _ => false)
  | .exp e => (match p with
    | .Expr e' _ => notComp e' && mE k e e'
    | _ => false)
  | .ret e => (match p with
    | .Return (some e') _ => mE k e e'
    | _ => false)
  | .retN => (match p with
    | .Return none _ => true
    | _ => false)
  | .ife c a b => (match p with
    | .If c' a' b' _ => mE k c c' && mSs k a a' && mSs k b b'
    | _ => false)
  | .for' tg it b => (match p with
    | .For tg' it' b' [] _ => k.cm && mTg k tg tg' && mI k it it' && notSet it' && mSs k b b' && (match it with
      | .zip _ _ => isTupE tg'
      | .enm _ => isTupE tg'
      | _ => true)
    | _ => false)
  | .whl c b => (match p with
    | .While c' b' [] _ => k.cm && mE k c c' && mSs k b b'
    | _ => false)
  | .brk => (match p with
    | .Break _ => true
    | _ => false)
  | .cnt => (match p with
    | .Continue _ => true
    | _ => false)
  | .pas => (match p with
    | .Pass _ => true
    | _ => false)
  | .try' b => (match p with
    | .Try b' (_ :: _) [] [] _ => mSs k b b'
    | _ => false)
  | .frz _ => false
  | .raise d es => (match p with
    | .Raise (some e') none _ => (match callN e' with
      | some (x, es', []) => k.cm && decide (x = d.name) && glB k.sc x && okName x && k.X.contains d && es'.all nst && mEs k es es' && decide (es'.length = d.fs.length) && decide (0 < es'.length) && decide (d.fs.length ≤ 100)
      | _ => false)
    | _ => false)
  | .tryx b hs => (match p with
    | .Try b' (h' :: hs') [] [] _ => k.cm && mSs k b b' && mHs k hs (h' :: hs')
    | _ => false)
def mHs (k : Ck) (hs : List Hd) (ps : List ExceptHandler) : Bool := match hs with
  | [] => ps.isEmpty
  | .mk C i b :: hs => (match ps with
    | .ExceptHandler (some (.Name x _)) nm (b0 :: suite) _ :: ps => decide (x = C) && glB k.sc x && okName x && k.knows C && (match i, nm with
      | none, none => true
      | some j, some n => decide (k.N[j]? = some n) && decide (k.sc.names.lookup n = some .local)
      | _, _ => false) && mSs k.hot b (b0 :: suite) && mHs k hs ps
    | _ => false)
def mSs (k : Ck) (ss : List Sm) (ps : List Stmt) : Bool := match ss with
  | [] => ps.isEmpty
  | s :: ss => (match s with
    | .frz _ => mSs k ss ps
    | s => (match ps with
      | p :: ps => mS k s p && mSs k ss ps
      | [] => false))
end
def scopeB (N : List Str) (n : Nat) (sc : Scope) : Bool :=
  (match sc.kind with | .function => true | _ => false) && !sc.isCoroutine && !sc.isGenerator && decide N.Nodup && decide (n ≤ N.length) &&
    ((N.take n).all fun x => locB sc x) && (sc.names.all fun y => match y.2 with | .free => false | _ => true)
def argsB (ps : List Str) (a : Arguments) : Bool := a.posonlyargs.isEmpty && decide (a.args.map (·.arg) = ps) && a.vararg.isNone && a.kwonlyargs.isEmpty && a.kw_defaults.isEmpty && a.kwarg.isNone && a.defaults.isEmpty
def mF (T : List Fd) (G : List (Str × Val)) (X : List Xc) (KC : List Kc) (d : Fd) (a : Arguments) (body : List Stmt) (sc : Scope) : Bool :=
  scopeB d.N d.ps sc && argsB (d.N.take d.ps) a && mSs ⟨d.N, sc, fun _ => true, T, G, true, X, KC⟩ d.body body && (!hotF d || mSs ⟨d.N, sc, fun _ => true, T, G, false, X, KC⟩ d.body body)
end Pv

set_option Elab.async false
set_option linter.all false
set_option maxRecDepth 100000
set_option maxHeartbeats 4000000
namespace Pv
open PySem PySem.Spec PyProof.Rows L2
/-! ### how a value stands in the heap: F holds what never changes, φ where the store's objects stand -/
structure Cf where
  F : Hp
  φ : List Addr
/-- the object at a is the range lo, hi, c -/
def rngφ (a : Addr) (lo hi c : Int) : Heap → Prop := fun h => ∃ t u v : Tok, h.get? a = some { cls := .type "range", data := .fields #[.int lo t, .int hi u, .int c v] }
/-- at a stands an error of the class cls, its dict at d -/
def excφ (a : Addr) (cls : Value) (d : Option Addr) : Heap → Prop := fun h => ∃ oe vs, h.get? a = some oe ∧ oe.cls = cls ∧ oe.dict = d ∧ oe.data = .fields vs
/-- a class of errors by its name -/
def xcls (K : PySem.W.Frag) (C : Str) : Value := if C = "ValueError" then .type "ValueError" else if C = "Exception" then .type "Exception" else .ref (He.ga K C)
/-- its fields in its dict -/
def Flds (fvs : List (Str × V)) (ns : List Str) (us : List V) : Prop := ns.length = us.length ∧ ∀ (i : Nat) (f : Str) (u : V), ns[i]? = some f → us[i]? = some u → fvs.lookup f = some u
/-- what is told of a class of errors -/
structure XcOk (K : PySem.W.Frag) (d : Xc) : Prop where
  exm : ∀ C ∈ d.all, PySem.W.exmOne K (.ref (He.ga K d.name)) (xcls K C) = some (d.anc.contains C)
  kit : ∀ C ∈ d.all, PySem.W.kitOne K (.ref (He.ga K d.name)) (xcls K C) = some (d.anc.contains C)
  ga : PySem.W.findIn K (.ref (He.ga K d.name)) "__getattribute__" = some (some (.builtin "BaseException.__getattribute__"))
  gg : PySem.W.findIn K (.ref (He.ga K d.name)) "__getattr__" = some none
  noN : ∀ f ∈ d.fs, PySem.W.findIn K (.ref (He.ga K d.name)) f = some none
  exC : PySem.W.subIn K (.ref (He.ga K d.name)) (.type "BaseException") = some true
  hdC : PySem.W.hasDictIn K (He.ga K d.name) = true
  kx : (PySem.W.clsIn K (He.ga K d.name)).isSome = true ∧ PySem.W.findIn K (.ref (He.ga K d.name)) "__class__" = some (some (.builtin "object.__class__")) ∧ PySem.W.specialIn K (.builtin "object.__class__") "__get__" = some (some (.builtin "getset_descriptor.__get__")) ∧
    PySem.W.takesIn K (.builtin "object.__class__") = some true ∧ PySem.W.mroIn K (He.ga K d.name) (.type "object") = some true
mutual
inductive Rep (K : PySem.W.Frag) (c : Cf) : V → Val → Prop
  | non : Rep K c .non .non
  | bl (b : Bool) : Rep K c (.bl b) (.bl b)
  | int (i : Int) : Rep K c (.int i) (.int i)
  | str (s : Str) : Rep K c (.str s) (.str s)
  | tup {a : Addr} {vs : List V} {l : List Val} : c.F a = some (.tup vs) → Reps K c vs l → Rep K c (.ref a) (.tup l)
  | gtp {a : Addr} {vs : List V} {l : List Val} : SqT K c.F a vs → Reps K c vs l → Rep K c (.ref a) (.gtp l)
  | lst {a : Addr} {vs : List V} {l : List Val} : c.F a = some (.lst vs) → Reps K c vs l → Rep K c (.ref a) (.lst l)
  | scr {a : Addr} {l : List Int} : SqL K c.F a (l.map .int) → Rep K c (.ref a) (.scr l)
  | ref {a : Addr} {n : Nat} : c.φ[n]? = some a → Rep K c (.ref a) (.ref n)
  | rng {a : Addr} {lo hi d : Int} : c.F a = some (.ext (rngφ a lo hi d)) → Rep K c (.ref a) (.rng lo hi d)
  | exc {a dd : Addr} {d : Xc} {vs : List Val} {us : List V} {fvs : List (Str × V)} : c.F a = some (.ext (excφ a (.ref (He.ga K d.name)) (some dd))) → c.F dd = some (.xd fvs) → Flds fvs d.fs us → Reps K c us vs → XcOk K d → Rep K c (.ref a) (.exc d vs)
inductive Reps (K : PySem.W.Frag) (c : Cf) : List V → List Val → Prop
  | nil : Reps K c [] []
  | cons {v : V} {vs : List V} {d : Val} {l : List Val} : Rep K c v d → Reps K c vs l → Reps K c (v :: vs) (d :: l)
end
section
variable {K : PySem.W.Frag} {c c' c1 c2 : Cf} {H H' H1 H2 : Hp} {st st' st1 st2 : Sto}
theorem SqT.mono {F F' : Hp} {a : Addr} {xs : List V} (e : Same F F') (h : SqT K F a xs) : SqT K F' a xs := by
  rcases h with (h | ⟨o, h⟩) | h
  · exact .inl (.inl (e _ _ h))
  · exact .inl (.inr ⟨o, e _ _ h⟩)
  · exact .inr h
theorem tupT {F F' : Hp} {a : Addr} {xs : List V} (e : Same F F') (h : F a = some (.tup xs)) : SqT K F' a xs := .inl (.inl (e _ _ h))
structure Ext (c : Cf) (H : Hp) (c' : Cf) (H' : Hp) : Prop where
  F : Same c.F c'.F
  φ : c.φ <+: c'.φ
  fr : ∀ a o, H a = some o → a ∉ c.φ → H' a = some o ∧ a ∉ c'.φ
  nf : ∀ a o, H a = some o → a ∉ c.φ → c.F a = none → c'.F a = none
theorem Ext.refl : Ext c H c H := ⟨Same.refl _, List.prefix_refl _, fun _ _ h n => ⟨h, n⟩, fun _ _ _ _ z => z⟩
theorem Ext.trans (a : Ext c H c1 H1) (b : Ext c1 H1 c2 H2) : Ext c H c2 H2 := ⟨a.F.trans b.F, a.φ.trans b.φ, fun x o h n => by
  obtain ⟨h1, n1⟩ := a.fr x o h n
  exact b.fr x o h1 n1, fun x o h n z => by
  obtain ⟨h1, n1⟩ := a.fr x o h n
  exact b.nf x o h1 n1 (a.nf x o h n z)⟩
theorem prefix_get {α : Type} {l l' : List α} (h : l <+: l') {i : Nat} {a : α} (e : l[i]? = some a) : l'[i]? = some a := by
  obtain ⟨t, rfl⟩ := h
  rw [List.getElem?_append_left (by exact (List.getElem?_eq_some_iff.mp e).1)]
  exact e
mutual
theorem Rep.mono' (hF : Same c.F c'.F) (hφ : c.φ <+: c'.φ) {v : V} {d : Val} (h : Rep K c v d) : Rep K c' v d := by
  cases h with
  | non => exact .non
  | bl b => exact .bl b
  | int i => exact .int i
  | str s => exact .str s
  | tup h1 h2 => exact .tup (hF _ _ h1) (Reps.mono' hF hφ h2)
  | gtp h1 h2 => exact .gtp (SqT.mono hF h1) (Reps.mono' hF hφ h2)
  | lst h1 h2 => exact .lst (hF _ _ h1) (Reps.mono' hF hφ h2)
  | scr h1 => exact .scr (Same.seq hF h1)
  | ref h1 => exact .ref (prefix_get hφ h1)
  | rng h1 => exact .rng (hF _ _ h1)
  | exc h1 h2 h3 h4 h5 => exact .exc (hF _ _ h1) (hF _ _ h2) h3 (Reps.mono' hF hφ h4) h5
termination_by sizeOf d
theorem Reps.mono' (hF : Same c.F c'.F) (hφ : c.φ <+: c'.φ) {vs : List V} {l : List Val} (h : Reps K c vs l) : Reps K c' vs l := by
  cases h with
  | nil => exact .nil
  | cons h1 h2 => exact .cons (Rep.mono' hF hφ h1) (Reps.mono' hF hφ h2)
termination_by sizeOf l
end
theorem Rep.mono {v : V} {d : Val} (h : Rep K c v d) (e : Ext c H c' H') : Rep K c' v d := Rep.mono' e.F e.φ h
theorem Reps.mono {vs : List V} {l : List Val} (h : Reps K c vs l) (e : Ext c H c' H') : Reps K c' vs l := Reps.mono' e.F e.φ h
theorem Reps.length : ∀ {vs : List V} {l : List Val}, Reps K c vs l → vs.length = l.length
  | _, _, .nil => rfl
  | _, _, .cons _ t => by rw [List.length_cons, List.length_cons, Reps.length t]
theorem Reps.get : ∀ {vs : List V} {l : List Val} {i : Nat} {d : Val}, Reps K c vs l → l[i]? = some d → ∃ v, vs[i]? = some v ∧ Rep K c v d
  | _, _, _, _, .nil, e => by simp at e
  | _, _, 0, _, .cons r _, e => by simp at e; subst e; exact ⟨_, rfl, r⟩
  | _, _, i + 1, d, .cons _ t, e => by
    obtain ⟨u, h1, h2⟩ := Reps.get (i := i) (d := d) t (by simpa using e)
    exact ⟨u, by simpa using h1, h2⟩
theorem Reps.append : ∀ {xs ys : List V} {us ws : List Val}, Reps K c xs us → Reps K c ys ws → Reps K c (xs ++ ys) (us ++ ws)
  | _, _, _, _, .nil, s => s
  | _, _, _, _, .cons r t, s => .cons r (Reps.append t s)
theorem Reps.reverse : ∀ {xs : List V} {us : List Val}, Reps K c xs us → Reps K c xs.reverse us.reverse
  | _, _, .nil => .nil
  | _, _, .cons (v := v) (vs := vs) (d := d) (l := l) h t => by
    rw [List.reverse_cons, List.reverse_cons]
    exact Reps.append (Reps.reverse t) (.cons h .nil)
theorem Reps.take : ∀ {xs : List V} {us : List Val} (n : Nat), Reps K c xs us → Reps K c (xs.take n) (us.take n)
  | _, _, 0, _ => .nil
  | _, _, _ + 1, .nil => .nil
  | _, _, n + 1, .cons r t => .cons r (Reps.take n t)
theorem Reps.drop : ∀ {xs : List V} {us : List Val} (n : Nat), Reps K c xs us → Reps K c (xs.drop n) (us.drop n)
  | _, _, 0, r => r
  | _, _, _ + 1, .nil => .nil
  | _, _, n + 1, .cons _ t => Reps.drop n t
theorem Reps.set {x : V} {u : Val} (r : Rep K c x u) : ∀ {xs : List V} {us : List Val} (i : Nat), Reps K c xs us → Reps K c (xs.set i x) (us.set i u)
  | _, _, _, .nil => .nil
  | _, _, 0, .cons _ t => .cons r t
  | _, _, i + 1, .cons q t => .cons q (Reps.set r i t)
theorem Reps.rep {xs : List V} {us : List Val} (r : Reps K c xs us) : ∀ n : Nat, Reps K c (List.replicate n xs).flatten (List.replicate n us).flatten
  | 0 => .nil
  | n + 1 => by
    rw [List.replicate_succ, List.replicate_succ, List.flatten_cons, List.flatten_cons]
    exact Reps.append r (Reps.rep r n)
theorem Reps.ints : ∀ ns : List Int, Reps K c (ns.map V.int) (ns.map Val.int)
  | [] => .nil
  | n :: ns => .cons (.int n) (Reps.ints ns)
theorem Reps.snoc {xs : List V} {us : List Val} {x : V} {u : Val} (r : Reps K c xs us) (q : Rep K c x u) : Reps K c (xs ++ [x]) (us ++ [u]) := r.append (.cons q .nil)
/-- what is told of an own class whose instances are made -/
structure KcOk (K : PySem.W.Frag) (d : Kc) : Prop where
  cls : Cls K (He.ga K d.name)
  noa : ∀ f ∈ d.fs, NoAttr K (He.ga K d.name) f
  mkr : Mk K (He.ga K d.name) (He.ma K (He.ga K d.name) "__init__")
/-- an object of the store and what is tracked -/
def ObS (K : PySem.W.Frag) (c : Cf) (u : HO) (o : Ob) : Prop := match u, o with
  | .lst vs, .lst l => Reps K c vs l
  | .ins C _ fs, .ins d gs => C = He.ga K d.name ∧ KcOk K d ∧ fs.map (·.1) = gs.map (·.1) ∧ Reps K c (fs.map (·.2)) (gs.map (·.2))
  | .dT ks, .dic l => ks.map (·.1) = l.map (·.1) ∧ Reps K c (ks.map (·.2)) (l.map (·.2))
  | _, _ => False
def live (o : Ob) : Bool := match o with
  | .gone => false
  | _ => true
theorem ObS.mono' (hF : Same c.F c'.F) (hφ : c.φ <+: c'.φ) {u : HO} {o : Ob} (h : ObS K c u o) : ObS K c' u o := by
  unfold ObS at h ⊢
  split at h
  · exact Reps.mono' hF hφ h
  · exact ⟨h.1, h.2.1, h.2.2.1, Reps.mono' hF hφ h.2.2.2⟩
  · exact ⟨h.1, Reps.mono' hF hφ h.2⟩
  · exact h.elim
theorem ObS.mono {u : HO} {o : Ob} (h : ObS K c u o) (e : Ext c H c' H') : ObS K c' u o := ObS.mono' e.F e.φ h
theorem ObS.lst {u : HO} {l : List Val} (h : ObS K c u (.lst l)) : ∃ vs, u = .lst vs ∧ Reps K c vs l := by
  unfold ObS at h
  split at h
  · rename_i e
    cases e
    exact ⟨_, rfl, h⟩
  · rename_i e
    cases e
  · rename_i e
    cases e
  · exact h.elim
theorem ObS.ins {u : HO} {d : Kc} {gs : List (Str × Val)} (h : ObS K c u (.ins d gs)) : ∃ dx fs, u = .ins (He.ga K d.name) dx fs ∧ KcOk K d ∧ fs.map (·.1) = gs.map (·.1) ∧ Reps K c (fs.map (·.2)) (gs.map (·.2)) := by
  unfold ObS at h
  split at h
  · rename_i e
    cases e
  · rename_i e
    cases e
    obtain ⟨rfl, h1, h2, h3⟩ := h
    exact ⟨_, _, rfl, h1, h2, h3⟩
  · rename_i e
    cases e
  · exact h.elim
theorem ObS.dic {u : HO} {l : List (List L2.Key × Val)} (h : ObS K c u (.dic l)) : ∃ ks, u = .dT ks ∧ ks.map (·.1) = l.map (·.1) ∧ Reps K c (ks.map (·.2)) (l.map (·.2)) := by
  unfold ObS at h
  split at h
  · rename_i e
    cases e
  · rename_i e
    cases e
  · rename_i e
    cases e
    exact ⟨_, rfl, h.1, h.2⟩
  · exact h.elim
/-- the store stands in the heap -/
structure RelH (K : PySem.W.Frag) (c : Cf) (H : Hp) (st : Sto) : Prop where
  sub : Same c.F H
  len : c.φ.length = st.length
  nd : c.φ.Nodup
  all : ∀ a ∈ c.φ, ∃ o, H a = some o
  obo : ∀ (n : Nat) (o : Ob), st[n]? = some o → live o = true → ∃ a u, c.φ[n]? = some a ∧ c.F a = none ∧ H a = some u ∧ ObS K c u o
theorem RelH.obs (h : RelH K c H st) (n : Nat) (l : List Val) (e : st[n]? = some (Ob.lst l)) : ∃ a vs, c.φ[n]? = some a ∧ c.F a = none ∧ H a = some (.lst vs) ∧ Reps K c vs l := by
  obtain ⟨a, u, q1, q2, q3, q4⟩ := h.obo n _ e rfl
  obtain ⟨vs, rfl, r⟩ := q4.lst
  exact ⟨a, vs, q1, q2, q3, r⟩
def RelS (K : PySem.W.Frag) (c : Cf) (σ : L2.St) (l : Env) : Prop := σ.length = l.length ∧ ∀ (i : Nat) (v : Val), l[i]? = some (some v) → ∃ x, σ[i]? = some (some x) ∧ Rep K c x v
theorem RelS.mono {σ : L2.St} {l : Env} (h : RelS K c σ l) (e : Ext c H c' H') : RelS K c' σ l := ⟨h.1, fun i v q => by
  obtain ⟨x, q1, q2⟩ := h.2 i v q
  exact ⟨x, q1, q2.mono e⟩⟩
theorem RelS.set {σ : L2.St} {l : Env} (h : RelS K c σ l) {i : Nat} {x : V} {v : Val} (r : Rep K c x v) : RelS K c (σ.set i (some x)) (l.set i (some v)) := by
  refine ⟨by rw [List.length_set, List.length_set]; exact h.1, fun j w q => ?_⟩
  by_cases e : i = j
  · subst e
    rw [List.getElem?_set] at q
    split at q
    · rename_i hlt
      split at q
      · cases q
        refine ⟨x, ?_, r⟩
        rename_i hl
        rw [List.getElem?_set_self (by rw [h.1]; exact hl)]
      · cases q
    · rename_i hn
      exact absurd rfl hn
  · rw [List.getElem?_set_ne e] at q
    obtain ⟨y, q1, q2⟩ := h.2 j w q
    exact ⟨y, by rw [List.getElem?_set_ne e]; exact q1, q2⟩
theorem RelS.unset {σ : L2.St} {l : Env} (h : RelS K c σ l) {i : Nat} : RelS K c (σ.set i none) (l.set i none) := by
  refine ⟨by rw [List.length_set, List.length_set]; exact h.1, fun j w q => ?_⟩
  by_cases e : i = j
  · subst e
    rw [List.getElem?_set] at q
    split at q
    · split at q <;> cases q
    · rename_i hn
      exact absurd rfl hn
  · rw [List.getElem?_set_ne e] at q
    obtain ⟨y, q1, q2⟩ := h.2 j w q
    exact ⟨y, by rw [List.getElem?_set_ne e]; exact q1, q2⟩
theorem RelS.wipe {σ : L2.St} {l : Env} (h : RelS K c σ l) : ∀ vs : List Nat, RelS K c (L2.wipe σ vs) (wipeE l vs)
  | [] => h
  | v :: vs => by
    unfold L2.wipe wipeE
    exact (RelS.wipe h vs).unset
/-! ### what a run gives -/
/-- how an error lies: its class, its own dict -/
def RepX (K : PySem.W.Frag) (c : Cf) (H : Hp) (cls : Value) (d : Option Addr) (x : Xn) : Prop := ∃ (dd : Addr) (us : List V) (fvs : List (Str × V)), cls = .ref (He.ga K x.d.name) ∧ d = some dd ∧ c.F dd = some (.xd fvs) ∧ Flds fvs x.d.fs us ∧ Reps K c us x.vs ∧ XcOk K x.d
def Run {α : Type} (K : PySem.W.Frag) (W : WX) (c : Cf) (σ : L2.St) (H : Hp) (r : R α) (Q : Cf → Hp → α → Sto → Prop) : Prop := match r with
  | .ok a st' => ∀ c' H', Ext c H c' H' → RelH K c' H' st' → Q c' H' a st'
  | .exn x st' => ∀ c' H' cls d, Ext c H c' H' → RelH K c' H' st' → RepX K c' H' cls d x → W cls d σ H'
  | .stuck => False
variable {W : WX} {σ : L2.St}
theorem Run.mono {α : Type} {r : R α} {Q Q' : Cf → Hp → α → Sto → Prop} (h : Run K W c σ H r Q) (f : ∀ c' H' a st', Ext c H c' H' → RelH K c' H' st' → Q c' H' a st' → Q' c' H' a st') : Run K W c σ H r Q' := by
  cases r with
  | ok a st => exact fun c' H' e q => f c' H' a st e q (h c' H' e q)
  | exn x st => exact h
  | stuck => exact h
theorem Run.eqn {α : Type} {r : R α} {Q : Cf → Hp → α → Sto → Prop} (h : Run K W c σ H r Q) : Run K W c σ H r (fun c' H' a st' => r = .ok a st' ∧ Q c' H' a st') := by
  cases r with
  | ok a st => exact fun c' H' e q => ⟨rfl, h c' H' e q⟩
  | exn x st => exact h
  | stuck => exact h
theorem Run.from {α : Type} {r : R α} {Q : Cf → Hp → α → Sto → Prop} (e : Ext c H c1 H1) (h : Run K W c σ H r Q) : Run K W c1 σ H1 r Q := by
  cases r with
  | ok a st => exact fun c' H' e' q => h c' H' (e.trans e') q
  | exn x st => exact fun c' H' cls d e' q => h c' H' cls d (e.trans e') q
  | stuck => exact h
theorem Run.bind {α β : Type} {r : R α} {f : α → Sto → R β} {Q : Cf → Hp → β → Sto → Prop} (h : Run K W c σ H (r.bind f) Q) : Run K W c σ H r (fun c1 H1 a st1 => Run K W c1 σ H1 (f a st1) Q) := by
  cases r with
  | ok a st => exact fun c' H' e q => Run.from e h
  | exn x st => exact h
  | stuck => exact h
/-- what is read as the value of ev -/
def tE (K : PySem.W.Frag) (W : WX) (f : Env → Sto → R Val) : TE := fun σ H Q => ∃ c l st, RelH K c H st ∧ RelS K c σ l ∧ Run K W c σ H (f l st) (fun c' H' v _ => ∀ x, Rep K c' x v → Q x H')
def tT (K : PySem.W.Frag) (W : WX) (f : Env → Sto → R Val) : TT := fun σ H Q => ∃ c l st, RelH K c H st ∧ RelS K c σ l ∧ Run K W c σ H (f l st) (fun c' H' v _ => ∃ b, v = .bl b ∧ Q b H')
end
theorem _root_.L2.PE.imp {X : Cx} {e : Expr} {t t' : TE} (h : PE X e t) (i : ∀ σ H Q, t' σ H Q → t σ H Q) : PE X e t' := ⟨fun pins s σ H Q I q => h.run pins s σ H Q I (i σ H Q q)⟩
theorem _root_.L2.PT.imp {X : Cx} {e : Expr} {t t' : TT} (h : PT X e t) (i : ∀ σ H Q, t' σ H Q → t σ H Q) : PT X e t' := ⟨fun pins s σ H Q I q => h.run pins s σ H Q I (i σ H Q q)⟩
/-! ### a new object, a changed one -/
section
variable {K : PySem.W.Frag} {c : Cf} {H : Hp} {st : Sto} {W : WX} {σ : L2.St}
theorem RelH.fresh (h : RelH K c H st) {p : Addr} (n : H p = none) : c.F p = none ∧ p ∉ c.φ := by
  refine ⟨h.sub.free n, fun m => ?_⟩
  obtain ⟨o, q⟩ := h.all p m
  rw [n] at q
  cases q
theorem same_up {H : Hp} {p : Addr} {o : HO} (h : H p = none) : Same H (upd H p o) := fun b x e => by
  rw [upd_ne (ne_of_none e h)]
  exact e
theorem nodup_at {α : Type} : ∀ {l : List α} {i j : Nat} {a : α}, l.Nodup → l[i]? = some a → l[j]? = some a → i = j
  | [], _, _, _, _, h, _ => by simp at h
  | x :: l, 0, 0, _, _, _, _ => rfl
  | x :: l, 0, j + 1, a, n, h1, h2 => by
    have e : x = a := by simpa using h1
    have m : a ∈ l := List.mem_of_getElem? (by simpa using h2)
    rw [← e] at m
    exact absurd m (List.nodup_cons.mp n).1
  | x :: l, i + 1, 0, a, n, h1, h2 => by
    have e : x = a := by simpa using h2
    have m : a ∈ l := List.mem_of_getElem? (by simpa using h1)
    rw [← e] at m
    exact absurd m (List.nodup_cons.mp n).1
  | x :: l, i + 1, j + 1, a, n, h1, h2 => by
    exact congrArg (· + 1) (nodup_at (List.nodup_cons.mp n).2 (show l[i]? = some a by simpa using h1) (show l[j]? = some a by simpa using h2))
/-- it never changes -/
theorem RelH.new (h : RelH K c H st) {p : Addr} (n : H p = none) (o : HO) : Ext c H ⟨upd c.F p o, c.φ⟩ (upd H p o) ∧ RelH K ⟨upd c.F p o, c.φ⟩ (upd H p o) st := by
  obtain ⟨nF, nφ⟩ := h.fresh n
  have e : Ext c H ⟨upd c.F p o, c.φ⟩ (upd H p o) := ⟨same_up nF, List.prefix_refl _, fun a u q na => ⟨same_up n a u q, na⟩, fun a u q na z => by
    show upd c.F p o a = none
    rw [upd_ne (ne_of_none q n)]
    exact z⟩
  refine ⟨e, ⟨fun a u q => ?_, h.len, h.nd, fun a m => ?_, fun k l q lv => ?_⟩⟩
  · have q : upd c.F p o a = some u := q
    by_cases ha : a = p
    · subst ha
      rw [upd_same] at q ⊢
      exact q
    · rw [upd_ne ha] at q ⊢
      exact h.sub a u q
  · obtain ⟨u, q⟩ := h.all a m
    exact ⟨u, same_up n a u q⟩
  · obtain ⟨a, vs, q1, q2, q3, q4⟩ := h.obo k l q lv
    have ne : a ≠ p := fun z => nφ (z ▸ List.mem_of_getElem? q1)
    exact ⟨a, vs, q1, by show upd c.F p o a = none; rw [upd_ne ne]; exact q2, same_up n a _ q3, q4.mono e⟩
/-- it is of the store -/
theorem RelH.pushO (h : RelH K c H st) {p : Addr} (n : H p = none) {u : HO} {o : Ob} (r : ObS K c u o) : Ext c H ⟨c.F, c.φ ++ [p]⟩ (upd H p u) ∧ RelH K ⟨c.F, c.φ ++ [p]⟩ (upd H p u) (st ++ [o]) := by
  obtain ⟨nF, nφ⟩ := h.fresh n
  have e : Ext c H ⟨c.F, c.φ ++ [p]⟩ (upd H p u) := ⟨Same.refl _, List.prefix_append _ _, fun a u q na => ⟨same_up n a u q, fun m => by
    rcases List.mem_append.mp m with m | m
    · exact na m
    · have z : a = p := by simpa using m
      rw [z, n] at q
      cases q⟩, fun _ _ _ _ z => z⟩
  refine ⟨e, ⟨h.sub.trans (same_up n), by show (c.φ ++ [p]).length = _; rw [List.length_append, List.length_append, h.len]; rfl, ?_, fun a m => ?_, fun k w q lv => ?_⟩⟩
  · show (c.φ ++ [p]).Nodup
    rw [List.nodup_append]
    exact ⟨h.nd, by simp, fun a ha b hb z => by
      have e : b = p := by simpa using hb
      rw [z, e] at ha
      exact nφ ha⟩
  · rcases List.mem_append.mp m with m | m
    · obtain ⟨u, q⟩ := h.all a m
      exact ⟨u, same_up n a u q⟩
    · have z : a = p := by simpa using m
      exact ⟨_, by rw [z]; exact upd_same⟩
  · by_cases hk : k < st.length
    · rw [List.getElem?_append_left hk] at q
      obtain ⟨a, us, q1, q2, q3, q4⟩ := h.obo k w q lv
      exact ⟨a, us, prefix_get (List.prefix_append _ _) q1, q2, same_up n a _ q3, q4.mono e⟩
    · rw [List.getElem?_append_right (by omega)] at q
      have e0 : k - st.length = 0 := by
        have := (List.getElem?_eq_some_iff.mp q).1
        simp at this
        omega
      rw [e0] at q
      have e1 : o = w := by
        simp at q
        exact q
      subst e1
      have ek : k = c.φ.length := by rw [h.len]; omega
      exact ⟨p, u, by show (c.φ ++ [p])[k]? = some p; rw [ek]; simp, nF, upd_same, r.mono e⟩
theorem RelH.push (h : RelH K c H st) {p : Addr} (n : H p = none) {vs : List V} {l : List Val} (r : Reps K c vs l) : Ext c H ⟨c.F, c.φ ++ [p]⟩ (upd H p (.lst vs)) ∧ RelH K ⟨c.F, c.φ ++ [p]⟩ (upd H p (.lst vs)) (st ++ [.lst l]) := h.pushO n (u := .lst vs) (o := .lst l) r
/-- an object of the store is changed -/
theorem RelH.putO (h : RelH K c H st) {n : Nat} {o0 o : Ob} (e0 : st[n]? = some o0) (lv0 : live o0 = true) {a : Addr} (ea : c.φ[n]? = some a) {u : HO} (r : ObS K c u o) : Ext c H c (upd H a u) ∧ RelH K c (upd H a u) (st.set n o) := by
  obtain ⟨a', vs0, q1, q2, q3, q4⟩ := h.obo n o0 e0 lv0
  have z : a' = a := Option.some.inj (q1.symm.trans ea)
  subst z
  have hlt : n < st.length := (List.getElem?_eq_some_iff.mp e0).1
  have ne : ∀ b, b ∉ c.φ → b ≠ a' := fun b nb z => nb (z ▸ List.mem_of_getElem? ea)
  refine ⟨⟨Same.refl _, List.prefix_refl _, fun b u q nb => ⟨by rw [upd_ne (ne b nb)]; exact q, nb⟩, fun _ _ _ _ z => z⟩, ⟨fun b u q => ?_, by rw [List.length_set]; exact h.len, h.nd, fun b m => ?_, fun k w q lv => ?_⟩⟩
  · have nb : b ≠ a' := fun z => by rw [z, q2] at q; cases q
    rw [upd_ne nb]
    exact h.sub b u q
  · by_cases hb : b = a'
    · exact ⟨_, by rw [hb]; exact upd_same⟩
    · obtain ⟨u, q⟩ := h.all b m
      exact ⟨u, by rw [upd_ne hb]; exact q⟩
  · by_cases hk : n = k
    · subst hk
      rw [List.getElem?_set_self hlt] at q
      cases q
      exact ⟨a', u, q1, q2, upd_same, r⟩
    · rw [List.getElem?_set_ne hk] at q
      obtain ⟨b, us, p1, p2, p3, p4⟩ := h.obo k w q lv
      have nb : b ≠ a' := fun z => by
        rw [z] at p1
        exact hk (nodup_at h.nd q1 p1)
      exact ⟨b, us, p1, p2, by rw [upd_ne nb]; exact p3, p4⟩
theorem RelH.put (h : RelH K c H st) {n : Nat} {l0 l : List Val} (e0 : st[n]? = some (Ob.lst l0)) {a : Addr} (ea : c.φ[n]? = some a) {vs : List V} (r : Reps K c vs l) : Ext c H c (upd H a (.lst vs)) ∧ RelH K c (upd H a (.lst vs)) (st.set n (.lst l)) := h.putO e0 rfl ea (u := .lst vs) (o := .lst l) r
/-- a list that is read -/
theorem RelH.lview (h : RelH K c H st) {x : V} {v : Val} {l : List Val} (r : Rep K c x v) (e : lview st v = some l) : ∃ a vs, x = .ref a ∧ H a = some (.lst vs) ∧ Reps K c vs l := by
  cases r with
  | lst h1 h2 =>
    cases e
    exact ⟨_, _, rfl, h.sub _ _ h1, h2⟩
  | @ref a n h1 =>
    have e' : (match st[n]? with | some (.lst l) => some l | _ => none) = some l := e
    split at e'
    · rename_i l' q
      cases e'
      obtain ⟨a', vs, q1, q2, q3, q4⟩ := h.obs n l q
      have z : a' = a := Option.some.inj (q1.symm.trans h1)
      subst z
      exact ⟨_, vs, rfl, q3, q4⟩
    · cases e'
  | _ => cases e
theorem RelH.sview (h : RelH K c H st) {x : V} {v : Val} {l : List Val} (r : Rep K c x v) (e : sview st v = some l) : ∃ a vs, x = .ref a ∧ (SqL K H a vs ∨ SqT K H a vs) ∧ Reps K c vs l := by
  cases r with
  | tup h1 h2 =>
    cases e
    exact ⟨_, _, rfl, .inr (tupT h.sub h1), h2⟩
  | gtp h1 h2 =>
    cases e
    exact ⟨_, _, rfl, .inr (SqT.mono h.sub h1), h2⟩
  | scr h1 =>
    cases e
    exact ⟨_, _, rfl, .inl (Same.seq h.sub h1), Reps.ints _⟩
  | lst h1 h2 =>
    obtain ⟨a, vs, e1, e2, e3⟩ := h.lview (.lst h1 h2) (show Pv.lview st (.lst _) = some l from e)
    exact ⟨a, vs, e1, .inl (.of e2), e3⟩
  | @ref a n h1 =>
    obtain ⟨a, vs, e1, e2, e3⟩ := h.lview (.ref h1) (show Pv.lview st (.ref n) = some l from e)
    exact ⟨a, vs, e1, .inl (.of e2), e3⟩
  | _ => cases e
theorem RelH.mlist (h : RelH K c H st) {x : V} {v : Val} {n : Nat} {l : List Val} (r : Rep K c x v) (e : mlist st v = some (n, l)) : ∃ a vs, x = .ref a ∧ st[n]? = some (Ob.lst l) ∧ c.φ[n]? = some a ∧ H a = some (.lst vs) ∧ Reps K c vs l := by
  cases r with
  | @ref a m h1 =>
    have e' : (match st[m]? with | some (.lst l) => some (m, l) | _ => none) = some (n, l) := e
    split at e'
    · rename_i l' q
      cases e'
      obtain ⟨a', vs, q1, q2, q3, q4⟩ := h.obs n l q
      have z : a' = a := Option.some.inj (q1.symm.trans h1)
      subst z
      exact ⟨_, vs, rfl, q, h1, q3, q4⟩
    · cases e'
  | _ => cases e
/-- what a new list asks -/
theorem run_newL {m : Bool} {l : List Val} {Q : Cf → Hp → Val → Sto → Prop} (h : RelH K c H st) (q : Run K W c σ H (newL m l st) Q) {p : Addr} (n : H p = none) {vs : List V} (r : Reps K c vs l) : ∃ c' v st', Rep K c' (.ref p) v ∧ Q c' (upd H p (.lst vs)) v st' := by
  cases m with
  | false =>
    obtain ⟨e, h'⟩ := h.new n (.lst vs)
    exact ⟨_, _, _, .lst (by exact upd_same) (r.mono e), q _ _ e h'⟩
  | true =>
    obtain ⟨e, h'⟩ := h.push n r
    exact ⟨_, _, _, .ref (by show (c.φ ++ [p])[st.length]? = some p; rw [← h.len]; simp), q _ _ e h'⟩
theorem run_tup {l : List Val} {Q : Cf → Hp → Val → Sto → Prop} (h : RelH K c H st) (q : Run K W c σ H (R.ok (.tup l) st) Q) {p : Addr} (n : H p = none) {vs : List V} (r : Reps K c vs l) : ∃ c', Rep K c' (.ref p) (.tup l) ∧ Q c' (upd H p (.tup vs)) (.tup l) st := by
  obtain ⟨e, h'⟩ := h.new n (.tup vs)
  exact ⟨_, .tup (by exact upd_same) (r.mono e), q _ _ e h'⟩
theorem Run.here {α : Type} {a : α} {Q : Cf → Hp → α → Sto → Prop} (q : Run K W c σ H (R.ok a st) Q) (h : RelH K c H st) : Q c H a st := q c H Ext.refl h
end
end Pv

set_option Elab.async false
set_option linter.all false
set_option maxRecDepth 100000
set_option maxHeartbeats 4000000
/-! tuple * int, also none and one. -/
namespace Pv
open PySem PySem.Spec PyProof.Rows L2
theorem tuple_mul1 (dd : Option Addr) (l : Addr) (items : Array Value) (n : Nat) (sl : Array (Option Value)) (u : Tok) :
    Meets (Builtin.«tuple.__mul__» ⟨[.ref l, .int 1 u], []⟩) (fun _ R s => s.heap.get? l = some { cls := .type "tuple", dict := dd, data := .seq items n, slots := sl } ∧ ∀ tk, R (.ok (.ret (Value.ref l))) { s with toks := tk }) :=
  .of_wp fun prog w A R s h => by
    obtain ⟨hp, g, d, tk, os⟩ := s
    obtain ⟨hl, h⟩ := h
    have f1 := AutoSeq1.idx_int
    have c1 : (items.isEmpty || (1 : Int) == 1) = true := by simp
    wp_walk using wpAny_loadPart' hl
    repeat (first
      | (refine wpAny_ite_false (decide_eq_false (by decide)) ?_; wp_walk using wpAny_loadPart' hl)
      | (refine wpAny_ite_true (by rw [c1]) ?_; wp_walk using wpAny_loadPart' hl))
    all_goals exact ⟨_, rfl, h _⟩
theorem tuple_mul0 (dd : Option Addr) (l : Addr) (items : Array Value) (n : Nat) (sl : Array (Option Value)) (x : Int) (u : Tok) (c0 : (decide (x < -(2 ^ 63)) || decide (x ≥ 2 ^ 63)) = false) (c1 : (items.isEmpty || x == 1) = false) (c2 : (decide (x ≤ 0) || items.isEmpty) = true) :
    Meets (Builtin.«tuple.__mul__» ⟨[.ref l, .int x u], []⟩) (fun _ R s => s.heap.get? l = some { cls := .type "tuple", dict := dd, data := .seq items n, slots := sl } ∧
      ∀ tk, R (.ok (.ret (Value.ref s.heap.objs.size))) { s with heap := s.heap.push { cls := Value.type "tuple", data := Data.seq #[] }, toks := tk }) :=
  .of_wp fun prog w A R s h => by
    obtain ⟨hp, g, d, tk, os⟩ := s
    obtain ⟨hl, h⟩ := h
    have f1 := AutoSeq1.idx_int
    wp_walk using wpAny_loadPart' hl
    repeat (first
      | (refine wpAny_ite_false (decide_eq_false (by rw [c0]; exact Bool.false_ne_true)) ?_; wp_walk using wpAny_loadPart' hl)
      | (refine wpAny_ite_false (decide_eq_false (by rw [c1]; exact Bool.false_ne_true)) ?_; wp_walk using wpAny_loadPart' hl)
      | (refine wpAny_ite_true (by rw [c2]) ?_; wp_walk using wpAny_loadPart' hl)
      | (refine wpAny_ite_true (decide_eq_true c2) ?_; wp_walk using wpAny_loadPart' hl))
    all_goals first | exact ⟨_, rfl, h _⟩
def rRepA (K : PySem.W.Frag) : R2 := fun x y H Q => ∃ l k xs, x = .ref l ∧ y = .int k ∧ SqT K H l xs ∧ xs ≠ [] ∧ -1000 ≤ k ∧ k ≤ 1000 ∧ xs.length ≤ 1000 ∧ (k = 1 → Q (.ref l) H) ∧ (k ≠ 1 → ∀ p, H p = none → Q (.ref p) (upd H p (.tup (List.replicate k.toNat xs).flatten)))
section
variable {X : Cx}
theorem op_repA : OpR X (binaryOp .Mult) (rRepA X.K) := by
  intro pins s σ H x y v u Q I rx ry h
  obtain ⟨l, k, xs, rfl, rfl, hT, hne, h1, h2, hz, q1, q0⟩ := h
  by_cases hk2 : 2 ≤ k
  · exact op_repT pins s σ H _ _ v u Q I rx ry ⟨l, k, xs, rfl, rfl, hT, hne, hk2, h2, hz, q0 (by omega)⟩
  cases rx
  obtain ⟨t, rfl⟩ := ry
  obtain ⟨its, r, tp, hs⟩ := I.tuple hT
  obtain ⟨⟨cls, dd, data, sl⟩, ho, hc, n, hd⟩ := id tp
  simp only at hc hd
  subst hc hd
  have hle : its.length = xs.length := r.length.symm
  have hn : its ≠ [] := fun e => hne (by
    rw [e] at hle
    exact List.eq_nil_of_length_eq_zero hle.symm)
  have hi : its.toArray.isEmpty = false := by
    cases its with
    | nil => exact absurd rfl hn
    | cons a b => rfl
  by_cases hk1 : k = 1
  · subst hk1
    refine wpAny_binaryOp_repeat_ref (T := "tuple") (U := "int") (by decide) ⟨_, ho, rfl⟩ (fun s' => typeIs_int s' 1 t) noFill_tuple_mul F.fills_int_mul F.slot_int_rmul repeat_tuple F.slot_int_index.lookup
      (call_meets F.slot_int_rmul (typeIs_int s 1 t) F.entry_int_rmul (F.args_int_rmul_2 _ _) (int_rmul_tuple 1 t l its.toArray n dd sl)
        ⟨ho, rfl, ⟨_, ho, rfl⟩, call_meets F.slot_tuple_mul ⟨_, ho, rfl⟩ F.entry_tuple_mul (F.args_tuple_mul_2 _ _) (tuple_mul1 dd l its.toArray n sl t) ⟨ho, fun tk => ?_⟩⟩)
    exact ⟨.ref l, H, I.tok _, rfl, q1 rfl⟩
  · have hk0 : k ≤ 0 := by omega
    have c0 : (decide (k < -(2 ^ 63)) || decide (k ≥ 2 ^ 63)) = false := by
      rw [decide_eq_false (by omega), decide_eq_false (by omega)] <;> rfl
    have c1 : (its.toArray.isEmpty || k == 1) = false := by
      rw [hi, Bool.false_or]
      exact beq_eq_false_iff_ne.mpr (by omega)
    have c2 : (decide (k ≤ 0) || its.toArray.isEmpty) = true := by
      rw [decide_eq_true hk0]
      rfl
    refine wpAny_binaryOp_repeat_ref (T := "tuple") (U := "int") (by decide) ⟨_, ho, rfl⟩ (fun s' => typeIs_int s' k t) noFill_tuple_mul F.fills_int_mul F.slot_int_rmul repeat_tuple F.slot_int_index.lookup
      (call_meets F.slot_int_rmul (typeIs_int s k t) F.entry_int_rmul (F.args_int_rmul_2 _ _) (int_rmul_tuple k t l its.toArray n dd sl)
        ⟨ho, rfl, ⟨_, ho, rfl⟩, call_meets F.slot_tuple_mul ⟨_, ho, rfl⟩ F.entry_tuple_mul (F.args_tuple_mul_2 _ _) (tuple_mul0 dd l its.toArray n sl k t c0 c1 c2) ⟨ho, fun tk => ?_⟩⟩)
    have ez : (List.replicate k.toNat xs).flatten = [] := by
      rw [show k.toNat = 0 by omega]
      rfl
    have q := q0 hk1 _ (I.hok.fresh (Nat.le_refl _))
    rw [ez] at q
    refine ⟨.ref s.heap.objs.size, _, I.laid (t' := tk) (o := .tup []) (fun b ob q => Heap.get?_push_of_some _ q) (Nat.le_refl _) ?_, rfl, q⟩
    exact ⟨by decide, _, .nil, IsTup.new _ _⟩
end
/-! str * int -/
theorem fold_size (a : Array Nat) : ∀ (n : Nat) (b : Array Nat), ((List.replicate n a).foldl (· ++ ·) b).size = b.size + n * a.size
  | 0, b => by simp
  | n + 1, b => by
    rw [List.replicate_succ, List.foldl_cons, fold_size a n (b ++ a), Array.size_append, Nat.succ_mul]
    omega
section
variable {X : Cx}
theorem op_mul_str : OpR X (binaryOp .Mult) (fun x y H Q => ∃ z k, x = .str z ∧ y = .int k ∧ z.length ≤ 1000 ∧ -1000 ≤ k ∧ k ≤ 1000 ∧ Q (.str (strRep z k)) H) := by
  intro pins s σ H x y v u Q I rx ry h
  obtain ⟨z, k, rfl, rfl, h1, h2, h3, q⟩ := h
  obtain ⟨t, rfl⟩ := rx
  obtain ⟨t', rfl⟩ := ry
  have hl : z.length * k.toNat ≤ 1000 * 1000 := Nat.mul_le_mul h1 (by omega)
  refine P.mul_str (by
    rw [decide_eq_false (by omega), decide_eq_false (by omega)] <;> rfl) (fun c1 c2 => ?_) (fun c1 c2 => ?_) ?_
  · have : (9223372036854775807 : Int) / k ≥ 1000 := by
      have := Int.le_ediv_of_mul_le (a := 1000) (b := 9223372036854775807) (c := k) (by omega) (by omega)
      exact this
    have e : ((2 : Int) ^ 63 - 1) = 9223372036854775807 := rfl
    rw [e]
    omega
  · show decide (_ > sizeLine) = false
    refine decide_eq_false ?_
    show ¬ _ > 2 ^ 24
    omega
  · unfold strRep at q
    split
    · rename_i c1
      rw [if_pos c1] at q
      exact ⟨by decide, .str Str.empty, H, I.tok _, ⟨_, rfl⟩, q⟩
    · rename_i c1
      rw [if_neg c1] at q
      split
      · rename_i c2
        rw [if_pos c2] at q
        exact ⟨.str z, H, I, ⟨_, rfl⟩, q⟩
      · rename_i c2
        rw [if_neg c2] at q
        exact ⟨by
          have := fold_size z.cps k.toNat #[]
          show Array.size _ ≤ sizeLine
          rw [this]
          show 0 + k.toNat * z.length ≤ 2 ^ 24
          rw [Nat.mul_comm]
          omega, .str _, H, I.tok _, ⟨_, rfl⟩, q⟩
end
/-! // where the divisor is not much smaller, or not great -/
theorem noPylong_ok {i j : Int} (h : divOk i j) : Builtin.divisionGoesByPylong i j = false := by
  rcases h.2 with h2 | h2
  · exact PyProof.noPylong_of_log2 h2
  · have hj : (j == 0) = false := by
      have := h.1
      simp
      omega
    show (decide ((if j == 0 then 0 else j.natAbs.log2 / 30 + 1) > 300) && decide ((if i == 0 then 0 else i.natAbs.log2 / 30 + 1) > (if j == 0 then 0 else j.natAbs.log2 / 30 + 1) + 150)) = false
    rw [hj]
    have : ¬ ((if (i == 0) = true then 0 else i.natAbs.log2 / 30 + 1) > (if false = true then 0 else j.natAbs.log2 / 30 + 1) + 150) := by
      rw [if_neg Bool.false_ne_true]
      split <;> omega
    rw [decide_eq_false this, Bool.and_false]
section
variable {X : Cx}
theorem op_fdivX : OpR X (binaryOp .FloorDiv) (rI divOk fun i j => .int (i / j)) := L2.opI fun i j _ _ _ _ _ hc q => by
  have h1 : (0 : Int) < j := hc.1
  exact floordiv_int (by omega) (by rw [Int.fdiv_eq_ediv_of_nonneg i (by omega)]; exact q) (.inl (noPylong_ok hc))
theorem iop_fdivX : OpR X (inplaceOp .FloorDiv) (rI divOk fun i j => .int (i / j)) := L2.opI fun i j _ _ _ _ _ hc q => by
  have h1 : (0 : Int) < j := hc.1
  exact ifloordiv_int (by omega) (by rw [Int.fdiv_eq_ediv_of_nonneg i (by omega)]; exact q) (.inl (noPylong_ok hc))
end
end Pv

set_option Elab.async false
set_option linter.all false
set_option maxRecDepth 100000
set_option maxHeartbeats 4000000
namespace HT
open PySem PySem.Spec PyProof.Rows
section
variable {prog : Program} {w : World} {A : Around} {E : Value → Shared → Prop} {s : Shared}
theorem fm_congr {α β : Type} {f g : α → Option β} : ∀ {l : List α}, (∀ a ∈ l, f a = g a) → l.filterMap f = l.filterMap g
  | [], _ => rfl
  | a :: l, h => by
    rw [List.filterMap_cons, List.filterMap_cons, h a List.mem_cons_self, fm_congr fun b hb => h b (List.mem_cons_of_mem _ hb)]
theorem adjust_rev (n : Nat) : Builtin.Slice.sliceAdjust none none (-1) (n : Int) = ((n : Int) - 1, -1) := by
  unfold Builtin.Slice.sliceAdjust
  simp
theorem places_rev (n : Nat) : Builtin.Slice.slicePlaces ((n : Int) - 1) (-1) (-1) = n := by
  unfold Builtin.Slice.slicePlaces
  have h1 : ¬ ((-1 : Int) > 0) := by omega
  simp only [h1, if_false]
  by_cases h : (n : Int) - 1 > -1
  · rw [if_pos h]
    have : ((n : Int) - 1 - -1 - 1) / - -1 + 1 = (n : Int) := by
      rw [show (- -1 : Int) = 1 by omega, Int.ediv_one]
      omega
    rw [this]
    exact Int.toNat_natCast n
  · rw [if_neg h]
    omega
theorem pick_rev (xs : Array Value) : ((List.range xs.size).filterMap fun (m : Nat) => xs[((xs.size : Int) - 1 + (m : Int) * (-1)).toNat]?).toArray = xs.toList.reverse.toArray := by
  congr 1
  have e : (List.range xs.size).filterMap (fun (m : Nat) => xs[((xs.size : Int) - 1 + (m : Int) * (-1)).toNat]?) = (List.range xs.size).filterMap (fun m => xs.toList.reverse[m]?) := by
    refine fm_congr fun m hm => ?_
    have hm' : m < xs.size := by simpa using hm
    have : ((xs.size : Int) - 1 + (m : Int) * (-1)).toNat = xs.size - 1 - m := by omega
    rw [this, List.getElem?_reverse (by simpa using hm')]
    simp
  rw [e]
  have := pick_run xs.toList.reverse.toArray 0 xs.size
  have e3 : ∀ (ys : List Value) (n : Nat), n = ys.length → (List.range n).filterMap (fun m => ys[m]?) = ys := by
    intro ys
    induction ys with
    | nil => intro n hn; subst hn; rfl
    | cons y ys ih =>
      intro n hn
      subst hn
      rw [List.length_cons, List.range_succ_eq_map, List.filterMap_cons]
      simp only [List.getElem?_cons_zero, List.filterMap_map]
      congr 1
      exact ih _ rfl
  exact e3 _ _ (by simp)
theorem sliceApplied_rev {sl : Addr} {vl vu vs : Value} {n : Nat} {Q : Int × Int × Nat → Shared → Prop} (hs : s.heap.IsSliceOf sl vl vu vs) (pl : IsPart vl none) (pu : IsPart vu none) (ps : IsPart vs (some (-1)))
    (h : Q ((n : Int) - 1, -1, n) s) : wpAny (model prog w) A (Builtin.Slice.sliceApplied (.ref sl) (pure (n : Int))) Q E s := by
  obtain ⟨os, hos, hcs, hds⟩ := id hs
  unfold Builtin.Slice.sliceApplied Builtin.Slice.sliceFields
  refine wpAny_bind (wpAny_bind (wpAny_field hos hds (x := vl) rfl (wpAny_bind (wpAny_field hos hds (x := vu) rfl (wpAny_bind (wpAny_field hos hds (x := vs) rfl (wpAny_pure ?_)))))))
  refine wpAny_bind (slicePart_ ps ?_)
  show wpAny _ _ (if ((-1 : Int) == 0) = true then _ else _) _ _ s
  rw [if_neg (by decide)]
  refine wpAny_bind (slicePart_ pl (wpAny_bind (slicePart_ pu (wpAny_bind (wpAny_pure ?_)))))
  show wpAny _ _ (match Builtin.Slice.sliceAdjust none none (-1) (n : Int) with | (lo, hi) => pure (lo, (-1 : Int), Builtin.Slice.slicePlaces lo hi (-1))) _ _ s
  rw [adjust_rev n]
  show wpAny _ _ (pure ((n : Int) - 1, (-1 : Int), Builtin.Slice.slicePlaces ((n : Int) - 1) (-1) (-1))) _ _ s
  rw [places_rev]
  exact wpAny_pure h
theorem getItem_tuple_rev {t sl : Addr} {items : Array Value} {vl vu vs : Value} {Q : Value → Shared → Prop} (ht : IsTup s.heap t items) (hs : s.heap.IsSliceOf sl vl vu vs) (pl : IsPart vl none) (pu : IsPart vu none) (ps : IsPart vs (some (-1)))
    (h : Q (.ref s.heap.objs.size) { s with heap := s.heap.push { cls := .type "tuple", data := .seq items.toList.reverse.toArray } })
    (hsz : items.size ≤ sizeLine) : wpAny (model prog w) A (getItem (.ref t) (.ref sl)) Q E s := by
  have htake : sizeOk (.seq items.toList.reverse.toArray) := by
    show items.toList.reverse.toArray.size ≤ sizeLine
    rw [List.size_toArray, List.length_reverse, Array.length_toList]
    omega
  obtain ⟨os, hos, hcs, hds⟩ := id hs
  have hTs : s.TypeIs (.ref sl) "slice" := ⟨os, hos, hcs⟩
  unfold getItem
  try with_reducible refine wpAny_holding ?_
  first | refine wpAny_bind (wpAny_pure ?_) | skip
  refine wpAny_bind (wpAny_sequenceKey ht.typeIs (by decide) ?_)
  refine wpAny_bind (wpAny_callSpecial?_slot (name := Str.ofString "__getitem__") ht.typeIs PyProof.Rows.slot_tuple_getitem
    (wpAny_call_entry PyProof.Rows.slot_tuple_getitem ht.typeIs entry_tuple_getitem ?_ (args_tuple_getitem _ _)))
  show wpAny _ _ (Builtin.Tuple.tupleItemsOf (.ref t) >>= _) _ _ s
  refine wpAny_bind (tupleItemsOf_ ht ?_)
  refine wpAny_bind (wpAny_typeOf hTs ?_)
  rw [if_pos (by decide)]
  refine wpAny_bind (sliceApplied_rev hs pl pu ps ?_)
  have hno : ¬ (((items.size : Int) - 1 == 0 && (-1 : Int) == 1 && items.size == items.size) = true) := by
    intro q
    rw [Bool.and_eq_true, Bool.and_eq_true] at q
    exact absurd q.1.2 (by decide)
  show wpAny _ _ (if ((items.size : Int) - 1 == 0 && (-1 : Int) == 1 && items.size == items.size) = true then _ else _) _ _ s
  rw [if_neg hno, pick_rev]
  first
    | exact wpAny_bind (m := Builtin.Tuple.tupleExact _) (wpAny_newObj_type (wpAny_pure ⟨_, rfl, wpAny_pure h⟩) htake)
    | exact wpAny_bind (m := Builtin.Tuple.tupleExact _) (wpAny_newObj_type (wpAny_bind (wpAny_pure (wpAny_pure ⟨_, rfl, wpAny_pure h⟩))) htake)
    | exact wpAny_bind (wpAny_bind (m := Builtin.Tuple.tupleExact _) (wpAny_newObj_type (wpAny_pure (wpAny_pure ⟨_, rfl, wpAny_pure h⟩)) htake))
    | exact wpAny_bind (wpAny_bind (m := Builtin.Tuple.tupleExact _) (wpAny_newObj_type (wpAny_pure ⟨_, rfl, wpAny_pure h⟩) htake))
end
end HT
namespace Pv
open PySem PySem.Spec PyProof.Rows L2
/-! ### the operations -/
section
variable {X : Cx}
def rOp (K : PySem.W.Frag) (f : Val → Val → Sto → R Val) : R2 := fun x y H Q => ∃ c v w st σ W, RelH K c H st ∧ Rep K c x v ∧ Rep K c y w ∧ Run K W c σ H (f v w st) (fun c' H' z _ => ∀ Z, Rep K c' Z z → Q Z H')
theorem binR (o : Op) : OpR X (binaryOp (opM o)) (rOp X.K (binEv o)) := by
  intro pins s σ H x y u v Q I rx ry h
  obtain ⟨c, a, b, st, σ', W, hH, hx, hy, q⟩ := h
  unfold binEv at q
  split at q
  · rename_i i j
    cases hx
    cases hy
    cases o with
    | add => exact op_add pins s σ H _ _ _ _ Q I rx ry ⟨i, j, rfl, rfl, q.here hH _ (.int _)⟩
    | sub => exact op_sub pins s σ H _ _ _ _ Q I rx ry ⟨i, j, rfl, rfl, q.here hH _ (.int _)⟩
    | mul =>
      simp only [opI] at q
      split at q
      · rename_i k e
        split at e
        · rename_i hm
          cases e
          rcases hm with hm | hm | hm
          · exact op_mul pins s σ H _ _ _ _ Q I rx ry ⟨i, j, rfl, rfl, .inl hm, q.here hH _ (.int _)⟩
          · exact op_mul pins s σ H _ _ _ _ Q I rx ry ⟨i, j, rfl, rfl, .inr hm, q.here hH _ (.int _)⟩
          · exact op_mulW pins s σ H _ _ _ _ Q I rx ry ⟨i, j, rfl, rfl, hm, q.here hH _ (.int _)⟩
        · cases e
      · exact q.elim
    | fdiv =>
      simp only [opI] at q
      split at q
      · rename_i k e
        split at e
        · rename_i hm
          cases e
          exact op_fdivX pins s σ H _ _ _ _ Q I rx ry ⟨i, j, rfl, rfl, hm, q.here hH _ (.int _)⟩
        · cases e
      · exact q.elim
    | mod =>
      simp only [opI] at q
      split at q
      · rename_i k e
        split at e
        · rename_i hm
          cases e
          exact op_mod pins s σ H _ _ _ _ Q I rx ry ⟨i, j, rfl, rfl, hm, q.here hH _ (.int _)⟩
        · cases e
      · exact q.elim
    | pow =>
      simp only [opI] at q
      split at q
      · rename_i k e
        split at e
        · rename_i hm
          cases e
          exact op_pow pins s σ H _ _ _ _ Q I rx ry ⟨i, j, rfl, rfl, hm, q.here hH _ (.int _)⟩
        · cases e
      · exact q.elim
    | shl =>
      simp only [opI] at q
      split at q
      · rename_i k e
        split at e
        · rename_i hm
          cases e
          exact op_shl pins s σ H _ _ _ _ Q I rx ry ⟨i, j, rfl, rfl, hm, q.here hH _ (.int _)⟩
        · cases e
      · exact q.elim
    | shr =>
      simp only [opI] at q
      split at q
      · rename_i k e
        split at e
        · rename_i hm
          cases e
          exact op_shr pins s σ H _ _ _ _ Q I rx ry ⟨i, j, rfl, rfl, hm, q.here hH _ (.int _)⟩
        · cases e
      · exact q.elim
    | band => exact op_and pins s σ H _ _ _ _ Q I rx ry ⟨i, j, rfl, rfl, q.here hH _ (.int _)⟩
  · rename_i xs ys
    cases o with
    | add =>
      simp only at q
      split at q
      · rename_i hz
        cases hx with
        | @tup a vs _ h1 h2 =>
        cases hy with
        | @tup b ws _ h3 h4 =>
        refine op_catA pins s σ H _ _ _ _ Q I rx ry ⟨a, b, vs, ws, rfl, rfl, tupT hH.sub h1, tupT hH.sub h3, by rw [h2.length, h4.length]; exact hz, fun e => ?_, fun e1 e2 => ?_, fun e1 e2 p n => ?_⟩
        · subst e
          cases h2
          exact q.here hH _ (.tup h3 h4)
        · subst e2
          cases h4
          rw [List.append_nil] at q
          exact q.here hH _ (.tup h1 h2)
        · obtain ⟨c', r, q'⟩ := run_tup hH q n (h2.append h4)
          exact q' _ r
      · exact q.elim
    | _ => exact q.elim
  · rename_i xs k
    cases o with
    | mul =>
      simp only at q
      split at q
      · rename_i hz
        cases hy
        cases hx with
        | @tup a vs _ h1 h2 =>
        refine op_repA pins s σ H _ _ _ _ Q I rx ry ⟨a, k, vs, rfl, rfl, tupT hH.sub h1, fun e => hz.1 ?_, hz.2.1, hz.2.2.1, by rw [h2.length]; exact hz.2.2.2, fun e => ?_, fun _ p n => ?_⟩
        · subst e
          cases h2
          rfl
        · subst e
          have e1 : (List.replicate (1 : Int).toNat xs).flatten = xs := by
            show (List.replicate 1 xs).flatten = xs
            simp
          rw [e1] at q
          exact q.here hH _ (.tup h1 h2)
        · obtain ⟨c', r, q'⟩ := run_tup hH q n (h2.rep k.toNat)
          exact q' _ r
      · exact q.elim
    | _ => exact q.elim
  · rename_i z y
    cases o with
    | add =>
      simp only at q
      split at q
      · rename_i hz
        cases hx
        cases hy
        exact op_add_str pins s σ H _ _ _ _ Q I rx ry ⟨z, y, rfl, rfl, hz, q.here hH _ (.str _)⟩
      · exact q.elim
    | _ => exact q.elim
  · rename_i z k
    cases o with
    | mul =>
      simp only at q
      split at q
      · rename_i hz
        cases hx
        cases hy
        exact op_mul_str pins s σ H _ _ _ _ Q I rx ry ⟨z, k, rfl, rfl, hz.1, hz.2.1, hz.2.2, q.here hH _ (.str _)⟩
      · exact q.elim
    | _ => exact q.elim
  · exact q.elim
theorem catR (m : Bool) : OpR X (binaryOp .Add) (rOp X.K (catEv m)) := by
  intro pins s σ H x y u v Q I rx ry h
  obtain ⟨c, a, b, st, σ', W, hH, hx, hy, q⟩ := h
  unfold catEv at q
  split at q
  · rename_i l1 l2 e1 e2
    split at q
    · rename_i hz
      obtain ⟨p1, vs, rfl, q1, r1⟩ := hH.lview hx e1
      obtain ⟨p2, ws, rfl, q2, r2⟩ := hH.lview hy e2
      refine op_cat pins s σ H _ _ _ _ Q I rx ry ⟨p1, p2, vs, ws, rfl, rfl, q1, q2, by rw [r1.length, r2.length]; exact hz, fun p n => ?_⟩
      obtain ⟨c', v', st', r, q'⟩ := run_newL hH q n (r1.append r2)
      exact q' _ r
    · exact q.elim
  · exact q.elim
theorem repR (m : Bool) : OpR X (binaryOp .Mult) (rOp X.K (repEv m)) := by
  intro pins s σ H x y u v Q I rx ry h
  obtain ⟨c, a, b, st, σ', W, hH, hx, hy, q⟩ := h
  unfold repEv at q
  split at q
  · rename_i l1 k e1
    split at q
    · rename_i hz
      cases hy
      obtain ⟨p1, vs, rfl, q1, r1⟩ := hH.lview hx e1
      refine op_rep pins s σ H _ _ _ _ Q I rx ry ⟨p1, k, vs, rfl, rfl, q1, hz.1, hz.2.1, by rw [r1.length]; exact hz.2.2, fun p n => ?_⟩
      obtain ⟨c', v', st', r, q'⟩ := run_newL hH q n (r1.rep k.toNat)
      exact q' _ r
    · exact q.elim
  · exact q.elim
/-! comparisons -/
/-- i in range(lo, hi, c) -/
theorem rg_meets (r : Addr) (a b c i : Int) (t u v k : Tok) :
    Meets (Builtin.«range.__contains__» ⟨[.ref r, .int i k], []⟩) (fun _ R s => s.heap.get? r = some { cls := .type "range", dict := none, data := .fields #[.int a t, .int b u, .int c v], slots := #[] } ∧
      R (.ok (.ret (.bool (Builtin.Range.rangePlace? a b c i).isSome))) s) :=
  .of_wp fun prog w A R s h => by
    obtain ⟨hp, g, d, tk, os⟩ := s
    obtain ⟨hl, h⟩ := h
    wp_walk
    exact ⟨_, rfl, h⟩
theorem rg_has {pins : List (Addr × Obj)} {s : Shared} {σ : L2.St} {H : Hp} {a : Addr} {lo hi d i : Int} {k : Tok} {R : Bool → Shared → Prop} {E : Value → Shared → Prop} (I : L2.Inv X pins σ H s) (hr : H a = some (.ext (rngφ a lo hi d))) (q : R (Builtin.Range.rangePlace? lo hi d i).isSome s) :
    wpAny (model X.prog X.w) X.A (contains (.ref a) (.int i k)) R E s := by
  obtain ⟨⟨t1, t2, t3, ho⟩, _, _⟩ := I.hok a _ hr
  exact wpAny_contains_slot (T := "range") ⟨_, ho, rfl⟩ F.slot_range_contains (call_meets F.slot_range_contains ⟨_, ho, rfl⟩ F.entry_range_contains (F.args_range_contains_2 _ _) (rg_meets a lo hi d i t1 t2 t3 k) ⟨ho, wpAny_truthy_bool q⟩)
theorem rg_in {pins : List (Addr × Obj)} {s : Shared} {σ : L2.St} {H : Hp} {a : Addr} {lo hi d i : Int} {u v : Value} {Q : VK} (ru : L2.RelV (.int i) u) (rv : L2.RelV (.ref a) v) (I : L2.Inv X pins σ H s) (hr : H a = some (.ext (rngφ a lo hi d))) (q : Q (.bl (Builtin.Range.rangePlace? lo hi d i).isSome) H) :
    wpAny (model X.prog X.w) X.A (compareOp .In u v) (EP X pins σ Q) X.xe s := by
  obtain ⟨k, rfl⟩ := ru
  obtain rfl : v = Value.ref a := rv
  show wpAny _ _ (do return Value.bool (← contains (Value.ref a) (Value.int i k))) _ _ s
  exact wpAny_bind (rg_has I hr (wpAny_pure ⟨.bl _, H, I, rfl, q⟩))
theorem rg_nin {pins : List (Addr × Obj)} {s : Shared} {σ : L2.St} {H : Hp} {a : Addr} {lo hi d i : Int} {u v : Value} {Q : VK} (ru : L2.RelV (.int i) u) (rv : L2.RelV (.ref a) v) (I : L2.Inv X pins σ H s) (hr : H a = some (.ext (rngφ a lo hi d))) (q : Q (.bl (!(Builtin.Range.rangePlace? lo hi d i).isSome)) H) :
    wpAny (model X.prog X.w) X.A (compareOp .NotIn u v) (EP X pins σ Q) X.xe s := by
  obtain ⟨k, rfl⟩ := ru
  obtain rfl : v = Value.ref a := rv
  show wpAny _ _ (do return Value.bool (!(← contains (Value.ref a) (Value.int i k)))) _ _ s
  exact wpAny_bind (rg_has I hr (wpAny_pure ⟨.bl _, H, I, rfl, q⟩))
mutual
theorem Rep.dp {K : PySem.W.Frag} {c : Cf} {H : Hp} (hs : Same c.F H) {x : V} {v : Val} {d : PyData} (h : Rep K c x v) (e : toD0 v = some d) : Dp K H x d := by
  cases h with
  | non => simp only [toD0] at e; cases e; exact .non
  | bl b => simp only [toD0] at e; cases e; exact .bl b
  | int i => simp only [toD0] at e; cases e; exact .int i
  | str s => simp only [toD0] at e; cases e; exact .str s
  | @tup a vs l h1 h2 =>
    simp only [toD0] at e
    cases q : toDs0 l with
    | none => rw [q] at e; cases e
    | some ds =>
      rw [q] at e
      cases e
      exact .tup (tupT hs h1) (Reps.dp hs h2 q)
  | @gtp a vs l h1 h2 =>
    simp only [toD0] at e
    cases q : toDs0 l with
    | none => rw [q] at e; cases e
    | some ds =>
      rw [q] at e
      cases e
      exact .tup (SqT.mono hs h1) (Reps.dp hs h2 q)
  | @lst a vs l h1 h2 =>
    simp only [toD0] at e
    cases q : toDs0 l with
    | none => rw [q] at e; cases e
    | some ds =>
      rw [q] at e
      cases e
      exact .lst (.of (hs _ _ h1)) (Reps.dp hs h2 q)
  | @scr a l h1 =>
    simp only [toD0] at e
    cases e
    refine .lst (Same.seq hs h1) ?_
    clear h1
    induction l with
    | nil => exact .nil
    | cons n r ih => exact .cons (.int n) ih
  | ref h1 => simp only [toD0] at e; cases e
  | rng h1 => simp only [toD0] at e; cases e
  | exc h1 h2 h3 h4 h5 => simp only [toD0] at e; cases e
termination_by sizeOf v
theorem Reps.dp {K : PySem.W.Frag} {c : Cf} {H : Hp} (hs : Same c.F H) {xs : List V} {l : List Val} {ds : List PyData} (h : Reps K c xs l) (e : toDs0 l = some ds) : DpAll K H xs ds := by
  cases h with
  | nil => simp only [toDs0] at e; cases e; exact .nil
  | @cons v vs d l h1 h2 =>
    simp only [toDs0] at e
    cases q1 : toD0 d with
    | none => rw [q1] at e; cases e
    | some d1 =>
      cases q2 : toDs0 l with
      | none => rw [q1, q2] at e; cases e
      | some d2 =>
        rw [q1, q2] at e
        cases e
        exact .cons (Rep.dp hs h1 q1) (Reps.dp hs h2 q2)
termination_by sizeOf l
end
theorem RelH.dp {K : PySem.W.Frag} {c : Cf} {H : Hp} {st : Sto} (hH : RelH K c H st) {x : V} {v : Val} {d : PyData} (h : Rep K c x v) (e : toD st v = some d) : Dp K H x d := by
  cases h with
  | @ref a n h1 =>
    have e' : (match st[n]? with | some (.lst l) => (toDs0 l).map .list | _ => none) = some d := e
    split at e'
    · rename_i l q
      cases q2 : toDs0 l with
      | none => rw [q2] at e'; cases e'
      | some ds =>
        rw [q2] at e'
        cases e'
        obtain ⟨a', vs, p1, p2, p3, p4⟩ := hH.obs n l q
        have z : a' = a := Option.some.inj (p1.symm.trans h1)
        subst z
        exact .lst (.of p3) (Reps.dp hH.sub p4 q2)
    · cases e'
  | non => exact Rep.dp hH.sub .non e
  | bl b => exact Rep.dp hH.sub (.bl b) e
  | int i => exact Rep.dp hH.sub (.int i) e
  | str z => exact Rep.dp hH.sub (.str z) e
  | rng h1 => exact Rep.dp hH.sub (.rng h1) e
  | exc h1 h2 h3 h4 h5 => exact Rep.dp hH.sub (.exc h1 h2 h3 h4 h5) e
  | tup h1 h2 => exact Rep.dp hH.sub (.tup h1 h2) e
  | gtp h1 h2 => exact Rep.dp hH.sub (.gtp h1 h2) e
  | lst h1 h2 => exact Rep.dp hH.sub (.lst h1 h2) e
  | scr h1 => exact Rep.dp hH.sub (.scr h1) e
/-- the two answers of == -/
theorem eqR (hu : X.A.units + 64 < cLine) {c : Cf} {H : Hp} {st : Sto} (hH : RelH X.K c H st) {x y : V} {a b : Val} (hx : Rep X.K c x a) (hy : Rep X.K c y b) {k : Bool} (e : eqEv st a b = some k) :
    ((∀ Q : VK, Q (.bl k) H → rEq x y H Q ∨ rEqD X.K x y H Q) ∧ ∀ Q : VK, Q (.bl (!k)) H → rNe x y H Q ∨ rNeD X.K x y H Q) := by
  unfold eqEv at e
  split at e
  · rename_i i j
    cases hx
    cases hy
    cases e
    have z : decide (V.int i = V.int j) = decide (i = j) := by rw [dec_int]; exact Bool.beq_eq_decide_eq ..
    exact ⟨fun Q q => .inl ⟨rfl, by rw [z]; exact q⟩, fun Q q => .inl ⟨rfl, by rw [z]; exact q⟩⟩
  · rename_i i j
    cases hx
    cases hy
    cases e
    have z : decide (V.bl i = V.bl j) = decide (i = j) := by rw [dec_bl]; exact Bool.beq_eq_decide_eq ..
    exact ⟨fun Q q => .inl ⟨rfl, by rw [z]; exact q⟩, fun Q q => .inl ⟨rfl, by rw [z]; exact q⟩⟩
  · rename_i i j
    cases hx
    cases hy
    cases e
    have z : decide (V.str i = V.str j) = decide (i = j) := by rw [dec_str]; exact Bool.beq_eq_decide_eq ..
    exact ⟨fun Q q => .inl ⟨rfl, by rw [z]; exact q⟩, fun Q q => .inl ⟨rfl, by rw [z]; exact q⟩⟩
  · split at e
    · rename_i d d' e1 e2
      split at e
      · rename_i hs
        cases e
        have p1 := hH.dp hx e1
        have p2 := hH.dp hy e2
        exact ⟨fun Q q => .inr ⟨d, d', p1, p2, hs.1, hs.2, q⟩, fun Q q => .inr ⟨d, d', p1, p2, hs.1, hs.2, q⟩⟩
      · cases e
    · cases e
theorem flat_V {K : PySem.W.Frag} {c : Cf} {x : V} {v : Val} (h : Rep K c x v) (f : flat v = true) : flatV x = true := by
  cases h <;> first | rfl | cases f
theorem feq_V {K : PySem.W.Frag} {c : Cf} {x y : V} {v w : Val} (h : Rep K c x v) (h' : Rep K c y w) (f : flat v = true) (f' : flat w = true) : eqV y x = feq w v := by
  cases h <;> first | (cases f; done) | (cases h' <;> first | (cases f'; done) | rfl)
theorem flats_V {K : PySem.W.Frag} {c : Cf} : ∀ {xs : List V} {l : List Val}, Reps K c xs l → l.all flat = true → xs.all flatV = true
  | _, _, .nil, _ => rfl
  | _, _, .cons r t, h => by
    rw [List.all_cons, Bool.and_eq_true] at h ⊢
    exact ⟨flat_V r h.1, flats_V t h.2⟩
theorem in_V {K : PySem.W.Frag} {c : Cf} {x : V} {v : Val} (h : Rep K c x v) (f : flat v = true) : ∀ {xs : List V} {l : List Val}, Reps K c xs l → l.all flat = true → inV x xs = l.any fun y => feq y v
  | _, _, .nil, _ => rfl
  | _, _, .cons r t, g => by
    rw [List.all_cons, Bool.and_eq_true] at g
    show (_ :: _).any (fun y => eqV y x) = (_ :: _).any _
    rw [List.any_cons, List.any_cons, feq_V h r f g.1]
    have ih := in_V h f t g.2
    unfold inV at ih
    rw [ih]
theorem cmR (o : Cm) (hu : X.A.units + 64 < cLine) : OpR X (compareOp (cmM o)) (rOp X.K (cmEv o)) := by
  intro pins s σ H x y u v Q I rx ry h
  obtain ⟨c, a, b, st, σ', W, hH, hx, hy, q⟩ := h
  cases o with
  | eq =>
    simp only [cmEv] at q
    split at q
    · rename_i k e
      exact (op_eq.or (op_eqD hu)) pins s σ H _ _ _ _ Q I rx ry ((eqR hu hH hx hy e).1 Q (q.here hH _ (.bl _)))
    · exact q.elim
  | ne =>
    simp only [cmEv] at q
    split at q
    · rename_i k e
      exact (op_ne.or (op_neD hu)) pins s σ H _ _ _ _ Q I rx ry ((eqR hu hH hx hy e).2 Q (q.here hH _ (.bl _)))
    · exact q.elim
  | lt =>
    simp only [cmEv] at q
    split at q
    · rename_i i j
      cases hx
      cases hy
      exact op_lt pins s σ H _ _ _ _ Q I rx ry ⟨i, j, rfl, rfl, q.here hH _ (.bl _)⟩
    · exact q.elim
  | le =>
    simp only [cmEv] at q
    split at q
    · rename_i i j
      cases hx
      cases hy
      exact op_le pins s σ H _ _ _ _ Q I rx ry ⟨i, j, rfl, rfl, q.here hH _ (.bl _)⟩
    · exact q.elim
  | gt =>
    simp only [cmEv] at q
    split at q
    · rename_i i j
      cases hx
      cases hy
      exact op_gt pins s σ H _ _ _ _ Q I rx ry ⟨i, j, rfl, rfl, q.here hH _ (.bl _)⟩
    · exact q.elim
  | ge =>
    simp only [cmEv] at q
    split at q
    · rename_i i j
      cases hx
      cases hy
      exact op_ge pins s σ H _ _ _ _ Q I rx ry ⟨i, j, rfl, rfl, q.here hH _ (.bl _)⟩
    · exact q.elim
  | is' =>
    simp only [cmEv] at q
    split at q
    · rename_i i j
      cases hx
      cases hy
      exact op_is_bl pins s σ H _ _ _ _ Q I rx ry ⟨i, j, rfl, rfl, q.here hH _ (.bl _)⟩
    · cases hy
      refine op_isN pins s σ H _ _ _ _ Q I rx ry ⟨rfl, ?_⟩
      have z : decide (x = V.non) = isNon a := by cases hx <;> rfl
      rw [z]
      exact q.here hH _ (.bl _)
    · exact q.elim
  | isN =>
    simp only [cmEv] at q
    split at q
    · rename_i i j
      cases hx
      cases hy
      exact op_isnot_bl pins s σ H _ _ _ _ Q I rx ry ⟨i, j, rfl, rfl, q.here hH _ (.bl _)⟩
    · cases hy
      refine op_notN pins s σ H _ _ _ _ Q I rx ry ⟨rfl, ?_⟩
      have z : decide (x = V.non) = isNon a := by cases hx <;> rfl
      rw [z]
      exact q.here hH _ (.bl _)
    · exact q.elim
  | in' =>
    simp only [cmEv] at q
    split at q
    · rename_i k e
      unfold inEv at e
      split at e
      · rename_i i lo hi d
        cases e
        cases hx
        cases hy with
        | rng hr => exact rg_in rx ry I (hH.sub _ _ hr) (q.here hH _ (.bl _))
      · cases e
        cases hx
        cases hy
        exact op_in_str pins s σ H _ _ _ _ Q I rx ry ⟨_, _, rfl, rfl, q.here hH _ (.bl _)⟩
      · unfold inSeq at e
        split at e
        · rename_i l el
          split at e
          · rename_i hf
            cases e
            obtain ⟨p, vs, rfl, h1, h2⟩ := hH.sview hy el
            refine op_in_seq pins s σ H _ _ _ _ Q I rx ry ⟨p, vs, rfl, h1, flat_V hx hf.1, flats_V h2 hf.2, ?_⟩
            show Q (.bl (inV x vs)) H
            rw [in_V hx hf.1 h2 hf.2]
            exact q.here hH _ (.bl _)
          · cases e
        · cases e
    · exact q.elim
  | nin =>
    simp only [cmEv] at q
    split at q
    · rename_i k e
      unfold inEv at e
      split at e
      · rename_i i lo hi d
        cases e
        cases hx
        cases hy with
        | rng hr => exact rg_nin rx ry I (hH.sub _ _ hr) (q.here hH _ (.bl _))
      · cases e
        cases hx
        cases hy
        exact op_notin_str pins s σ H _ _ _ _ Q I rx ry ⟨_, _, rfl, rfl, q.here hH _ (.bl _)⟩
      · unfold inSeq at e
        split at e
        · rename_i l el
          split at e
          · rename_i hf
            cases e
            obtain ⟨p, vs, rfl, h1, h2⟩ := hH.sview hy el
            refine op_notIn_seq pins s σ H _ _ _ _ Q I rx ry ⟨p, vs, rfl, h1, flat_V hx hf.1, flats_V h2 hf.2, ?_⟩
            show Q (.bl (!inV x vs)) H
            rw [in_V hx hf.1 h2 hf.2]
            exact q.here hH _ (.bl _)
          · cases e
        · cases e
    · exact q.elim
/-- a comparison's answer is a bool -/
theorem cmEv_bl {o : Cm} {a b : Val} {st st' : Sto} {v : Val} (h : cmEv o a b st = .ok v st') : ∃ k, v = .bl k ∧ st' = st := by
  cases o <;> (simp only [cmEv] at h; split at h <;> first | (cases h; exact ⟨_, rfl, rfl⟩) | cases h)
theorem cmEv_exn {o : Cm} {a b : Val} {st st' : Sto} {x : Xn} : cmEv o a b st ≠ .exn x st' := by
  intro h
  cases o <;> (simp only [cmEv] at h; split at h <;> cases h)
/-! subscripts, slices -/
theorem atI_V {K : PySem.W.Frag} {c : Cf} {vs : List V} {l : List Val} {k : Int} {d : Val} (h : Reps K c vs l) (e : L2.atI l k = some d) : ∃ v, L2.atI vs k = some v ∧ Rep K c v d := by
  unfold L2.atI at e ⊢
  rw [h.length]
  cases q : L2.ixN l.length k with
  | none => rw [q] at e; cases e
  | some j =>
    rw [q] at e
    obtain ⟨v, e1, e2⟩ := h.get (show l[j]? = some d from e)
    exact ⟨v, e1, e2⟩
theorem idxR : IxR X (rOp X.K idxEv) := by
  intro value slice pins s σ H x y u v Q I rx ry h hs
  obtain ⟨c, a, b, st, σ', W, hH, hx, hy, q⟩ := h
  unfold idxEv at q
  split at q
  · rename_i l k e
    split at q
    · rename_i d e2
      cases hy
      obtain ⟨p, vs, rfl, h1, h2⟩ := hH.sview hx e
      obtain ⟨w, e3, r3⟩ := atI_V h2 e2
      rcases h1 with h1 | h1
      · exact ix_list value slice pins s σ H _ _ _ _ Q I rx ry ⟨p, vs, k, w, rfl, rfl, h1, e3, q.here hH _ r3⟩ hs
      · exact ix_tup value slice pins s σ H _ _ _ _ Q I rx ry ⟨p, vs, k, w, rfl, rfl, h1, e3, q.here hH _ r3⟩ hs
    · exact q.elim
  · rename_i k e
    split at q
    · rename_i z
      split at q
      · rename_i ch ec
        split at q
        · rename_i hz
          cases hx
          cases hy
          exact ix_str value slice pins s σ H _ _ _ _ Q I rx ry ⟨z, k, ch, rfl, rfl, hz, ec, q.here hH _ (.str _)⟩ hs
        · exact q.elim
      · exact q.elim
    · exact q.elim
  · exact q.elim
def rSl (K : PySem.W.Frag) (f : Val → Option Int → Option Int → Sto → R Val) : V → Option Int → Option Int → Hp → VK → Prop := fun x lo hi H Q => ∃ c v st σ W, RelH K c H st ∧ Rep K c x v ∧ Run K W c σ H (f v lo hi st) (fun c' H' z _ => ∀ Z, Rep K c' Z z → Q Z H')
theorem cut_V {K : PySem.W.Frag} {c : Cf} {vs : List V} {l : List Val} {lo hi : Option Int} (h : Reps K c vs l) : Reps K c (cutV vs lo hi) (cutL l lo hi) := by
  unfold cutV cutL
  rw [h.length]
  exact (h.drop _).take _
theorem slcR (m : Bool) : SlR X (rSl X.K (slcEv m)) := by
  intro pins s σ H x v vl vu lo hi sl Q I rx hs pl pu h
  obtain ⟨c, a, st, σ', W, hH, hx, q⟩ := h
  unfold slcEv at q
  split at q
  · rename_i l
    cases hx with
    | @tup p vs _ h1 h2 =>
    refine sl_tupA pins s σ H _ v vl vu lo hi sl Q I rx hs pl pu ⟨p, vs, rfl, tupT hH.sub h1, fun e => ?_, fun e p' n => ?_⟩
    · have z : cutL l lo hi = l := by
        unfold cutL
        rw [← h2.length, e.1, e.2, h2.length]
        simp
      rw [z] at q
      exact q.here hH _ (.tup h1 h2)
    · obtain ⟨c', r, q'⟩ := run_tup hH q n (cut_V h2)
      exact q' _ r
  · rename_i z
    split at q
    · rename_i hz
      cases hx
      exact sl_str pins s σ H _ v vl vu lo hi sl Q I rx hs pl pu ⟨z, rfl, hz, q.here hH _ (.str _)⟩
    · exact q.elim
  · split at q
    · rename_i l e
      obtain ⟨p1, vs, rfl, q1, r1⟩ := hH.lview hx e
      refine sl_list pins s σ H _ v vl vu lo hi sl Q I rx hs pl pu ⟨p1, vs, rfl, .of q1, fun p n => ?_⟩
      obtain ⟨c', v', st', r, q'⟩ := run_newL hH q n (cut_V r1)
      exact q' _ r
    · exact q.elim
/-! built-ins -/
def rBf (K : PySem.W.Frag) (f : List Val → Sto → R Val) : List V → Hp → VK → Prop := fun xs H Q => ∃ c l st σ W, RelH K c H st ∧ Reps K c xs l ∧ Run K W c σ H (f l st) (fun c' H' z _ => ∀ Z, Rep K c' Z z → Q Z H')
theorem Reps.one {K : PySem.W.Frag} {c : Cf} {xs : List V} {a : Val} (h : Reps K c xs [a]) : ∃ x, xs = [x] ∧ Rep K c x a := by
  cases h with
  | cons r t => cases t; exact ⟨_, rfl, r⟩
theorem Reps.two {K : PySem.W.Frag} {c : Cf} {xs : List V} {a b : Val} (h : Reps K c xs [a, b]) : ∃ x y, xs = [x, y] ∧ Rep K c x a ∧ Rep K c y b := by
  cases h with
  | cons r t =>
    obtain ⟨y, rfl, q⟩ := Reps.one t
    exact ⟨_, _, rfl, r, q⟩
theorem allI_V {K : PySem.W.Frag} {c : Cf} : ∀ {xs : List V} {l : List Val} {ns : List Int}, Reps K c xs l → allI l = some ns → xs = ns.map V.int
  | _, _, ns, .nil, e => by cases e; rfl
  | _, _, ns, .cons r t, e => by
    cases r with
    | @int i =>
      simp only [allI] at e
      rename_i vs l'
      cases q : allI l' with
      | none => rw [q] at e; cases e
      | some ms =>
        rw [q] at e
        cases e
        rw [allI_V t q]
        rfl
    | _ => cases e
theorem allB_V {K : PySem.W.Frag} {c : Cf} : ∀ {xs : List V} {l : List Val} {ns : List Bool}, Reps K c xs l → allB l = some ns → xs = ns.map V.bl
  | _, _, ns, .nil, e => by cases e; rfl
  | _, _, ns, .cons r t, e => by
    cases r with
    | @bl i =>
      simp only [allB] at e
      rename_i vs l'
      cases q : allB l' with
      | none => rw [q] at e; cases e
      | some ms =>
        rw [q] at e
        cases e
        rw [allB_V t q]
        rfl
    | _ => cases e
/-- a range is made -/
theorem rg_new {pins : List (Addr × Obj)} {s : Shared} {σ : L2.St} {H : Hp} {Q : VK} {tk : Nat} {lo hi d : Int} {t u v : Tok} (I : L2.Inv X pins σ H s) (q : ∀ p, H p = none → Q (.ref p) (upd H p (.ext (rngφ p lo hi d)))) :
    EP X pins σ Q (.ref s.heap.objs.size) { s with heap := s.heap.push { cls := .type "range", data := .fields #[.int lo t, .int hi u, .int d v] }, toks := tk } :=
  ⟨.ref s.heap.objs.size, upd H s.heap.objs.size (.ext (rngφ s.heap.objs.size lo hi d)), I.laid (t' := tk) (fun b o e => Heap.get?_push_of_some _ e) (Nat.le_refl _)
    ⟨⟨t, u, v, Heap.get?_push_size _ rfl⟩, ⟨_, Heap.get?_push_size _ rfl⟩, fun h1 h2 ⟨t, u, v, e⟩ k => ⟨t, u, v, k _ e⟩⟩, rfl, q _ (I.hok.fresh (Nat.le_refl _))⟩
theorem run_rng {K : PySem.W.Frag} {c : Cf} {W : WX} {σ : L2.St} {H : Hp} {st : Sto} {lo hi d : Int} {Q : VK} (hH : RelH K c H st) (q : Run K W c σ H (R.ok (.rng lo hi d) st) (fun c' H' z _ => ∀ Z, Rep K c' Z z → Q Z H')) : ∀ p, H p = none → Q (.ref p) (upd H p (.ext (rngφ p lo hi d))) := fun p n => by
  obtain ⟨e, h'⟩ := hH.new n (.ext (rngφ p lo hi d))
  exact q _ _ e h' _ (.rng (by exact upd_same))
def bfV : Bf → Value
  | .len => .builtin "len"
  | .abs => .builtin "abs"
  | .int => .type "int"
  | .tuple => .type "tuple"
  | .min2 => .builtin "min"
  | .max2 => .builtin "max"
  | .sum => .builtin "sum"
  | .all => .builtin "all"
  | .any => .builtin "any"
  | .repr => .builtin "repr"
  | .rg1 => .type "range"
  | .rg2 => .type "range"
  | .rg3 => .type "range"
  | .max1 => .builtin "max"
  | .min1 => .builtin "min"
theorem maxL_ok : ∀ (x : Int) (l : List Int), maxL (x :: l) ∈ x :: l ∧ ∀ y ∈ x :: l, y ≤ maxL (x :: l)
  | x, [] => ⟨List.mem_singleton.mpr rfl, fun y hy => by rw [List.mem_singleton.mp hy]; exact Int.le_refl _⟩
  | x, z :: l => by
    obtain ⟨h1, h2⟩ := maxL_ok z l
    have e : maxL (x :: z :: l) = if maxL (z :: l) < x then x else maxL (z :: l) := rfl
    rw [e]
    split
    · rename_i h
      refine ⟨List.mem_cons_self, fun y hy => ?_⟩
      rcases List.mem_cons.mp hy with rfl | hy
      · exact Int.le_refl _
      · have := h2 y hy
        omega
    · rename_i h
      refine ⟨List.mem_cons_of_mem _ h1, fun y hy => ?_⟩
      rcases List.mem_cons.mp hy with rfl | hy
      · omega
      · exact h2 y hy
theorem minL_ok : ∀ (x : Int) (l : List Int), minL (x :: l) ∈ x :: l ∧ ∀ y ∈ x :: l, minL (x :: l) ≤ y
  | x, [] => ⟨List.mem_singleton.mpr rfl, fun y hy => by rw [List.mem_singleton.mp hy]; exact Int.le_refl _⟩
  | x, z :: l => by
    obtain ⟨h1, h2⟩ := minL_ok z l
    have e : minL (x :: z :: l) = if x < minL (z :: l) then x else minL (z :: l) := rfl
    rw [e]
    split
    · rename_i h
      refine ⟨List.mem_cons_self, fun y hy => ?_⟩
      rcases List.mem_cons.mp hy with rfl | hy
      · exact Int.le_refl _
      · have := h2 y hy
        omega
    · rename_i h
      refine ⟨List.mem_cons_of_mem _ h1, fun y hy => ?_⟩
      rcases List.mem_cons.mp hy with rfl | hy
      · omega
      · exact h2 y hy
theorem bfR (f : Bf) (hc : cool f = false → X.calm = true) (gd : X.A.guards = some []) (hu : X.A.units + 64 < cLine) : CallR X (bfV f) (rBf X.K (bfEv f)) := by
  intro pins s σ H xs us Q I rx h
  obtain ⟨c, l, st, σ', W, hH, hx, q⟩ := h
  unfold bfEv at q
  split at q
  · rename_i a
    obtain ⟨x, rfl, h1⟩ := hx.one
    split at q
    · rename_i l' e
      obtain ⟨p, vs, rfl, h2, h3⟩ := hH.sview h1 e
      refine call_len_seq pins s σ H _ us Q I rx ⟨p, vs, rfl, h2, ?_⟩
      rw [h3.length]
      exact q.here hH _ (.int _)
    · split at q
      · rename_i z _
        split at q
        · rename_i hz
          cases h1
          exact call_len_str pins s σ H _ us Q I rx ⟨z, rfl, hz, q.here hH _ (.int _)⟩
        · exact q.elim
      · exact q.elim
  · rename_i i
    obtain ⟨x, rfl, h1⟩ := hx.one
    cases h1
    exact call_abs pins s σ H _ us Q I rx ⟨i, rfl, q.here hH _ (.int _)⟩
  · rename_i i
    obtain ⟨x, rfl, h1⟩ := hx.one
    cases h1
    exact call_int1 pins s σ H _ us Q I rx (.inl ⟨i, rfl, q.here hH _ (.int _)⟩)
  · rename_i i
    obtain ⟨x, rfl, h1⟩ := hx.one
    cases h1
    exact call_int1 pins s σ H _ us Q I rx (.inr ⟨i, rfl, q.here hH _ (.int _)⟩)
  · rename_i l'
    obtain ⟨x, rfl, h1⟩ := hx.one
    cases h1 with
    | @tup p vs _ h2 h3 => exact call_tuple_of pins s σ H _ us Q I rx ⟨p, vs, rfl, .inr ⟨tupT hH.sub h2, q.here hH _ (.tup h2 h3)⟩⟩
  · rename_i a _
    obtain ⟨x, rfl, h1⟩ := hx.one
    split at q
    · rename_i l' e
      obtain ⟨p, vs, rfl, h2, h3⟩ := hH.lview h1 e
      refine call_tuple_of pins s σ H _ us Q I rx ⟨p, vs, rfl, .inl ⟨.of h2, fun p' n => ?_⟩⟩
      obtain ⟨c', r, q'⟩ := run_tup hH q n h3
      exact q' _ r
    · exact q.elim
  · rename_i i j
    obtain ⟨x, y, rfl, h1, h2⟩ := hx.two
    cases h1
    cases h2
    exact call_min2 (hc rfl) pins s σ H _ us Q I rx ⟨i, j, rfl, q.here hH _ (.int _)⟩
  · rename_i i j
    obtain ⟨x, y, rfl, h1, h2⟩ := hx.two
    cases h1
    cases h2
    exact call_max2 (hc rfl) pins s σ H _ us Q I rx ⟨i, j, rfl, q.here hH _ (.int _)⟩
  · rename_i a
    obtain ⟨x, rfl, h1⟩ := hx.one
    split at q
    · rename_i ns e
      obtain ⟨l', e1, e2⟩ := Option.bind_eq_some_iff.mp e
      obtain ⟨p, vs, rfl, h2, h3⟩ := hH.lview h1 e1
      have z := allI_V h3 e2
      subst z
      exact cr_sum (hc rfl) pins s σ H _ us Q I rx ⟨p, ns, rfl, .of h2, q.here hH _ (.int _)⟩
    · exact q.elim
  · rename_i a
    obtain ⟨x, rfl, h1⟩ := hx.one
    split at q
    · rename_i ns e
      obtain ⟨l', e1, e2⟩ := Option.bind_eq_some_iff.mp e
      obtain ⟨p, vs, rfl, h2, h3⟩ := hH.lview h1 e1
      have z := allB_V h3 e2
      subst z
      exact cr_all (hc rfl) pins s σ H _ us Q I rx ⟨p, ns, rfl, .of h2, q.here hH _ (.bl _)⟩
    · exact q.elim
  · rename_i a
    obtain ⟨x, rfl, h1⟩ := hx.one
    split at q
    · rename_i ns e
      obtain ⟨l', e1, e2⟩ := Option.bind_eq_some_iff.mp e
      obtain ⟨p, vs, rfl, h2, h3⟩ := hH.lview h1 e1
      have z := allB_V h3 e2
      subst z
      exact cr_any (hc rfl) pins s σ H _ us Q I rx ⟨p, ns, rfl, .of h2, q.here hH _ (.bl _)⟩
    · exact q.elim
  · rename_i i
    obtain ⟨x, rfl, h1⟩ := hx.one
    cases h1
    split at q
    · rename_i hz
      exact SkE.call_repr_int pins s σ H _ us Q I rx ⟨i, rfl, hz, q.here hH _ (.str _)⟩
    · exact q.elim
  · rename_i b
    obtain ⟨x, rfl, h1⟩ := hx.one
    cases h1
    obtain ⟨u, rfl, ru⟩ := vals1 rx
    cases (show u = Value.bool b from ru)
    exact PySem.P.repr_of_bool ⟨.str _, H, I.tok _, ⟨_, rfl⟩, by have := q.here hH _ (.str _); cases b <;> exact this⟩
  · obtain ⟨x, rfl, h1⟩ := hx.one
    cases h1
    obtain ⟨u, rfl, ru⟩ := vals1 rx
    cases (show u = Value.none from ru)
    exact PySem.P.repr_of_none ⟨.str _, H, I.tok _, ⟨_, rfl⟩, by have := q.here hH _ (.str _); exact this⟩
  · rename_i z
    obtain ⟨x, rfl, h1⟩ := hx.one
    cases h1
    split at q
    · rename_i hz
      obtain ⟨u, rfl, ru⟩ := vals1 rx
      obtain ⟨t, q2⟩ := (show ∃ t, u = Value.str z t from ru)
      cases q2
      exact PySem.P.repr_of_str ⟨.str _, H, I.tok _, ⟨_, rfl⟩, by have := q.here hH _ (.str _); exact this⟩ (by simpa [PyData.shown] using hz)
    · exact q.elim
  · rename_i a _ _ _ _
    obtain ⟨x, rfl, h1⟩ := hx.one
    split at q
    · rename_i d e
      split at q
      · rename_i hz
        obtain ⟨ho, s1, s2, s3, s4⟩ := hz
        have dp := hH.dp h1 e
        obtain ⟨u, rfl, ru⟩ : ∃ u, us = [u] ∧ RelV x u := by
          cases rx with
          | cons r rr =>
            cases rr
            exact ⟨_, rfl, r⟩
        obtain ⟨as, rd⟩ := Dp.reads I d x u dp ru
        have q' := q.here hH _ (.str _)
        have go : ∀ b, u = .ref b → wpAny (model X.prog X.w) X.A (call (.builtin "repr") [u]) (EP X pins σ Q) X.xe s := by
          rintro b rfl
          exact repr_of_reads' rd s1 (PyData.noDict_hsm s2) gd (by omega) (fun b o e => e) (fun h2 t tk hk => ⟨.str d.shown, H, I.kept hk, ⟨_, rfl⟩, q'⟩) s4
        cases h1 with
        | tup _ _ => cases ru; exact go _ rfl
        | lst _ _ => cases ru; exact go _ rfl
        | scr _ => cases ru; exact go _ rfl
        | ref _ => cases ru; exact go _ rfl
        | _ => cases ho
      · exact q.elim
    · exact q.elim
  · rename_i a
    obtain ⟨x, rfl, h1⟩ := hx.one
    split at q
    · rename_i y l e
      obtain ⟨l', e1, e2⟩ := Option.bind_eq_some_iff.mp e
      obtain ⟨p, vs, rfl, h2, h3⟩ := hH.lview h1 e1
      have z := allI_V h3 e2
      subst z
      obtain ⟨m1, m2⟩ := maxL_ok y l
      refine cr_max (hc rfl) pins s σ H _ us Q I rx ⟨p, y :: l, rfl, .of h2, Nat.succ_pos _, fun m hm hb => ?_⟩
      have : m = maxL (y :: l) := Int.le_antisymm (m2 m hm) (hb _ m1)
      subst this
      exact q.here hH _ (.int _)
    · exact q.elim
  · rename_i a
    obtain ⟨x, rfl, h1⟩ := hx.one
    split at q
    · rename_i y l e
      obtain ⟨l', e1, e2⟩ := Option.bind_eq_some_iff.mp e
      obtain ⟨p, vs, rfl, h2, h3⟩ := hH.lview h1 e1
      have z := allI_V h3 e2
      subst z
      obtain ⟨m1, m2⟩ := minL_ok y l
      refine cr_min (hc rfl) pins s σ H _ us Q I rx ⟨p, y :: l, rfl, .of h2, Nat.succ_pos _, fun m hm hb => ?_⟩
      have : m = minL (y :: l) := Int.le_antisymm (hb _ m1) (m2 m hm)
      subst this
      exact q.here hH _ (.int _)
    · exact q.elim
  · rename_i j
    obtain ⟨x, rfl, h1⟩ := hx.one
    cases h1
    obtain ⟨u, rfl, t, rfl⟩ := vals1 rx
    exact call_range_1 (rg_new I (run_rng hH q))
  · rename_i i j
    obtain ⟨x, y, rfl, h1, h2⟩ := hx.two
    cases h1
    cases h2
    obtain ⟨u1, u2, rfl, ⟨t1, rfl⟩, ⟨t2, rfl⟩⟩ := vals2 rx
    exact call_range_2 (rg_new I (run_rng hH q))
  · rename_i i j d
    split at q
    · rename_i hz
      cases hx with
      | cons h1 hx =>
        cases hx with
        | cons h2 hx =>
          cases hx with
          | cons h3 hx =>
            cases hx
            cases h1
            cases h2
            cases h3
            cases rx with
            | cons r1 rr =>
              cases rr with
              | cons r2 rr =>
                cases rr with
                | cons r3 rr =>
                  cases rr
                  obtain ⟨t1, rfl⟩ := r1
                  obtain ⟨t2, rfl⟩ := r2
                  obtain ⟨t3, rfl⟩ := r3
                  exact call_range_3 hz.1 (rg_new (tk := s.toks) I (run_rng hH q)) (.inl (PyProof.noPylong_small hz.2))
    · exact q.elim
  · exact q.elim
def mklL (m : Bool) (l : List Val) (st : Sto) : R Val := match l with
  | [a] => mklEv m a st
  | _ => .stuck
theorem mklR (m : Bool) : CallR X (.type "list") (rBf X.K (mklL m)) := by
  intro pins s σ H xs us Q I rx h
  obtain ⟨c, l, st, σ', W, hH, hx, q⟩ := h
  unfold mklL at q
  split at q
  · rename_i a
    obtain ⟨x, rfl, h1⟩ := hx.one
    unfold mklEv at q
    split at q
    · rename_i l'
      cases h1 with
      | @tup p vs _ h2 h3 =>
      refine call_list_of pins s σ H _ us Q I rx ⟨p, vs, rfl, .inr (tupT hH.sub h2), fun p' n => ?_⟩
      obtain ⟨c', v', st', r, q'⟩ := run_newL hH q n h3
      exact q' _ r
    · split at q
      · rename_i l' e
        obtain ⟨p, vs, rfl, h2, h3⟩ := hH.lview h1 e
        refine call_list_of pins s σ H _ us Q I rx ⟨p, vs, rfl, .inl (.of h2), fun p' n => ?_⟩
        obtain ⟨c', v', st', r, q'⟩ := run_newL hH q n h3
        exact q' _ r
      · exact q.elim
  · exact q.elim
/-! methods of lists -/
def rMt (K : PySem.W.Frag) (f : Val → Val → Sto → R Val) : V → List V → Hp → VK → Prop := fun x xs H Q => ∃ y c v w st σ W, xs = [y] ∧ RelH K c H st ∧ Rep K c x v ∧ Rep K c y w ∧ Run K W c σ H (f v w st) (fun c' H' z _ => ∀ Z, Rep K c' Z z → Q Z H')
theorem appR : MtR X "list.append" (rMt X.K appEv) := by
  intro pins s σ H x xs v us Q I rx rs h
  obtain ⟨y, c, a, b, st, σ', W, rfl, hH, hx, hy, q⟩ := h
  unfold appEv at q
  split at q
  · rename_i n l e
    split at q
    · rename_i hz
      obtain ⟨p, vs, rfl, h1, h2, h3, h4⟩ := hH.mlist hx e
      obtain ⟨e1, h5⟩ := hH.put h1 h2 (h4.snoc hy)
      exact mt_append pins s σ H _ _ v us Q I rx rs ⟨p, vs, y, rfl, rfl, h3, by rw [h4.length]; exact hz, q _ _ e1 h5 _ .non⟩
    · exact q.elim
  · exact q.elim
theorem extR : MtR X "list.extend" (rMt X.K extEv) := by
  intro pins s σ H x xs v us Q I rx rs h
  obtain ⟨y, c, a, b, st, σ', W, rfl, hH, hx, hy, q⟩ := h
  unfold extEv at q
  split at q
  · rename_i n l l' e e'
    split at q
    · rename_i hz
      obtain ⟨p, vs, rfl, h1, h2, h3, h4⟩ := hH.mlist hx e
      obtain ⟨p', ws, rfl, h6, h7⟩ := hH.lview hy e'
      obtain ⟨e1, h5⟩ := hH.put h1 h2 (h4.append h7)
      exact mt_extend pins s σ H _ _ v us Q I rx rs ⟨p, p', vs, ws, rfl, rfl, h3, h6, by rw [h4.length, h7.length]; exact hz, q _ _ e1 h5 _ .non⟩
    · exact q.elim
  · exact q.elim
/-- the first place, by values -/
theorem fstI_V {K : PySem.W.Frag} {c : Cf} {x : V} {v : Val} (h : Rep K c x v) (f : flat v = true) : ∀ {xs : List V} {l : List Val} {k j : Nat}, Reps K c xs l → l.all flat = true → fstI v l k = some j →
    ∃ m z, j = k + m ∧ xs[m]? = some z ∧ eqV z x = true ∧ ∀ (i : Nat) (z' : V), i < m → xs[i]? = some z' → eqV z' x = false
  | _, _, k, j, .nil, _, e => by cases e
  | _, _, k, j, .cons (v := y) (vs := ys) r t, g, e => by
    rw [List.all_cons, Bool.and_eq_true] at g
    unfold fstI at e
    split at e
    · rename_i hq
      cases e
      refine ⟨0, y, rfl, rfl, ?_, fun i z' hi => absurd hi (by omega)⟩
      rw [feq_V h r f g.1]
      exact hq
    · rename_i hq
      obtain ⟨m, z, rfl, h1, h2, h3⟩ := fstI_V h f t g.2 e
      refine ⟨m + 1, z, by omega, by simpa using h1, h2, fun i z' hi hz => ?_⟩
      cases i with
      | zero =>
        have : y = z' := by simpa using hz
        subst this
        rw [feq_V h r f g.1]
        exact Bool.not_eq_true _ ▸ hq
      | succ i => exact h3 i z' (by omega) (by simpa using hz)
theorem ixlR : MtR X "list.index" (rMt X.K ixlEv) := by
  intro pins s σ H x xs v us Q I rx rs h
  obtain ⟨y, c, a, b, st, σ', W, rfl, hH, hx, hy, q⟩ := h
  unfold ixlEv at q
  split at q
  · rename_i l e
    unfold ixEv at q
    split at q
    · rename_i hf
      split at q
      · rename_i j ej
        obtain ⟨p, vs, rfl, h1, h2⟩ := hH.lview hx e
        obtain ⟨m, z, rfl, z1, z2, z3⟩ := fstI_V hy hf.1 h2 hf.2 ej
        rw [Nat.zero_add] at q
        exact mt_index pins s σ H _ _ v us Q I rx rs ⟨p, vs, y, m, z, rfl, rfl, .of h1, flat_V hy hf.1, flats_V h2 hf.2, z1, z2, z3, q.here hH _ (.int _)⟩
      · exact q.elim
    · exact q.elim
  · exact q.elim
theorem ixsR : MtR X "str.index" (rMt X.K ixsEv) := by
  intro pins s σ H x xs v us Q I rx rs h
  obtain ⟨y, c, a, b, st, σ', W, rfl, hH, hx, hy, q⟩ := h
  unfold ixsEv at q
  split at q
  · rename_i z w
    split at q
    · rename_i i r e
      cases hx
      cases hy
      exact mt_sindex pins s σ H _ _ v us Q I rx rs ⟨z, w, i, r, rfl, rfl, e, q.here hH _ (.int _)⟩
    · exact q.elim
  · exact q.elim
/-- t.index(x), flat items -/
theorem mt_tup_indexF : MtR X "tuple.index" (fun x xs H Q => ∃ p, ∃ ys : List V, ∃ (y : V) (j : Nat) (z : V), x = .ref p ∧ xs = [y] ∧ SqT X.K H p ys ∧ flatV y = true ∧ ys.all flatV = true ∧ ys[j]? = some z ∧ eqV z y = true ∧
    (∀ (m : Nat) (z' : V), m < j → ys[m]? = some z' → eqV z' y = false) ∧ Q (.int (j : Nat)) H) := by
  intro pins s σ H x xs v us Q I rx rs h
  obtain ⟨p, ys, y, j, z, rfl, rfl, hq, fy, fys, hz, hzj, hno, q⟩ := h
  cases rx
  obtain ⟨u, rfl, ry⟩ := vals1 rs
  obtain ⟨its, rv, pl, hzz⟩ := I.tuple hq
  obtain ⟨⟨cls, dd, dt, sl⟩, ho, hc, n, hd⟩ := pl
  simp only at hc hd
  subst hc
  subst hd
  obtain ⟨w, hw, rw'⟩ := rv.get hz
  obtain ⟨hjl, hje⟩ := List.getElem?_eq_some_iff.mp hw
  have hvl := rv.length
  have hj : j < its.toArray.size := by simpa using hjl
  refine call_meets PySem.F.slot_tuple_index ⟨_, ho, rfl⟩ PySem.F.entry_tuple_index (PySem.F.args_tuple_index_2 _ _) (TI.tuple_indexAt p its.toArray n dd sl u (eqU y) j hj ?_ ?_)
    ⟨ho, fun w hw => mem_eqAt ry fy rv fys w (by simpa using hw), ⟨.int (j : Nat), H, I.tok _, ⟨_, rfl⟩, q⟩⟩
  · have e1 : its.toArray[j] = w := by simpa using hje
    rw [e1, eqU_of rw' (flat_at fys hz)]
    exact hzj
  · intro m hm hmj
    have hml : m < its.length := by simpa using hm
    have hmy : m < ys.length := by omega
    have hy' : ys[m]? = some ys[m] := List.getElem?_eq_getElem hmy
    obtain ⟨u2, hu2, ru2⟩ := rv.get hy'
    obtain ⟨_, hme⟩ := List.getElem?_eq_some_iff.mp hu2
    have e1 : its.toArray[m] = u2 := by simpa using hme
    rw [e1, eqU_of ru2 (flat_at fys hy')]
    exact hno m _ hmj hy'
/-- xs[::-1], a list or a tuple -/
def tRevA (K : PySem.W.Frag) (te : TE) : TE := fun σ H Q => te σ H fun x H1 => ∃ a xs, x = .ref a ∧ ((SqL K H1 a xs ∧ ∀ p, H1 p = none → Q (.ref p) (upd H1 p (.lst xs.reverse))) ∨ (SqT K H1 a xs ∧ ∀ p, H1 p = none → Q (.ref p) (upd H1 p (.tup xs.reverse))))
theorem pe_revA {X : Cx} {te : TE} {e : Expr} {k : Nat} {p1 p2 p3 pos : Pos} (he : PE X e te) : PE X (.Subscript e (.Slice none none (some (.UnaryOp .USub (.Constant (.int 1) k p1) p2)) p3) pos) (tRevA X.K te) := by
  refine ⟨fun pins s σ H Q I h => ?_⟩
  refine Subscript_ (thn (he.run pins s σ H _ I h) fun v s1 ⟨x, H1, I1, r1, q1⟩ => ?_)
  obtain ⟨a, xs, ex, q⟩ := q1
  subst ex
  cases r1
  have hst : PO X (some (.UnaryOp .USub (.Constant (.int 1) k p1) p2)) (tPart (tUn (rU fun i => .int (-i)) (tC (.int 1)))) := po_some (pe_un un_neg pe_int)
  refine wpAny_Slice (thn (po_none.run pins s1 σ H1 (fun o H2 => o = none ∧ H2 = H1) I1 ⟨rfl, rfl⟩) fun vl s2 ⟨l, H2, I2, pl, el, e2⟩ => ?_)
  subst el e2
  refine thn (po_none.run pins s2 σ H2 (fun o H3 => o = none ∧ H3 = H2) I2 ⟨rfl, rfl⟩) fun vu s3 ⟨u, H3, I3, pu, eu, e3⟩ => ?_
  subst eu e3
  refine thn (hst.run pins s3 σ H3 (fun o H4 => o = some (-1) ∧ H4 = H3) I3 ⟨1, rfl, -1, rfl, rfl, rfl⟩) fun vs s4 ⟨o, H4, I4, ps, eo, e4⟩ => ?_
  subst eo e4
  have I5 : Inv X pins σ H4 { s4 with heap := s4.heap.push { cls := .type "slice", data := .fields #[vl, vu, vs] } } := I4.kept (t' := s4.toks) fun b ob q => Heap.get?_push_of_some _ q
  show wpAny (model X.prog X.w) X.A (subscriptTail e (.Slice none none (some (.UnaryOp .USub (.Constant (.int 1) k p1) p2)) p3) (.ref a) (.ref s4.heap.objs.size)) (EP X pins σ Q) X.xe { s4 with heap := s4.heap.push { cls := .type "slice", data := .fields #[vl, vu, vs] } }
  rcases q with ⟨hx, q⟩ | ⟨hx, q⟩
  · obtain ⟨its, r, ht, hz⟩ := I5.list hx
    have hlen := r.length
    refine tail_any (ops := [.ref a, .ref s4.heap.objs.size]) ht.isList.typeIs (PySem.slot_list_getitem.lookup) ?_ (by with_unfolding_all rfl)
    refine wpAny_getItem_list_slice ht.isList (Heap.IsSliceOf.new _ vl vu vs) pl pu ps (by decide) ?_ (by rw [List.size_toArray]; omega)
    rw [PySem.W.krv_pick]
    refine ⟨.ref _, _, I5.laid (t' := s4.toks) (o := .lst xs.reverse) (fun b ob q => Heap.get?_push_of_some _ q) (Nat.le_refl _) ?_, rfl, q _ (I5.hok.fresh (Nat.le_refl _))⟩
    exact ⟨by rw [List.length_reverse]; exact hz, _, 0, r.reverse, Heap.get?_push_size _ rfl⟩
  · obtain ⟨its, r, ht, hz⟩ := I5.tuple hx
    have hlen := r.length
    refine tail_any (ops := [.ref a, .ref s4.heap.objs.size]) ht.typeIs (PyProof.Rows.slot_tuple_getitem.lookup) ?_ (by with_unfolding_all rfl)
    refine HT.getItem_tuple_rev ht (Heap.IsSliceOf.new _ vl vu vs) pl pu ps ?_ (by rw [List.size_toArray]; omega)
    refine ⟨.ref _, _, I5.laid (t' := s4.toks) (o := .tup xs.reverse) (fun b ob q => Heap.get?_push_of_some _ q) (Nat.le_refl _) ?_, rfl, q _ (I5.hok.fresh (Nat.le_refl _))⟩
    exact ⟨by rw [List.length_reverse]; exact hz, _, r.reverse, IsTup.new _ _⟩
/-! truth -/
theorem truth_V {K : PySem.W.Frag} {c : Cf} {H : Hp} {st : Sto} (hH : RelH K c H st) {x : V} {v : Val} {b : Bool} (h : Rep K c x v) (e : truth st v = some b) : TruV K x H b := by
  have main : ∀ l, sview st v = some l → b = !l.isEmpty → TruV K x H b := fun l e1 e2 => by
    obtain ⟨p, vs, rfl, h2, h3⟩ := hH.sview h e1
    have z : l.isEmpty = vs.isEmpty := by cases h3 <;> rfl
    rw [e2, z]
    rcases h2 with h2 | h2
    · exact .inl ⟨vs, h2, rfl⟩
    · exact .inr (.inl ⟨vs, h2, rfl⟩)
  unfold truth at e
  split at e
  · cases h; cases e; rfl
  · cases h; cases e; rfl
  · cases h; cases e; rfl
  · split at e
    · rename_i l q
      cases e
      exact main l q rfl
    · cases e
/-! isinstance -/
def clT : Cl → String
  | .int => "int"
  | .bool => "bool"
  | .str => "str"
  | .tuple => "tuple"
  | .list => "list"
theorem isi_V {K : PySem.W.Frag} {c : Cf} {H : Hp} {st : Sto} (hH : RelH K c H st) {x : V} {v : Val} {k : Cl} {b : Bool} (h : Rep K c x v) (e : isiEv st k v = some b) : ∃ t, TyX K H x t ∧ PySem.W.kitOne K t (.type (clT k)) = some b := by
  cases h with
  | non => refine ⟨_, .base .non, kit_ty ?_⟩; cases k <;> (simp only [isiEv] at e; cases e; decide +kernel)
  | bl z => refine ⟨_, .base (.bl z), kit_ty ?_⟩; cases k <;> (simp only [isiEv] at e; cases e; decide +kernel)
  | int z => refine ⟨_, .base (.int z), kit_ty ?_⟩; cases k <;> (simp only [isiEv] at e; cases e; decide +kernel)
  | str z => refine ⟨_, .base (.str z), kit_ty ?_⟩; cases k <;> (simp only [isiEv] at e; cases e; decide +kernel)
  | @tup a vs l h1 h2 =>
    have ty : TyX K H (.ref a) (.type "tuple") := by
      exact .base (.tup (hH.sub _ _ h1))
    refine ⟨_, ty, kit_ty ?_⟩
    cases k <;> (simp only [isiEv] at e; cases e; decide +kernel)
  | @lst a vs l h1 h2 =>
    refine ⟨_, .base (.lst (hH.sub _ _ h1)), kit_ty ?_⟩
    cases k <;> (simp only [isiEv] at e; cases e; decide +kernel)
  | @scr a l h1 =>
    have ty : TyX K H (.ref a) (.type "list") := by
      rcases Same.seq hH.sub h1 with (h | ⟨o, h⟩) | ⟨o, its, n, h, hc, _⟩
      · exact .base (.lst h)
      · exact .base (.frz h)
      · exact .kList h hc
    refine ⟨_, ty, kit_ty ?_⟩
    cases k <;> (simp only [isiEv] at e; cases e; decide +kernel)
  | rng h1 => cases k <;> (simp only [isiEv] at e; cases e)
  | gtp h1 => cases k <;> (simp only [isiEv] at e; cases e)
  | exc h1 h2 h3 h4 h5 => cases k <;> (simp only [isiEv] at e; cases e)
  | @ref a n h1 =>
    simp only [isiEv] at e
    split at e
    · rename_i l q
      obtain ⟨a', vs, p1, p2, p3, p4⟩ := hH.obs n l q
      have z : a' = a := Option.some.inj (p1.symm.trans h1)
      subst z
      refine ⟨_, .base (.lst p3), kit_ty ?_⟩
      cases k <;> (cases e; decide +kernel)
    · cases e
/-- the class, asked twice -/
theorem isi_V2 {K : PySem.W.Frag} {c : Cf} {H : Hp} {st : Sto} (hH : RelH K c H st) {x : V} {v : Val} {k : Cl} {b : Bool} (h : Rep K c x v) (e : isiEv st k v = some b) : ∃ t, TyX K H x t ∧ ∀ k b, isiEv st k v = some b → PySem.W.kitOne K t (.type (clT k)) = some b := by
  cases h with
  | non => refine ⟨_, .base .non, fun k b e => kit_ty ?_⟩; cases k <;> (simp only [isiEv] at e; cases e; decide +kernel)
  | bl z => refine ⟨_, .base (.bl z), fun k b e => kit_ty ?_⟩; cases k <;> (simp only [isiEv] at e; cases e; decide +kernel)
  | int z => refine ⟨_, .base (.int z), fun k b e => kit_ty ?_⟩; cases k <;> (simp only [isiEv] at e; cases e; decide +kernel)
  | str z => refine ⟨_, .base (.str z), fun k b e => kit_ty ?_⟩; cases k <;> (simp only [isiEv] at e; cases e; decide +kernel)
  | @tup a vs l h1 h2 =>
    have ty : TyX K H (.ref a) (.type "tuple") := by
      exact .base (.tup (hH.sub _ _ h1))
    refine ⟨_, ty, fun k b e => kit_ty ?_⟩
    cases k <;> (simp only [isiEv] at e; cases e; decide +kernel)
  | @lst a vs l h1 h2 =>
    refine ⟨_, .base (.lst (hH.sub _ _ h1)), fun k b e => kit_ty ?_⟩
    cases k <;> (simp only [isiEv] at e; cases e; decide +kernel)
  | @scr a l h1 =>
    have ty : TyX K H (.ref a) (.type "list") := by
      rcases Same.seq hH.sub h1 with (h | ⟨o, h⟩) | ⟨o, its, n, h, hc, _⟩
      · exact .base (.lst h)
      · exact .base (.frz h)
      · exact .kList h hc
    refine ⟨_, ty, fun k b e => kit_ty ?_⟩
    cases k <;> (simp only [isiEv] at e; cases e; decide +kernel)
  | rng h1 => cases k <;> (simp only [isiEv] at e; cases e)
  | gtp h1 => cases k <;> (simp only [isiEv] at e; cases e)
  | exc h1 h2 h3 h4 h5 => cases k <;> (simp only [isiEv] at e; cases e)
  | @ref a n h1 =>
    simp only [isiEv] at e
    split at e
    · rename_i l q
      obtain ⟨a', vs, p1, p2, p3, p4⟩ := hH.obs n l q
      have z : a' = a := Option.some.inj (p1.symm.trans h1)
      subst z
      refine ⟨_, .base (.lst p3), fun k b e => kit_ty ?_⟩
      simp only [isiEv, q] at e
      cases k <;> (cases e; decide +kernel)
    · cases e
end
end Pv

set_option Elab.async false
set_option linter.all false
set_option maxRecDepth 100000
set_option maxHeartbeats 4000000
namespace Pv
open PySem PySem.Spec PyProof.Rows L2
/-! ### how arguments are bound -/
theorem argsB_ok {ps : List Str} {a : Arguments} (h : argsB ps a = true) : ∃ as, a = ⟨[], as, none, [], [], none, []⟩ ∧ as.map (·.arg) = ps := by
  obtain ⟨po, as, va, ko, kd, kw, df⟩ := a
  simp only [argsB, Bool.and_eq_true, decide_eq_true_eq, List.isEmpty_iff, Option.isNone_iff_eq_none] at h
  obtain ⟨⟨⟨⟨⟨⟨h1, h2⟩, h3⟩, h4⟩, h5⟩, h6⟩, h7⟩ := h
  subst h1 h3 h4 h5 h6 h7
  exact ⟨as, rfl, h2⟩
theorem lookup_snoc {β : Type} {k n : Str} {v : β} : ∀ {s : List (Str × β)}, s.lookup n = none → n ≠ k → (s ++ [(k, v)]).lookup n = none
  | [], _, h => by
    show List.lookup n [(k, v)] = none
    rw [List.lookup_cons]
    rw [show (n == k) = false by simpa using h]
    rfl
  | (a, b) :: s, e, h => by
    rw [List.cons_append, List.lookup_cons]
    rw [List.lookup_cons] at e
    cases q : n == a with
    | true => rw [q] at e; cases e
    | false => rw [q] at e; exact lookup_snoc e h
theorem kw_loop {ps : List Str} {f : Str × Value → List (Str × Value) × List (Str × Value) → Sem (ForInStep (List (Str × Value) × List (Str × Value)))}
    (hf : ∀ p s, p.1 ∈ ps → s.1.lookup p.1 = none → f p s = pure (.yield (s.1 ++ [(p.1, p.2)], s.2))) : ∀ (l s e : List (Str × Value)), (∀ p ∈ l, p.1 ∈ ps) → (l.map (·.1)).Nodup → (∀ p ∈ l, s.lookup p.1 = none) → forIn l (s, e) f = pure (s ++ l, e)
  | [], s, e, _, _, _ => by rw [List.forIn_nil, List.append_nil]
  | p :: l, s, e, h1, h2, h3 => by
    rw [List.forIn_cons, hf p (s, e) (h1 p List.mem_cons_self) (h3 p List.mem_cons_self), pure_bind]
    rw [List.map_cons, List.nodup_cons] at h2
    have ih := kw_loop hf l (s ++ [(p.1, p.2)]) e (fun q hq => h1 q (List.mem_cons_of_mem _ hq)) h2.2 fun q hq => lookup_snoc (h3 q (List.mem_cons_of_mem _ hq)) fun z => h2.1 (z ▸ List.mem_map_of_mem hq)
    rw [List.append_assoc] at ih
    exact ih
theorem filt_zip {s : List (Str × Value)} : ∀ {ps : List Str} {vs : List Value}, vs.length = ps.length → (∀ p ∈ ps.zip vs, s.lookup p.1 = some p.2) → ps.filterMap (fun n => (s.lookup n).map (n, ·)) = ps.zip vs
  | [], _, _, _ => by simp
  | p :: ps, [], h, _ => by simp at h
  | p :: ps, v :: vs, h, g => by
    rw [List.zip_cons_cons, List.filterMap_cons, g (p, v) (by rw [List.zip_cons_cons]; exact List.mem_cons_self)]
    show (p, v) :: _ = _
    rw [filt_zip (by simpa using h) fun q hq => g q (by rw [List.zip_cons_cons]; exact List.mem_cons_of_mem _ hq)]
theorem bind_gen {x qual : Str} {as : List Arg} {ps : List Str} {body : List Stmt} {sc : Scope} {kV doc pm : Value} {an : Option Addr} {cdv ct : Value} {us vs : List Value} {l : List (Str × Value)} (hp : as.map (·.arg) = ps) (hu : us.length ≤ ps.length)
    (h1 : ∀ p ∈ l, p.1 ∈ ps) (h2 : (l.map (·.1)).Nodup) (h3 : ∀ p ∈ l, (ps.zip us).lookup p.1 = none) (hv : vs.length = ps.length) (h4 : ∀ p ∈ ps.zip vs, (ps.zip us ++ l).lookup p.1 = some p.2) :
    bindArgs (PySem.W.fnOf x qual ⟨[], as, none, [], [], none, []⟩ body sc .none kV doc pm an cdv ct) ⟨us, l⟩ = pure (ps.zip vs) := by
  have lk : ∀ n ∈ ps, ((ps.zip us ++ l).lookup n).isNone = false := fun n hn => by
    obtain ⟨i, hi, e⟩ := List.mem_iff_getElem.mp hn
    have m : (n, vs[i]'(by omega)) ∈ ps.zip vs := by
      refine List.mem_iff_getElem.mpr ⟨i, by rw [List.length_zip]; omega, ?_⟩
      rw [List.getElem_zip, e]
    rw [h4 _ m]
    rfl
  have fz := filt_zip hv h4
  subst hp
  unfold bindArgs
  have e0 : seqItems? Value.none = pure none := rfl
  simp only [PySem.W.fnOf, e0, pure_bind, List.map_nil, List.nil_append, List.append_nil, Option.isNone_none, Option.isSome_none]
  rw [kw_loop (ps := as.map (·.arg)) ?_ l _ [] h1 h2 h3]
  · simp only [pure_bind]
    have e1 : decide (us.length > (as.map (·.arg)).length) = false := decide_eq_false (by omega)
    have e2 : (((as.map (·.arg)).take ((as.map (·.arg)).length - (List.drop ((none.getD #[] : Array Value).toList.length - (as.map (·.arg)).length) (none.getD #[] : Array Value).toList).length)).filter fun n => (((as.map (·.arg)).zip us ++ l).lookup n).isNone) = [] := by
      rw [List.filter_eq_nil_iff]
      intro n hn
      rw [lk n (List.mem_of_mem_take hn)]
      exact Bool.false_ne_true
    rw [e1]
    simp only [Bool.false_and, Bool.false_eq_true, if_false]
    rw [e2]
    have e3 : ∀ m : List Str, m.zip (List.drop ((none.getD #[] : Array Value).toList.length - (as.map (·.arg)).length) (none.getD #[] : Array Value).toList) = [] := fun m => by
      show m.zip (List.drop (0 - (as.map (·.arg)).length) ([] : List Value)) = []
      simp
    simp only [List.isEmpty_nil, Bool.not_true, Bool.false_eq_true, if_false, e3, List.forIn_nil, pure_bind]
    exact congrArg pure fz
  · intro p s hm hn
    have c1 : (as.map (·.arg)).contains p.1 = true := by simpa using hm
    rw [c1, Bool.true_or, if_pos rfl, hn, if_neg (by simp)]
end Pv

set_option Elab.async false
set_option linter.all false
set_option maxRecDepth 100000
set_option maxHeartbeats 4000000
namespace Pv
open PySem PySem.Spec PyProof.Rows L2
/-! ### expressions keep what the evaluator says -/
/-- a def's promise: its call by the evaluator -/
def spC (K : PySem.W.Frag) (call : CallT) (i n : Nat) : Sp := fun vs H Q E => vs.length = n ∧ ∃ c args st σ, RelH K c H st ∧ Reps K c vs args ∧ Run K (fun cls d _ H' => E cls d H') c σ H (call i args st) (fun c' H' v _ => ∀ x, Rep K c' x v → Q x H')
/-- room for a call: a hot def asks not that no exception be handled -/
def RoomB (b : Bool) (k : Nat) (A : Around) : Prop := if b = true then L2H.RoomH k A else Room k A
theorem RoomB.of {b : Bool} {k : Nat} {A : Around} (r : Room k A) : RoomB b k A := by
  unfold RoomB
  split
  · exact L2H.roomH_of r
  · exact r
theorem RoomB.hot {k : Nat} {A : Around} (r : L2H.RoomH k A) : RoomB true k A := by
  unfold RoomB
  rw [if_pos rfl]
  exact r
/-- a def's promise where no repr is under way -/
structure FnOkG (P : Program) (w : World) (K : PySem.W.Frag) (mg : Str → Option Value) (base : Heap) (CX : CXT) (b : Bool) (k : Nat) (f : Addr) (fd : FuncData) (ps : List Str) (sp : Sp) : Prop where
  len : ∀ vs H Q E, sp vs H Q E → vs.length = ps.length
  go : ∀ (A : Around) (outer : List PySem.Env) (s : Shared) (H : Hp) (args : Args) (us : List Value) (vs : List V) (Q : VK) (E : XK), RoomB b k A → A.guards = some [] → Env0 P w K mg base A outer s H → BindsTo s fd args (ps.zip us) → Vals vs us → sp vs H Q E →
    codeAny (model P w) A (.call (.ref f) args) (CR CX outer P w H s Q E) s
/-- where a def stands: a global, a class's method -/
def AdrOk (K : PySem.W.Frag) (mg : Str → Option Value) (d : Fd) (a : Addr) : Prop := match d.own with
  | none => mg d.name = some (.ref a)
  | some C => a = He.ma K (He.ga K C) d.name ∧ Meth K (He.ga K C) d.name a
structure FnAt (X : Cx) (lv : Nat) (call : CallT) (i : Nat) (d : Fd) : Prop where
  ex : ∃ a fd, AdrOk X.K X.mg d a ∧ PySem.W.keepIn X.K (.ref a) = true ∧ FnOkG X.prog X.w X.K X.mg X.base (L2.CX X.prog X.w) (hotF d) lv a fd (d.N.take d.ps) (spC X.K call i (d.N.take d.ps).length) ∧
    ∀ (s : Shared) (us vs : List Value) (l : List (Str × Value)), us.length ≤ (d.N.take d.ps).length → (∀ p ∈ l, p.1 ∈ d.N.take d.ps) → (l.map (·.1)).Nodup → (∀ p ∈ l, ((d.N.take d.ps).zip us).lookup p.1 = none) → vs.length = (d.N.take d.ps).length →
      (∀ p ∈ (d.N.take d.ps).zip vs, ((d.N.take d.ps).zip us ++ l).lookup p.1 = some p.2) → BindsTo s fd ⟨us, l⟩ ((d.N.take d.ps).zip vs)
  nd : d.N.Nodup
  le : d.ps ≤ d.N.length
/-- an own class's __init__: its arguments become the fields -/
def spI (C : Addr) (fs : List Str) : Sp := fun vs H Q _ => ∃ (a : Addr) (xs : List V), vs = .ref a :: xs ∧ fs.length = xs.length ∧ H a = some (exo a C none) ∧
  ∀ (dx : Addr) (fvs : List (Str × V)) (H' : Hp), H dx = none → dx ≠ a → Flds fvs fs xs → H' dx = some (exd dx fvs) → H' a = some (exo a C (some dx)) → (∀ b, b ≠ a → b ≠ dx → H' b = H b) → Q .non H'
/-- an own class of errors stands -/
structure XcAt (P : Program) (w : World) (K : PySem.W.Frag) (mg : Str → Option Value) (base : Heap) (d : Xc) : Prop where
  ok : XcOk K d
  gC : mg d.name = some (.ref (He.ga K d.name))
  T : OexC K (He.ga K d.name)
  ini : ∃ fI fd ps, PySem.W.findIn K (.ref (He.ga K d.name)) "__init__" = some (some (.ref fI)) ∧ PySem.W.typeIn K (.ref fI) = some (.type "function") ∧ FnOk P w K mg base (L2.CX P w) 1 fI fd ps (spI (He.ga K d.name) d.fs) ∧ Binds K fd ps []
  nm : ∀ C ∈ d.all, mg C = some (xcls K C) ∨ (mg C = none ∧ bootBuiltins C = some (xcls K C))
structure CkE (k : Ck) (X : Cx) (W : WX) (c : Cn) (lv : Nat) : Prop where
  N : X.N = k.N
  sc : X.env.scope = k.sc
  fn : X.fn = k.fn
  calm : k.cm = true → X.calm = true
  nd : k.N.Nodup
  tk : Takes X W
  room : k.cm = true → Room (lv + 3) X.A
  roomH : L2H.RoomH (lv + 3) X.A
  hu : X.A.units + 64 < cLine
  gd : X.A.guards = some []
  blt : ∀ x ∈ bnames, X.mg x = none
  G : c.G = k.G
  glo : ∀ (i : Nat) (p : Str × Val), k.G[i]? = some p → ∃ u V, X.mg p.1 = some u ∧ RelV V u ∧ (∀ cf, Rep X.K cf V p.2) ∧ ∀ l, p.2 = .gtp l → ∃ a o, V = .ref a ∧ X.K.lookup a = some o ∧ o.cls = .type "tuple" ∧ o.dict = none
  fns : ∀ (i : Nat) (d : Fd), k.T[i]? = some d → FnAt X (lv + 2) c.call i d
  xcs : ∀ d ∈ k.X, XcAt X.prog X.w X.K X.mg X.base d
  kcs : ∀ d ∈ k.KC, KcOk X.K d ∧ X.mg d.name = some (.ref (He.ga X.K d.name))
section
variable {k : Ck} {X : Cx} {W : WX} {c : Cn} {lv : Nat}
theorem CkE.gl (C : CkE k X W c lv) {x : Str} (h : glB k.sc x = true) : Gl X x := by
  have e : k.sc.names.lookup x = some .globalImplicit := of_decide_eq_true h
  rw [← C.sc] at e
  exact e
theorem CkE.vis (C : CkE k X W c lv) {x : Str} (h : visB k.sc x = true) : Vis X.env.scope x := by
  simp only [visB, Bool.or_eq_true, decide_eq_true_eq] at h
  rw [C.sc]
  rcases h with (h | h) | h
  · exact .inl h
  · exact .inr (.inl h)
  · exact .inr (.inr h)
theorem CkE.loc (C : CkE k X W c lv) {x : Str} (h : locB k.sc x = true) : Loc X.env.scope x := by
  simp only [locB, Bool.or_eq_true, decide_eq_true_eq] at h
  rw [C.sc]
  exact h
theorem ok_dbg {x : Str} (h : okName x = true) : (x == ("__debug__" : Str)) = false ∧ (x == ("__classdict__" : Str)) = false ∧ x ≠ "__name__" := by
  simp only [okName, Bool.and_eq_true, Bool.not_eq_true'] at h
  exact ⟨h.1.1, h.1.2, fun e => by rw [e] at h; simp at h⟩
/-- a two-place operation -/
theorem pe_op2 {op : Operator} {f : Val → Val → Sto → R Val} {a b : Expr} {pos : Pos} {A B : Env → Sto → R Val} (ho : OpR X (binaryOp op) (rOp X.K f)) (ha : PE X a (tE X.K W A)) (hb : PE X b (tE X.K W B)) :
    PE X (.BinOp a op b pos) (tE X.K W fun l st => (A l st).bind fun x st => (B l st).bind fun y st => f x y st) := by
  refine (pe_op ho ha hb).imp fun σ H Q ⟨cf, l, st, hH, hS, q⟩ => ?_
  refine ⟨cf, l, st, hH, hS, q.bind.mono fun c1 H1 v st1 e1 h1 q1 x rx => ⟨c1, l, st1, h1, hS.mono e1, q1.bind.mono fun c2 H2 w st2 e2 h2 q2 y ry => ?_⟩⟩
  exact ⟨c2, v, w, st2, σ, W, h2, rx.mono e2, ry, q2⟩
theorem pe_cm2 {op : CmpOp} {f : Val → Val → Sto → R Val} {a b : Expr} {pos : Pos} {A B : Env → Sto → R Val} (ho : OpR X (compareOp op) (rOp X.K f)) (hm : behindInMarks op b = false) (ha : PE X a (tE X.K W A)) (hb : PE X b (tE X.K W B)) :
    PE X (.Compare a [op] [b] pos) (tE X.K W fun l st => (A l st).bind fun x st => (B l st).bind fun y st => f x y st) := by
  refine (pe_cmpR ho ha hb hm).imp fun σ H Q ⟨cf, l, st, hH, hS, q⟩ => ?_
  refine ⟨cf, l, st, hH, hS, q.bind.mono fun c1 H1 v st1 e1 h1 q1 x rx => ⟨c1, l, st1, h1, hS.mono e1, q1.bind.mono fun c2 H2 w st2 e2 h2 q2 y ry => ?_⟩⟩
  exact ⟨c2, v, w, st2, σ, W, h2, rx.mono e2, ry, q2⟩
/-- from a value that is a bool to its test -/
theorem run_bl {K : PySem.W.Frag} {cf : Cf} {σ : L2.St} {H : Hp} {o : Cm} {a b : Val} {st : Sto} {Q : Bool → Hp → Prop} (q : Run K W cf σ H (cmEv o a b st) (fun c' H' v _ => ∃ b, v = .bl b ∧ Q b H')) : Run K W cf σ H (cmEv o a b st) (fun c' H' v _ => ∀ Z, Rep K c' Z v → ∃ b, Z = .bl b ∧ Q b H') := by
  refine q.mono fun c' H' v st' _ _ ⟨b, e, q⟩ Z r => ?_
  subst e
  cases r
  exact ⟨b, rfl, q⟩
theorem pt_cm2 {o : Cm} {a b : Expr} {pos : Pos} {A B : Env → Sto → R Val} (hu : X.A.units + 64 < cLine) (hm : behindInMarks (cmM o) b = false) (ha : PE X a (tE X.K W A)) (hb : PE X b (tE X.K W B)) :
    PT X (.Compare a [cmM o] [b] pos) (tT X.K W fun l st => (A l st).bind fun x st => (B l st).bind fun y st => cmEv o x y st) := by
  refine (pt_cmpR (cmR o hu) ha hb hm).imp fun σ H Q ⟨cf, l, st, hH, hS, q⟩ => ?_
  refine ⟨cf, l, st, hH, hS, q.bind.mono fun c1 H1 v st1 e1 h1 q1 x rx => ⟨c1, l, st1, h1, hS.mono e1, q1.bind.mono fun c2 H2 w st2 e2 h2 q2 y ry => ?_⟩⟩
  exact ⟨c2, v, w, st2, σ, W, h2, rx.mono e2, ry, run_bl q2⟩
def chnEv (o p : Cm) (A B D : Env → Sto → R Val) : Env → Sto → R Val := fun l st => (A l st).bind fun x st => (B l st).bind fun y st => (cmEv o x y st).bind fun r st => match r with
    | .bl true => (D l st).bind fun z st => cmEv p y z st
    | .bl false => .ok (.bl false) st
    | _ => .stuck
theorem lastM {o p : CmpOp} {b d : Expr} (h2 : behindInMarks p d = false) : lastMarks [o, p] [b, d] = false := h2
theorem pe_chn {o p : Cm} {a b d : Expr} {pos : Pos} {A B D : Env → Sto → R Val} (hu : X.A.units + 64 < cLine) (hm : behindInMarks (cmM p) d = false) (ha : PE X a (tE X.K W A)) (hb : PE X b (tE X.K W B)) (hd : PE X d (tE X.K W D)) :
    PE X (.Compare a [cmM o, cmM p] [b, d] pos) (tE X.K W (chnEv o p A B D)) := by
  refine (pe_chain (cmR o hu) (cmR p hu) ha hb hd (lastM hm)).imp fun σ H Q ⟨cf, l, st, hH, hS, q⟩ => ?_
  refine ⟨cf, l, st, hH, hS, q.bind.mono fun c1 H1 v st1 e1 h1 q1 x rx => ⟨c1, l, st1, h1, hS.mono e1, q1.bind.mono fun c2 H2 w st2 e2 h2 q2 y ry => ?_⟩⟩
  refine ⟨c2, v, w, st2, σ, W, h2, rx.mono e2, ry, q2.bind.mono fun c3 H3 r st3 e3 h3 q3 Z rZ => ?_⟩
  split at q3
  · cases rZ
    refine ⟨true, rfl, ?_⟩
    rw [if_pos rfl]
    exact ⟨c3, l, st3, h3, ((hS.mono e1).mono e2).mono e3, q3.bind.mono fun c4 H4 z st4 e4 h4 q4 u ru => ⟨c4, w, z, st4, σ, W, h4, (ry.mono e3).mono e4, ru, q4⟩⟩
  · cases rZ
    refine ⟨false, rfl, ?_⟩
    rw [if_neg Bool.false_ne_true]
    exact q3.here h3 _ (.bl _)
  · exact q3.elim
theorem pt_chn {o p : Cm} {a b d : Expr} {pos : Pos} {A B D : Env → Sto → R Val} (hu : X.A.units + 64 < cLine) (hm : behindInMarks (cmM p) d = false) (ha : PE X a (tE X.K W A)) (hb : PE X b (tE X.K W B)) (hd : PE X d (tE X.K W D)) :
    PT X (.Compare a [cmM o, cmM p] [b, d] pos) (tT X.K W (chnEv o p A B D)) := by
  refine (pt_chain (cmR o hu) (cmR p hu) ha hb hd (lastM hm)).imp fun σ H Q ⟨cf, l, st, hH, hS, q⟩ => ?_
  refine ⟨cf, l, st, hH, hS, q.bind.mono fun c1 H1 v st1 e1 h1 q1 x rx => ⟨c1, l, st1, h1, hS.mono e1, q1.bind.mono fun c2 H2 w st2 e2 h2 q2 y ry => ?_⟩⟩
  refine ⟨c2, v, w, st2, σ, W, h2, rx.mono e2, ry, q2.bind.mono fun c3 H3 r st3 e3 h3 q3 Z rZ => ?_⟩
  split at q3
  · cases rZ
    refine ⟨true, rfl, ?_⟩
    rw [if_pos rfl]
    exact ⟨c3, l, st3, h3, ((hS.mono e1).mono e2).mono e3, q3.bind.mono fun c4 H4 z st4 e4 h4 q4 u ru => ⟨c4, w, z, st4, σ, W, h4, (ry.mono e3).mono e4, ru, run_bl q4⟩⟩
  · cases rZ
    refine ⟨false, rfl, ?_⟩
    rw [if_neg Bool.false_ne_true]
    obtain ⟨b, e, q⟩ := q3.here h3
    exact ⟨b, by cases e; rfl, q⟩
  · exact q3.elim
def andEv (A B : Env → Sto → R Val) : Env → Sto → R Val := fun l st => (A l st).bind fun x st => match x with
    | .bl true => B l st
    | .bl false => .ok (.bl false) st
    | _ => .stuck
def orEv (A B : Env → Sto → R Val) : Env → Sto → R Val := fun l st => (A l st).bind fun x st => match x with
    | .bl true => .ok (.bl true) st
    | .bl false => B l st
    | _ => .stuck
def notEv (A : Env → Sto → R Val) : Env → Sto → R Val := fun l st => (A l st).bind fun x st => match x with
    | .bl b => .ok (.bl (!b)) st
    | _ => .stuck
theorem pe_andG {a b : Expr} {rest : List Expr} {pos : Pos} {A B : Env → Sto → R Val} (ha : PE X a (tE X.K W A)) (hb : PE X (.BoolOp .And (b :: rest) pos) (tE X.K W B)) : PE X (.BoolOp .And (a :: b :: rest) pos) (tE X.K W (andEv A B)) := by
  refine (pe_and ha hb).imp fun σ H Q ⟨cf, l, st, hH, hS, q⟩ => ?_
  refine ⟨cf, l, st, hH, hS, q.bind.mono fun c1 H1 v st1 e1 h1 q1 x rx => ?_⟩
  split at q1
  · cases rx
    refine ⟨true, rfl, ?_⟩
    rw [if_pos rfl]
    exact ⟨c1, l, st1, h1, hS.mono e1, q1⟩
  · cases rx
    refine ⟨false, rfl, ?_⟩
    rw [if_neg Bool.false_ne_true]
    exact q1.here h1 _ (.bl _)
  · exact q1.elim
theorem pe_orG {a b : Expr} {rest : List Expr} {pos : Pos} {A B : Env → Sto → R Val} (ha : PE X a (tE X.K W A)) (hb : PE X (.BoolOp .Or (b :: rest) pos) (tE X.K W B)) : PE X (.BoolOp .Or (a :: b :: rest) pos) (tE X.K W (orEv A B)) := by
  refine (pe_or ha hb).imp fun σ H Q ⟨cf, l, st, hH, hS, q⟩ => ?_
  refine ⟨cf, l, st, hH, hS, q.bind.mono fun c1 H1 v st1 e1 h1 q1 x rx => ?_⟩
  split at q1
  · cases rx
    refine ⟨true, rfl, ?_⟩
    rw [if_pos rfl]
    exact q1.here h1 _ (.bl _)
  · cases rx
    refine ⟨false, rfl, ?_⟩
    rw [if_neg Bool.false_ne_true]
    exact ⟨c1, l, st1, h1, hS.mono e1, q1⟩
  · exact q1.elim
theorem pe_notG {a : Expr} {pos : Pos} {A : Env → Sto → R Val} (ha : PE X a (tE X.K W A)) : PE X (.UnaryOp .Not a pos) (tE X.K W (notEv A)) := by
  refine (pe_not ha).imp fun σ H Q ⟨cf, l, st, hH, hS, q⟩ => ?_
  refine ⟨cf, l, st, hH, hS, q.bind.mono fun c1 H1 v st1 e1 h1 q1 x rx => ?_⟩
  split at q1
  · cases rx
    exact ⟨_, rfl, q1.here h1 _ (.bl _)⟩
  · exact q1.elim
theorem pw_andG {a b : Expr} {rest : List Expr} {pos : Pos} {A B : Env → Sto → R Val} (ha : PT X a (tT X.K W A)) (hb : PW X (.BoolOp .And (b :: rest) pos) (tT X.K W B)) : PW X (.BoolOp .And (a :: b :: rest) pos) (tT X.K W (andEv A B)) := by
  refine ⟨fun whole pins s σ H Q I ⟨cf, l, st, hH, hS, q⟩ => (pw_and ha hb).run whole pins s σ H Q I ?_⟩
  refine ⟨cf, l, st, hH, hS, q.bind.mono fun c1 H1 v st1 e1 h1 q1 => ?_⟩
  split at q1
  · refine ⟨true, rfl, ?_⟩
    refine iteT ?_
    exact ⟨c1, l, st1, h1, hS.mono e1, q1⟩
  · refine ⟨false, rfl, ?_⟩
    refine iteF ?_
    obtain ⟨b, e, q⟩ := q1.here h1
    cases e
    exact q
  · exact q1.elim
theorem pw_orG {a b : Expr} {rest : List Expr} {pos : Pos} {A B : Env → Sto → R Val} (ha : PT X a (tT X.K W A)) (hb : PW X (.BoolOp .Or (b :: rest) pos) (tT X.K W B)) : PW X (.BoolOp .Or (a :: b :: rest) pos) (tT X.K W (orEv A B)) := by
  refine ⟨fun whole pins s σ H Q I ⟨cf, l, st, hH, hS, q⟩ => (pw_or ha hb).run whole pins s σ H Q I ?_⟩
  refine ⟨cf, l, st, hH, hS, q.bind.mono fun c1 H1 v st1 e1 h1 q1 => ?_⟩
  split at q1
  · refine ⟨true, rfl, ?_⟩
    refine iteT ?_
    obtain ⟨b, e, q⟩ := q1.here h1
    cases e
    exact q
  · refine ⟨false, rfl, ?_⟩
    refine iteF ?_
    exact ⟨c1, l, st1, h1, hS.mono e1, q1⟩
  · exact q1.elim
theorem pt_notG {a : Expr} {pos : Pos} {A : Env → Sto → R Val} (ha : PT X a (tT X.K W A)) : PT X (.UnaryOp .Not a pos) (tT X.K W (notEv A)) := by
  refine (pt_not ha).imp fun σ H Q ⟨cf, l, st, hH, hS, q⟩ => ?_
  refine ⟨cf, l, st, hH, hS, q.bind.mono fun c1 H1 v st1 e1 h1 q1 => ?_⟩
  split at q1
  · obtain ⟨b, e, q⟩ := q1.here h1
    cases e
    exact ⟨_, rfl, q⟩
  · exact q1.elim
theorem plain_eq {e : Expr} {env : PySem.Env} (h : plainT e = true) : ∀ whole, isTrue e env whole = (do let v ← whole; standAt e.pos; holding [v] (truthy v)) := by
  intro whole
  cases e with
  | UnaryOp op a p => cases op <;> first | rfl | cases h
  | BoolOp _ _ _ => cases h
  | IfExp _ _ _ _ => cases h
  | Compare _ _ _ _ => cases h
  | _ => rfl
/-- the test of a plain expression -/
theorem pt_plain {e : Expr} {A B : Env → Sto → R Val} (h : PE X e (tE X.K W A)) (hp : plainT e = true) (hx : ∀ l st, B l st = fin true (A l st)) : PT X e (tT X.K W B) := by
  refine (pt_truth h (plain_eq hp)).imp fun σ H Q ⟨cf, l, st, hH, hS, q⟩ => ?_
  rw [hx, fin_true] at q
  refine ⟨cf, l, st, hH, hS, q.bind.mono fun c1 H1 v st1 e1 h1 q1 x rx => ?_⟩
  split at q1
  · rename_i b eb
    obtain ⟨b', e, q⟩ := q1.here h1
    cases e
    exact ⟨b, truth_V h1 rx eb, q⟩
  · exact q1.elim
/-! arguments -/
def tA (K : PySem.W.Frag) (W : WX) (f : Env → Sto → R (List Val)) : TA := fun σ H Q => ∃ c l st, RelH K c H st ∧ RelS K c σ l ∧ Run K W c σ H (f l st) (fun c' H' v _ => ∀ x, Reps K c' x v → Q x H')
theorem _root_.L2.PA.imp {es : List Expr} {t t' : TA} (h : PA X es t) (i : ∀ σ H Q, t' σ H Q → t σ H Q) : PA X es t' := ⟨fun pos pins s σ H Q I q => h.run pos pins s σ H Q I (i σ H Q q)⟩
theorem nst_eq {e : Expr} {es : List Expr} {env : PySem.Env} (h : nst e = true) : starEach (e :: es) env = (false, eval e env) :: starEach es env := by
  cases e <;> first | rfl | cases h
theorem stars_eq {env : PySem.Env} {pos : Pos} : ∀ {es : List Expr}, es.all nst = true → (backTo pos (starEach es env)).any (·.1) = false
  | [], _ => rfl
  | e :: es, h => by
    rw [List.all_cons, Bool.and_eq_true] at h
    rw [nst_eq h.1]
    show (false || (backTo pos (starEach es env)).any (·.1)) = false
    rw [stars_eq h.2]
    rfl
theorem pa_nilG : PA X [] (tA X.K W fun l st => .ok [] st) := pa_nil.imp fun σ H Q ⟨cf, l, st, hH, hS, q⟩ => q.here hH _ .nil
theorem pa_consG {e : Expr} {es : List Expr} {A : Env → Sto → R Val} {B : Env → Sto → R (List Val)} (hn : nst e = true) (ha : PE X e (tE X.K W A)) (hr : PA X es (tA X.K W B)) : PA X (e :: es) (tA X.K W fun l st => (A l st).bind fun x st => (B l st).bind fun xs st => .ok (x :: xs) st) := by
  refine (pa_cons ha hr (nst_eq hn)).imp fun σ H Q ⟨cf, l, st, hH, hS, q⟩ => ?_
  refine ⟨cf, l, st, hH, hS, q.bind.mono fun c1 H1 v st1 e1 h1 q1 x rx => ⟨c1, l, st1, h1, hS.mono e1, q1.bind.mono fun c2 H2 w st2 e2 h2 q2 y ry => ?_⟩⟩
  exact q2.here h2 _ (.cons (rx.mono e2) ry)
theorem pk_nilG : PK X [] (tA X.K W fun l st => .ok [] st) := ⟨fun pos pins s σ H Q I ⟨cf, l, st, hH, hS, q⟩ => pk_nil.run pos pins s σ H Q I (q.here hH _ .nil)⟩
theorem pk_consG {nm : Option Str} {kpos : Pos} {e : Expr} {es : List Keyword} {A : Env → Sto → R Val} {B : Env → Sto → R (List Val)} (ha : PE X e (tE X.K W A)) (hr : PK X es (tA X.K W B)) : PK X (⟨nm, e, kpos⟩ :: es) (tA X.K W fun l st => (A l st).bind fun x st => (B l st).bind fun xs st => .ok (x :: xs) st) := by
  refine ⟨fun pos pins s σ H Q I ⟨cf, l, st, hH, hS, q⟩ => (pk_cons ha hr).run pos pins s σ H Q I ?_⟩
  refine ⟨cf, l, st, hH, hS, q.bind.mono fun c1 H1 v st1 e1 h1 q1 x rx => ⟨c1, l, st1, h1, hS.mono e1, q1.bind.mono fun c2 H2 w st2 e2 h2 q2 y ry => ?_⟩⟩
  exact q2.here h2 _ (.cons (rx.mono e2) ry)
end
end Pv

set_option Elab.async false
set_option linter.all false
set_option maxRecDepth 100000
set_option maxHeartbeats 4000000
/-! enumerate over tuples (and lists). -/
namespace Pv
open PySem PySem.Spec PyProof.Rows L2 RZ
set_option maxHeartbeats 1000000 in
theorem meets_enum1 {v : Value} {o : Obj} {H : Heap → Prop} (B : Begins v o H) :
    Meets (Builtin.«enumerate.__new__» ⟨[.type "enumerate", v], []⟩) (fun _ R s => H s.heap ∧
      R (.ok (.ret (.ref (s.heap.push o).objs.size))) { s with heap := (s.heap.push o).push { cls := .type "enumerate", data := .fields #[.none, .bool false, .ref s.heap.objs.size, rawInt 0, .none, .none] } }) :=
  .of_wp fun prog w A R s h => by
    obtain ⟨hp, g, d, tk, os⟩ := s; obtain ⟨h1, h⟩ := h
    have hsub := sub_enumerate
    have q1 : ∀ {A' : Around} {E : Value → Shared → Prop} {Q : Value → Shared → Prop}, Q (.ref hp.objs.size) ⟨hp.push o, g, d, tk, os⟩ → wpAny (model prog w) A' (pyIter v) Q E ⟨hp, g, d, tk, os⟩ :=
      fun q => B.iter prog w _ _ ⟨hp, g, d, tk, os⟩ _ h1 q
    wp_walk using q1
    refine wpAny_stack_any fun st => wpAny_pure ?_
    split
    · rename_i c _ _ _ _ _
      cases (c == Value.type "enumerate")
      · wp_walk using q1
        exact ⟨_, rfl, h⟩
      · wp_walk using q1
        exact ⟨_, rfl, h⟩
    · wp_walk using q1
      exact ⟨_, rfl, h⟩
section
variable {prog : Program} {w : World} {A : Around} {E : Value → Shared → Prop} {s : Shared}
theorem call_enum_tuple {t : Addr} {items : Array Value} {Q : Value → Shared → Prop} (hT : s.heap.IsTuple t items)
    (h : ∀ h', IsEnum h' (s.heap.objs.size + 1) s.heap.objs.size 0 .none → h'.IsTupleIter s.heap.objs.size t 0 → h'.objs.size = s.heap.objs.size + 2 →
      (∀ b o, s.heap.get? b = some o → h'.get? b = some o) → Q (.ref (s.heap.objs.size + 1)) { s with heap := h' }) :
    wpAny (model prog w) A (call (.type "enumerate") [.ref t]) Q E s := by
  have B := begins_tuple t items
  refine callType_new F.called_enumerate (by decide) (F.typeCall_enumerate_1 _) (F.newCall_enumerate_1 _) (fun obj => F.args_object_init_2 obj _) F.entry_enumerate_new
    (meets_enum1 B) ⟨hT, ?_⟩
  have hz : (s.heap.push { cls := .type "tuple_iterator", data := .fields #[.ref t, .int 0 0] }).objs.size = s.heap.objs.size + 1 := Heap.size_push ..
  show _ ∧ _
  rw [hz]
  have he : IsEnum ((s.heap.push { cls := .type "tuple_iterator", data := .fields #[.ref t, .int 0 0] }).push
      { cls := .type "enumerate", data := .fields #[.none, .bool false, .ref s.heap.objs.size, rawInt 0, .none, .none] }) (s.heap.objs.size + 1) s.heap.objs.size 0 .none := by
    have := Heap.get?_push_size (s.heap.push { cls := .type "tuple_iterator", data := .fields #[.ref t, .int 0 0] })
      (o := { cls := .type "enumerate", data := .fields #[.none, .bool false, .ref s.heap.objs.size, rawInt 0, .none, .none] }) rfl
    rw [hz] at this; exact this
  refine ⟨⟨_, he, rfl⟩, h _ he ⟨_, Heap.get?_push_of_some _ (Heap.get?_push_size _ rfl), rfl, rfl⟩ (by rw [Heap.size_push, hz]) fun b o x => Heap.get?_push_of_some _ (Heap.get?_push_of_some _ x)⟩
theorem enum_end_tuple {e it t : Addr} {i : Nat} {c : Int} {items : Array Value} {old : Value} {Q : Option Value → Shared → Prop} (hh : A.in1.handled = none)
    (he : IsEnum s.heap e it c old) (hit : s.heap.IsTupleIter it t i) (ht : s.heap.IsTuple t items) (hx : items[i]? = none)
    (hQ : ∀ h', Heap.ExtBut it s.heap h' → Q none { s with heap := h' }) : wpAny (model prog w) A (pyNext (.ref e)) Q E s := by
  have hT : s.TypeIs (.ref e) "enumerate" := ⟨_, he, rfl⟩
  unfold pyNext
  refine wpAny_bind (wpAny_attempt (wpAny_callSpecial?_slot (name := Str.ofString "__next__") hT F.slot_enumerate_next
    (wpAny_call_entry F.slot_enumerate_next hT F.entry_enumerate_next ?_ (F.args_enumerate_next_1 _))))
  show wpAny _ _ (field (.ref e) 2 >>= _) _ _ _
  refine wpAny_bind (wpAny_field he rfl (x := .ref it) rfl ?_)
  refine wpAny_bind (wpAny_nextOf_tuple_end hh hit ht hx fun h' x he' hx' => ?_)
  obtain ⟨o, ho, hc⟩ := hx'
  refine wpAny_bind (wpAny_isInstance (T := "StopIteration") (b := true) ⟨o, ho, hc⟩ isSubtype_stop ?_)
  exact wpAny_pure (hQ _ he')
end
/-- the tuple at a as it stands at each turn, each item in a new pair -/
def IteT (K : PySem.W.Frag) (a : Addr) : L2.It :=
  ⟨fun i H => ∃ (xs : List V) (x : V), SqT K H a xs ∧ xs[i]? = some x, fun i H v H' => ∃ T x, v = .ref T ∧ H T = none ∧ H' = upd H T (.tup [.int (i : Nat), x]) ∧ ∀ xs, SqT K H a xs → xs[i]? = some x, fun i H => ∃ xs : List V, SqT K H a xs ∧ xs.length ≤ i⟩
theorem turn_enumT {P : Program} {w : World} {K : PySem.W.Frag} {elts : List Expr} {kk : Nat} {tpos : Pos} (a e it : Addr) :
    Turn P w K (.Tuple elts kk tpos) (IteT K a) [e, it] e (fun i h => (∃ old, IsEnum h e it ((i : Nat) : Int) old) ∧ h.IsTupleIter it a i ∧ e ≠ it) where
  mem := by simp
  obj := fun i h st b hb => by
    obtain ⟨⟨old, he⟩, ⟨o, ho, hc, hd⟩, _⟩ := st
    have e' : b = e ∨ b = it := by simpa using hb
    rcases e' with z | z
    · rw [z]; exact ⟨_, he, fun v q => nomatch q⟩
    · rw [z]; exact ⟨o, ho, fun v q => by rw [hd] at q; cases q⟩
  keep := fun i h h' st k => let ⟨⟨old, he⟩, hi, hne⟩ := st; ⟨⟨old, k e (by simp) _ he⟩, hi.at fun o q => k it (by simp) o q, hne⟩
  item := by
    intro X hP hw hK hc i pins s σ H E I hf st hg
    subst hP hw hK
    obtain ⟨⟨old, he⟩, hit, hne⟩ := st
    obtain ⟨xs, x, hq, hx⟩ := hg
    obtain ⟨its, rv, p, hz⟩ := I.tuple hq
    obtain ⟨u, hu, ru⟩ := rv.get hx
    have hel : e < s.heap.objs.size := Heap.lt_size he
    have hil : it < s.heap.objs.size := by obtain ⟨_, q, _⟩ := hit; exact Heap.lt_size q
    have hai : a ≠ it := fun z => by
      obtain ⟨o1, e1, c1, _⟩ := hit
      obtain ⟨o2, e2, c2, _⟩ := id p
      rw [z, e1] at e2
      cases e2
      rw [c1] at c2
      exact absurd c2 (by decide)
    have hae : e ≠ a := fun z => by
      obtain ⟨o2, e2, c2, _⟩ := id p
      rw [← z, he] at e2
      cases e2
      have c3 : Value.type "enumerate" = .type "tuple" := c2
      exact absurd c3 (by decide)
    have D := Draws.tuple (prog := X.prog) (w := X.w) (A := X.A.in1) (I.ok.hd hc) it a hai its.toArray
    have hlt : i < its.toArray.size := by
      have := List.getElem?_eq_some_iff.mp hu
      simpa using this.1
    refine wpAny_pyNext_enum_itemC D he ⟨hit, (show s.heap.IsTuple a its.toArray from p)⟩ hlt hne (by simp [hne, hae]) fun x' h' tk hP ho hs' hT hsz hk => ?_
    have ex : x' = u := by
      have : its.toArray[i]? = some u := by simpa using hu
      rw [this] at hP
      exact (Option.some.inj hP).symm
    subst ex
    refine ⟨_, rfl, wpAny_letOwnedTupleGo_enum (s := { s with heap := h', toks := tk + 1 }) ho fun h'' he' sb => ?_⟩
    have hT2 : h''.get? s.heap.objs.size = some { cls := .type "tuple", data := .seq #[.int i tk, x'] } := (sb.2 _ (Nat.ne_of_gt hel)).trans hT
    have new : ObjOk X.prog X.w (upd H s.heap.objs.size (.tup [.int (i : Nat), x])) h'' s.heap.objs.size (.tup [.int (i : Nat), x]) :=
      ⟨by show 2 ≤ sizeLine; decide, [.int i tk, x'], .cons ⟨_, rfl⟩ (.cons ru .nil), ⟨_, hT2, rfl, _, rfl⟩⟩
    have I1 : L2.Inv X pins σ (upd H s.heap.objs.size (.tup [.int (i : Nat), x])) { s with heap := h'', toks := tk + 1 } :=
      I.turnedNew (ch := [e, it]) (fun b ob hb q => (sb.2 b (fun z => hb (by simp [z]))).trans (hk b ob (fun z => hb (by simp [z])) (fun z => hb (by simp [z])) q)) hf (Nat.le_refl _) new
    refine ⟨.ref s.heap.objs.size, _, I1, rfl, ⟨_, x, rfl, I.hok.fresh (Nat.le_refl _), rfl, fun ys hy => by rw [I.tuple_inj hy hq]; exact hx⟩, ⟨⟨x', ?_⟩, hs'.1.at fun o q => (sb.2 it (Ne.symm hne)).trans q, hne⟩, fun b hb => ?_⟩
    · have e1 : ((i + 1 : Nat) : Int) = (i : Int) + 1 := by omega
      rw [e1]; exact he'
    · have hb' : b < s.heap.objs.size := by
        have e' : b = e ∨ b = it := by simpa using hb
        rcases e' with z | z
        · rw [z]; exact hel
        · rw [z]; exact hil
      rw [upd_ne (Nat.ne_of_lt hb')]
      exact (hf b hb).1
  done := by
    intro X hP hw hK hc i pins s σ H E I hf st hg
    subst hP hw hK
    obtain ⟨⟨old, he⟩, hit, hne⟩ := st
    obtain ⟨xs, hq, hx⟩ := hg
    obtain ⟨its, rv, p, hz⟩ := I.tuple hq
    obtain ⟨f0, f1, f2, f3, f4, f5⟩ := hf it (by simp)
    have hl := rv.length
    exact enum_end_tuple (I.ok.hd hc) he hit (show s.heap.IsTuple a its.toArray from p) (by simp; omega) fun h' eb => ⟨rfl, I.turned (t' := s.toks) (fun b o hb q => eb b o hb q) f0 f1 f3 f4 f5⟩
  self := fun A i s Q E st h => let ⟨⟨_, he⟩, _⟩ := st; wpAny_pyIter_enum he h
def iEnumA (K : PySem.W.Frag) (ta : TA) : TI := fun σ H R => ta σ H fun vs H1 => ∃ a xs, vs = [.ref a] ∧ ((SqL K H1 a xs ∧ R (Ite K a) H1) ∨ (SqT K H1 a xs ∧ R (IteT K a) H1))
theorem pi_enumA {X : Cx} {e : Expr} {ta : TA} {p pos tpos : Pos} {elts : List Expr} {kk : Nat} (hg : Gl X "enumerate") (hm : X.mg "enumerate" = none) (ha : PA X [e] ta) (hs : starEach [e] X.env = [(false, eval e X.env)]) :
    PI X (.Tuple elts kk tpos) (.Call (.Name "enumerate" p) [e] [] pos) (iEnumA X.K ta) := by
  refine ⟨fun pins s σ H R I h => ?_⟩
  refine Call_ (ld_blt I hg hm boot_enumerate (PyProof.Rows.callWith_type1 (thn (ha.run pos pins s σ H _ I h) fun us s1 ⟨vs, H1, I1, r1, q1⟩ => ?_) hs rfl))
  obtain ⟨a, xs, ex, q⟩ := q1
  subst ex
  cases r1 with
  | cons r rr =>
    cases rr
    cases r
    rcases q with ⟨hq, q⟩ | ⟨hq, q⟩
    · obtain ⟨its, rv, p', hz⟩ := I1.list hq
      refine call_enumerate_list p'.isList fun h' he hit hsz hk => wpAny_pyIter_enum he ?_
      have I2 : L2.Inv X pins σ H1 { s1 with heap := h' } := I1.kept (t' := s1.toks) hk
      refine ⟨s1.heap.objs.size + 1, [s1.heap.objs.size + 1, s1.heap.objs.size], _, _, H1, rfl, I2, turn_enum a (s1.heap.objs.size + 1) s1.heap.objs.size, ⟨⟨.none, he⟩, hit, Nat.succ_ne_self _⟩, fun b hb => ?_, q⟩
      have e' : b = s1.heap.objs.size + 1 ∨ b = s1.heap.objs.size := by simpa using hb
      have hle : s1.heap.objs.size ≤ b := by
        rcases e' with z | z
        · rw [z]; exact Nat.le_add_right _ _
        · rw [z]; exact Nat.le_refl _
      exact I1.fpOk hle (I1.hok.fresh hle)
    · obtain ⟨its, rv, p', hz⟩ := I1.tuple hq
      refine call_enum_tuple (show s1.heap.IsTuple a its.toArray from p') fun h' he hit hsz hk => wpAny_pyIter_enum he ?_
      have I2 : L2.Inv X pins σ H1 { s1 with heap := h' } := I1.kept (t' := s1.toks) hk
      refine ⟨s1.heap.objs.size + 1, [s1.heap.objs.size + 1, s1.heap.objs.size], _, _, H1, rfl, I2, turn_enumT a (s1.heap.objs.size + 1) s1.heap.objs.size, ⟨⟨.none, he⟩, hit, Nat.succ_ne_self _⟩, fun b hb => ?_, q⟩
      have e' : b = s1.heap.objs.size + 1 ∨ b = s1.heap.objs.size := by simpa using hb
      have hle : s1.heap.objs.size ≤ b := by
        rcases e' with z | z
        · rw [z]; exact Nat.le_add_right _ _
        · rw [z]; exact Nat.le_refl _
      exact I1.fpOk hle (I1.hok.fresh hle)
end Pv

set_option Elab.async false
set_option linter.all false
set_option maxRecDepth 100000
set_option maxHeartbeats 4000000
namespace Pv
open PySem PySem.Spec PyProof.Rows L2 RZ
/-! ### what is walked -/
/-- what a walk needs of later states -/
structure Ex0 (c c' : Cf) : Prop where
  F : Same c.F c'.F
  φ : c.φ <+: c'.φ
theorem Ext.to0 {c c' : Cf} {H H' : Hp} (e : Ext c H c' H') : Ex0 c c' := ⟨e.F, e.φ⟩
theorem Reps.mono0 {K : PySem.W.Frag} {c c' : Cf} {vs : List V} {l : List Val} (h : Reps K c vs l) (e : Ex0 c c') : Reps K c' vs l := Reps.mono' e.F e.φ h
def WalkOk (K : PySem.W.Frag) (J : L2.It) (items : List Val) (g : List (Nat × List Val)) (c0 : Cf) (H0 : Hp) : Prop := ∀ c H st, Ex0 c0 c → RelH K c H st → guardOk st g →
  (∀ i, items.length ≤ i → J.stop i H) ∧ ∀ i, i < items.length → J.go i H ∧ ∀ x H', J.yld i H x H' → ∃ c' v, Ext c H c' H' ∧ RelH K c' H' st ∧ items[i]? = some v ∧ Rep K c' x v
def tI (K : PySem.W.Frag) (W : WX) (f : Env → Sto → R Its) : TI := fun σ H Q => ∃ c l st, RelH K c H st ∧ RelS K c σ l ∧ Run K W c σ H (f l st) (fun c' H' I _ => ∀ J, WalkOk K J I.1 I.2 c' H' → Q J H')
theorem _root_.L2.PI.imp {X : Cx} {tg e : Expr} {t t' : TI} (h : PI X tg e t) (i : ∀ σ H Q, t' σ H Q → t σ H Q) : PI X tg e t' := ⟨fun pins s σ H Q I q => h.run pins s σ H Q I (i σ H Q q)⟩
section
variable {k : Ck} {X : Cx} {W : WX} {c : Cn} {lv : Nat}
theorem get_some {α : Type} {l : List α} {i : Nat} (h : i < l.length) : ∃ a, l[i]? = some a := ⟨l[i], List.getElem?_eq_getElem h⟩
theorem walk_list {K : PySem.W.Frag} {a : Addr} {items : List Val} {g : List (Nat × List Val)} {c0 : Cf} {H0 : Hp} (h : ∀ c H st, Ex0 c0 c → RelH K c H st → guardOk st g → ∃ vs, SqL K H a vs ∧ Reps K c vs items) : WalkOk K (Itl K a) items g c0 H0 := by
  intro c H st e r hg
  obtain ⟨vs, h1, h2⟩ := h c H st e r hg
  have hl := h2.length
  refine ⟨fun i hi => ⟨vs, h1, by omega⟩, fun i hi => ?_⟩
  obtain ⟨d, ed⟩ := get_some hi
  obtain ⟨v, ev, rv⟩ := h2.get ed
  refine ⟨⟨vs, v, h1, ev⟩, fun x H' y => ?_⟩
  obtain ⟨rfl, y⟩ := y
  have z : v = x := Option.some.inj (ev.symm.trans (y vs h1))
  subst z
  exact ⟨c, d, Ext.refl, r, ed, rv⟩
theorem walk_tup {K : PySem.W.Frag} {a : Addr} {items : List Val} {g : List (Nat × List Val)} {c0 : Cf} {H0 : Hp} (h : ∀ c H st, Ex0 c0 c → RelH K c H st → guardOk st g → ∃ vs, SqT K H a vs ∧ Reps K c vs items) : WalkOk K (Itt K a) items g c0 H0 := by
  intro c H st e r hg
  obtain ⟨vs, h1, h2⟩ := h c H st e r hg
  have hl := h2.length
  refine ⟨fun i hi => ⟨vs, h1, by omega⟩, fun i hi => ?_⟩
  obtain ⟨d, ed⟩ := get_some hi
  obtain ⟨v, ev, rv⟩ := h2.get ed
  refine ⟨⟨vs, v, h1, ev⟩, fun x H' y => ?_⟩
  obtain ⟨rfl, y⟩ := y
  have z : v = x := Option.some.inj (ev.symm.trans (y vs h1))
  subst z
  exact ⟨c, d, Ext.refl, r, ed, rv⟩
theorem zipV_length : ∀ {l m : List Val}, (zipV l m).length = min l.length m.length
  | [], _ => by simp [zipV]
  | _ :: _, [] => by simp [zipV]
  | _ :: l, _ :: m => by
    show (zipV l m).length + 1 = _
    rw [zipV_length, List.length_cons, List.length_cons]
    omega
theorem zipV_get : ∀ {l m : List Val} {i : Nat} {x y : Val}, l[i]? = some x → m[i]? = some y → (zipV l m)[i]? = some (.tup [x, y])
  | [], _, _, _, _, h, _ => by simp at h
  | _ :: _, [], _, _, _, _, h => by simp at h
  | a :: l, b :: m, 0, x, y, h1, h2 => by
    have e1 : a = x := by simpa using h1
    have e2 : b = y := by simpa using h2
    rw [← e1, ← e2]
    rfl
  | a :: l, b :: m, i + 1, x, y, h1, h2 => by
    show (zipV l m)[i]? = _
    exact zipV_get (by simpa using h1) (by simpa using h2)
theorem walk_zipL {K : PySem.W.Frag} {a b : Addr} {l m : List Val} {g : List (Nat × List Val)} {c0 : Cf} {H0 : Hp} (h : ∀ c H st, Ex0 c0 c → RelH K c H st → guardOk st g → ∃ vs ws, SqL K H a vs ∧ SqL K H b ws ∧ Reps K c vs l ∧ Reps K c ws m) : WalkOk K (Itz K a b) (zipV l m) g c0 H0 := by
  intro c H st e r hg
  obtain ⟨vs, ws, h1, h2, h3, h4⟩ := h c H st e r hg
  have hl := h3.length
  have hm := h4.length
  rw [zipV_length]
  refine ⟨fun i hi => ⟨vs, ws, h1, h2, by omega⟩, fun i hi => ?_⟩
  obtain ⟨d, ed⟩ := get_some (l := l) (i := i) (by omega)
  obtain ⟨d', ed'⟩ := get_some (l := m) (i := i) (by omega)
  obtain ⟨v, ev, rv⟩ := h3.get ed
  obtain ⟨w, ew, rw'⟩ := h4.get ed'
  refine ⟨⟨vs, ws, v, w, h1, h2, ev, ew⟩, fun x H' y => ?_⟩
  obtain ⟨T, x1, x2, rfl, nT, rfl, f1, f2⟩ := y
  have z1 : v = x1 := Option.some.inj (ev.symm.trans (f1 vs h1))
  have z2 : w = x2 := Option.some.inj (ew.symm.trans (f2 ws h2))
  subst z1 z2
  obtain ⟨e', r'⟩ := r.new nT (.tup [v, w])
  exact ⟨_, .tup [d, d'], e', r', zipV_get ed ed', .tup (by exact upd_same) (.cons (rv.mono e') (.cons (rw'.mono e') .nil))⟩
theorem walk_zipT {K : PySem.W.Frag} {a b : Addr} {l m : List Val} {g : List (Nat × List Val)} {c0 : Cf} {H0 : Hp} (h : ∀ c H st, Ex0 c0 c → RelH K c H st → guardOk st g → ∃ vs ws, SqT K H a vs ∧ SqT K H b ws ∧ Reps K c vs l ∧ Reps K c ws m) : WalkOk K (ItzT K a b) (zipV l m) g c0 H0 := by
  intro c H st e r hg
  obtain ⟨vs, ws, h1, h2, h3, h4⟩ := h c H st e r hg
  have hl := h3.length
  have hm := h4.length
  rw [zipV_length]
  refine ⟨fun i hi => ⟨vs, ws, h1, h2, by omega⟩, fun i hi => ?_⟩
  obtain ⟨d, ed⟩ := get_some (l := l) (i := i) (by omega)
  obtain ⟨d', ed'⟩ := get_some (l := m) (i := i) (by omega)
  obtain ⟨v, ev, rv⟩ := h3.get ed
  obtain ⟨w, ew, rw'⟩ := h4.get ed'
  refine ⟨⟨vs, ws, v, w, h1, h2, ev, ew⟩, fun x H' y => ?_⟩
  obtain ⟨T, x1, x2, rfl, nT, rfl, f1, f2⟩ := y
  have z1 : v = x1 := Option.some.inj (ev.symm.trans (f1 vs h1))
  have z2 : w = x2 := Option.some.inj (ew.symm.trans (f2 ws h2))
  subst z1 z2
  obtain ⟨e', r'⟩ := r.new nT (.tup [v, w])
  exact ⟨_, .tup [d, d'], e', r', zipV_get ed ed', .tup (by exact upd_same) (.cons (rv.mono e') (.cons (rw'.mono e') .nil))⟩
theorem enmV_len {l : List Val} : (enmV l).length = l.length := by simp [enmV]
theorem enmV_get {l : List Val} {i : Nat} {x : Val} (h : l[i]? = some x) : (enmV l)[i]? = some (.tup [.int i, x]) := by
  have hi := (List.getElem?_eq_some_iff.mp h).1
  unfold enmV
  rw [List.getElem?_map, List.getElem?_range hi]
  have e : l.getD i .non = x := by rw [List.getD_eq_getElem?_getD, h]; rfl
  show some (Val.tup [Val.int i, l.getD i .non]) = _
  rw [e]
theorem walk_enumL {K : PySem.W.Frag} {a : Addr} {l : List Val} {g : List (Nat × List Val)} {c0 : Cf} {H0 : Hp} (h : ∀ c H st, Ex0 c0 c → RelH K c H st → guardOk st g → ∃ vs, SqL K H a vs ∧ Reps K c vs l) : WalkOk K (Ite K a) (enmV l) g c0 H0 := by
  intro c H st e r hg
  obtain ⟨vs, h1, h3⟩ := h c H st e r hg
  have hl := h3.length
  rw [enmV_len]
  refine ⟨fun i hi => ⟨vs, h1, by omega⟩, fun i hi => ?_⟩
  obtain ⟨d, ed⟩ := get_some hi
  obtain ⟨v, ev, rv⟩ := h3.get ed
  refine ⟨⟨vs, v, h1, ev⟩, fun x H' y => ?_⟩
  obtain ⟨T, x1, rfl, nT, rfl, f1⟩ := y
  have z1 : v = x1 := Option.some.inj (ev.symm.trans (f1 vs h1))
  subst z1
  obtain ⟨e', r'⟩ := r.new nT (.tup [.int (i : Nat), v])
  exact ⟨_, .tup [.int i, d], e', r', enmV_get ed, .tup (by exact upd_same) (.cons (.int _) (.cons (rv.mono e') .nil))⟩
theorem walk_enumT {K : PySem.W.Frag} {a : Addr} {l : List Val} {g : List (Nat × List Val)} {c0 : Cf} {H0 : Hp} (h : ∀ c H st, Ex0 c0 c → RelH K c H st → guardOk st g → ∃ vs, SqT K H a vs ∧ Reps K c vs l) : WalkOk K (IteT K a) (enmV l) g c0 H0 := by
  intro c H st e r hg
  obtain ⟨vs, h1, h3⟩ := h c H st e r hg
  have hl := h3.length
  rw [enmV_len]
  refine ⟨fun i hi => ⟨vs, h1, by omega⟩, fun i hi => ?_⟩
  obtain ⟨d, ed⟩ := get_some hi
  obtain ⟨v, ev, rv⟩ := h3.get ed
  refine ⟨⟨vs, v, h1, ev⟩, fun x H' y => ?_⟩
  obtain ⟨T, x1, rfl, nT, rfl, f1⟩ := y
  have z1 : v = x1 := Option.some.inj (ev.symm.trans (f1 vs h1))
  subst z1
  obtain ⟨e', r'⟩ := r.new nT (.tup [.int (i : Nat), v])
  exact ⟨_, .tup [.int i, d], e', r', enmV_get ed, .tup (by exact upd_same) (.cons (.int _) (.cons (rv.mono e') .nil))⟩
theorem rngL_length {lo c : Int} {n : Nat} : (rngL lo c n).length = n := by
  unfold rngL
  rw [List.length_map, List.length_range]
theorem rngL_get {lo c : Int} {n i : Nat} (h : i < n) : (rngL lo c n)[i]? = some (.int (lo + (i : Nat) * c)) := by
  unfold rngL
  rw [List.getElem?_map, List.getElem?_range h]
  rfl
theorem walk_r1 {K : PySem.W.Frag} {lo : Int} {n : Nat} {g : List (Nat × List Val)} {c0 : Cf} {H0 : Hp} : WalkOk K (Itr lo n) (rngL lo 1 n) g c0 H0 := by
  intro c H st e r hg
  rw [rngL_length]
  refine ⟨fun i hi => hi, fun i hi => ⟨hi, fun x H' y => ?_⟩⟩
  obtain ⟨rfl, rfl⟩ := y
  refine ⟨c, _, Ext.refl, r, rngL_get hi, ?_⟩
  rw [Int.mul_one]
  exact .int _
theorem walk_rc {K : PySem.W.Frag} {lo d : Int} {n : Nat} {g : List (Nat × List Val)} {c0 : Cf} {H0 : Hp} : WalkOk K (Itc lo d n) (rngL lo d n) g c0 H0 := by
  intro c H st e r hg
  rw [rngL_length]
  refine ⟨fun i hi => hi, fun i hi => ⟨hi, fun x H' y => ?_⟩⟩
  obtain ⟨rfl, rfl⟩ := y
  exact ⟨c, _, Ext.refl, r, rngL_get hi, .int _⟩
/-- a list, a tuple or a range, walked -/
theorem pi_any {tg l : Expr} {tl : TE} (hl : PE X l tl) : PI X tg l (fun σ H R => tl σ H fun x H1 => ∃ a, x = .ref a ∧ (((∃ xs, SqL X.K H1 a xs) ∧ R (Itl X.K a) H1) ∨ ((∃ xs, SqT X.K H1 a xs) ∧ R (Itt X.K a) H1) ∨ ∃ (lo hi d : Int) (n : Nat), H1 a = some (.ext (rngφ a lo hi d)) ∧ Builtin.Range.small lo hi d = true ∧ (n : Int) = Builtin.Range.rangeSize lo hi d ∧ R (Itc lo d n) H1)) := by
  refine ⟨fun pins s σ H R I h => ?_⟩
  refine thn (hl.run pins s σ H _ I h) fun v s1 ⟨x, H1, I1, r1, q1⟩ => ?_
  obtain ⟨a, e, q1⟩ := q1
  subst e
  cases r1
  rcases q1 with ⟨⟨xs, hq⟩, q⟩ | ⟨⟨xs, hq⟩, q⟩ | ⟨lo, hi, d, n, hr, hs, hn, q⟩
  rotate_right
  · obtain ⟨⟨t, u, w1, hr⟩, _, _⟩ := I1.hok _ _ hr
    refine wpAny_pyIter_range hr hs ?_
    have I2 : L2.Inv X pins σ H1 { s1 with heap := s1.heap.push { cls := .type "range_iterator", data := .fields #[rawInt lo, rawInt (Builtin.Range.rangeSize lo hi d), rawInt d] } } := I1.kept (t' := s1.toks) fun b o e => Heap.get?_push_of_some _ e
    refine ⟨s1.heap.objs.size, [s1.heap.objs.size], _, _, H1, rfl, I2, turn_rangeC _ lo d n, ?_, fun b hb => ?_, q⟩
    · have e1 : lo + ((0 : Nat) : Int) * d = lo := by simp
      have e2 : (n : Int) - ((0 : Nat) : Int) = Builtin.Range.rangeSize lo hi d := by rw [hn]; simp
      show IsRangeIter _ _ (lo + ((0 : Nat) : Int) * d) ((n : Int) - ((0 : Nat) : Int)) d
      rw [e1, e2]
      exact Heap.get?_push_size _ rfl
    · have e : b = s1.heap.objs.size := by simpa using hb
      subst e
      exact I1.fpOk (Nat.le_refl _) (I1.hok.fresh (Nat.le_refl _))
  · obtain ⟨its, rv, p, hz⟩ := I1.list hq
    refine wpAny_pyIter_list p.isList ?_
    refine ⟨s1.heap.objs.size, [s1.heap.objs.size], _, _, H1, rfl, I1.kept (t' := s1.toks) fun b o e => Heap.get?_push_of_some _ e, turn_list a _, ⟨_, Heap.get?_push_size _ rfl, rfl, rfl⟩, fun b hb => ?_, q⟩
    have e : b = s1.heap.objs.size := by simpa using hb
    subst e
    exact I1.fpOk (Nat.le_refl _) (I1.hok.fresh (Nat.le_refl _))
  · obtain ⟨its, rv, p, hz⟩ := I1.tuple hq
    refine wpAny_pyIter_tuple (show s1.heap.IsTuple a its.toArray from p) ?_
    refine ⟨s1.heap.objs.size, [s1.heap.objs.size], _, _, H1, rfl, I1.kept (t' := s1.toks) fun b o e => Heap.get?_push_of_some _ e, turn_tuple a _, ⟨_, Heap.get?_push_size _ rfl, rfl, rfl⟩, fun b hb => ?_, q⟩
    have e : b = s1.heap.objs.size := by simpa using hb
    subst e
    exact I1.fpOk (Nat.le_refl _) (I1.hok.fresh (Nat.le_refl _))
noncomputable def seqEv (A : Env → Sto → R Val) : Env → Sto → R Its := fun l st => (A l st).bind fun x st => seqV x st
/-- an own list that is walked is as it was -/
theorem lview_later {K : PySem.W.Frag} {cf : Cf} {H : Hp} {st : Sto} (h : RelH K cf H st) {x : V} {v : Val} {l : List Val} (r : Rep K cf x v) (e : lview st v = some l) : ∃ a, x = .ref a ∧ ∀ c' H' st', Ex0 cf c' → RelH K c' H' st' → guardOk st' (gst st v) → ∃ vs, H' a = some (.lst vs) ∧ Reps K c' vs l := by
  cases r with
  | lst h1 h2 =>
    cases e
    exact ⟨_, rfl, fun c' H' st' e' r' _ => ⟨_, r'.sub _ _ (e'.F _ _ h1), h2.mono0 e'⟩⟩
  | @ref a n h1 =>
    have e' : (match st[n]? with | some (.lst l) => some l | _ => none) = some l := e
    split at e'
    · rename_i l' q
      cases e'
      refine ⟨a, rfl, fun c' H' st' e2 r' hg => ?_⟩
      have em : mlist st (.ref n) = some (n, l) := by
        show (match st[n]? with | some (.lst l) => some (n, l) | _ => none) = _
        rw [q]
      have q' : st'[n]? = some (.lst l) := hg (n, l) (by unfold gst; rw [em]; exact List.mem_cons_self)
      obtain ⟨a', vs, q1, q2, q3, q4⟩ := r'.obs n l q'
      have z : a' = a := Option.some.inj (q1.symm.trans (prefix_get e2.φ h1))
      subst z
      exact ⟨vs, q3, q4⟩
    · cases e'
  | _ => cases e
theorem walk_str {K : PySem.W.Frag} {z : Str} {g : List (Nat × List Val)} {c0 : Cf} {H0 : Hp} : WalkOk K (L2.Its z) (strL z) g c0 H0 := by
  intro c H st e r hg
  have hl : (strL z).length = z.cps.size := by
    unfold strL
    rw [List.length_map, Array.length_toList]
  rw [hl]
  refine ⟨fun i hi => hi, fun i hi => ⟨hi, fun x H' y => ?_⟩⟩
  obtain ⟨rfl, ch, ec, rfl⟩ := y
  refine ⟨c, _, Ext.refl, r, ?_, .str _⟩
  unfold strL
  rw [List.getElem?_map, Array.getElem?_toList, ec]
  rfl
theorem _root_.L2.PI.or {X : Cx} {tg e : Expr} {t1 t2 : TI} (h1 : PI X tg e t1) (h2 : PI X tg e t2) : PI X tg e (fun σ H R => t1 σ H R ∨ t2 σ H R) := ⟨fun pins s σ H R I h => h.elim (h1.run pins s σ H R I) (h2.run pins s σ H R I)⟩
theorem pi_seqG {tg e : Expr} {A : Env → Sto → R Val} (ha : PE X e (tE X.K W A)) : PI X tg e (tI X.K W (seqEv A)) := by
  refine ((pi_str ha).or (pi_any ha)).imp fun σ H Q ⟨cf, l, st, hH, hS, q⟩ => ?_
  by_cases hz : ∃ z st', A l st = .ok (.str z) st'
  · obtain ⟨z, st', ez⟩ := hz
    refine .inl ⟨cf, l, st, hH, hS, ?_⟩
    have q : Run X.K W cf σ H ((A l st).bind fun x st => seqV x st) _ := q
    rw [ez] at q ⊢
    intro c1 H1 e1 h1 x rx
    cases rx
    exact ⟨z, rfl, q c1 H1 e1 h1 _ walk_str⟩
  refine .inr ⟨cf, l, st, hH, hS, q.bind.eqn.mono fun c1 H1 v st1 e1 h1 ⟨ea, q1⟩ x rx => ?_⟩
  have hz' : ∀ z, v ≠ .str z := fun z e => hz ⟨z, st1, by rw [ea, e]⟩
  clear ea hz
  unfold seqV at q1
  split at q1
  · rename_i lo hi d _
    split at q1
    · rename_i hs
      have q1 := q1.here h1
      cases rx with
      | rng hr => exact ⟨_, rfl, .inr (.inr ⟨lo, hi, d, _, h1.sub _ _ hr, hs, (PyProof.Rows.rangeSize_toNat lo hi d).symm, q1 _ walk_rc⟩)⟩
    · exact q1.elim
  · exact absurd rfl (hz' _)
  split at q1
  · rename_i xs es
    have q1 := q1.here h1
    have lst : ∀ l', lview st1 v = some l' → xs = l' → ∃ a, x = .ref a ∧ (((∃ xs, SqL X.K H1 a xs) ∧ Q (Itl X.K a) H1) ∨ ((∃ xs, SqT X.K H1 a xs) ∧ Q (Itt X.K a) H1) ∨ ∃ (lo hi d : Int) (n : Nat), H1 a = some (.ext (rngφ a lo hi d)) ∧ Builtin.Range.small lo hi d = true ∧ (n : Int) = Builtin.Range.rangeSize lo hi d ∧ Q (Itc lo d n) H1) := fun l' el z => by
      subst z
      obtain ⟨a, rfl, later⟩ := lview_later h1 rx el
      obtain ⟨a', vs, ea, p1, p2⟩ := h1.lview rx el
      cases ea
      exact ⟨a, rfl, .inl ⟨⟨vs, .of p1⟩, q1 _ (walk_list fun c' H' st' e' r' hg => by
        obtain ⟨vs, p1, p2⟩ := later c' H' st' e' r' hg
        exact ⟨vs, .of p1, p2⟩)⟩⟩
    cases rx with
    | @tup a vs _ h2 h3 =>
      cases es
      exact ⟨a, rfl, .inr (.inl ⟨⟨vs, tupT h1.sub h2⟩, q1 _ (walk_tup fun c' H' st' e' r' hg => ⟨vs, tupT (e'.F.trans r'.sub) h2, h3.mono0 e'⟩)⟩)⟩
    | @gtp a vs _ h2 h3 =>
      cases es
      exact ⟨a, rfl, .inr (.inl ⟨⟨vs, SqT.mono h1.sub h2⟩, q1 _ (walk_tup fun c' H' st' e' r' hg => ⟨vs, SqT.mono (e'.F.trans r'.sub) h2, h3.mono0 e'⟩)⟩)⟩
    | @scr a ns h2 =>
      cases es
      exact ⟨a, rfl, .inl ⟨⟨_, Same.seq h1.sub h2⟩, q1 _ (walk_list fun c' H' st' e' r' hg => ⟨_, Same.seq (e'.F.trans r'.sub) h2, Reps.ints _⟩)⟩⟩
    | lst h2 h3 => exact lst _ es rfl
    | ref h2 => exact lst _ es rfl
    | _ => cases es
  · exact q1.elim
noncomputable def zipF (A B : Env → Sto → R Val) : Env → Sto → R Its := fun l st => (A l st).bind fun x st => (B l st).bind fun y st => zipEv x y st
theorem guard_app {st : Sto} {g h : List (Nat × List Val)} (e : guardOk st (g ++ h)) : guardOk st g ∧ guardOk st h := ⟨fun p hp => e p (List.mem_append_left _ hp), fun p hp => e p (List.mem_append_right _ hp)⟩
theorem pi_zipG {p pos tpos : Pos} {elts : List Expr} {kk : Nat} {a b : Expr} {A B : Env → Sto → R Val} (hg : Gl X "zip") (hm : X.mg "zip" = none) (na : nst a = true) (nb : nst b = true) (ha : PE X a (tE X.K W A)) (hb : PE X b (tE X.K W B)) :
    PI X (.Tuple elts kk tpos) (.Call (.Name "zip" p) [a, b] [] pos) (tI X.K W (zipF A B)) := by
  have hpa := pa_consG na ha (pa_consG nb hb (pa_nilG (X := X) (W := W)))
  refine (pi_zipA hg hm hpa (nst_eq na) (stars_eq (by simp [nb]))).imp fun σ H Q ⟨cf, l, st, hH, hS, q⟩ => ?_
  refine ⟨cf, l, st, hH, hS, ?_⟩
  have q' : Run X.K W cf σ H (((A l st).bind fun x st => ((B l st).bind fun x st => (R.ok ([] : List Val) st).bind fun xs st => R.ok (x :: xs) st).bind fun xs st => R.ok (x :: xs) st).bind fun xs st => match xs with
    | [x, y] => zipEv x y st
    | _ => .stuck) (fun c' H' I _ => ∀ J, WalkOk X.K J I.1 I.2 c' H' → Q J H') := by
    have e : ∀ r : R Val, ∀ f : Val → Sto → R Its, (r.bind fun x st => ((B l st).bind fun x st => (R.ok ([] : List Val) st).bind fun xs st => R.ok (x :: xs) st).bind fun xs st => R.ok (x :: xs) st).bind (fun xs st => match xs with
    | [x, y] => zipEv x y st
    | _ => .stuck) = r.bind fun x st => (B l st).bind fun y st => zipEv x y st := fun r f => by
      cases r with
      | ok a st =>
        simp only [R.bind_ok]
        cases B l st <;> rfl
      | exn x st => rfl
      | stuck => rfl
    rw [e _ fun _ _ => .stuck]
    exact q
  refine q'.bind.mono fun c1 H1 vs st1 e1 h1 q1 xs rx => ?_
  split at q1
  · rename_i x y
    obtain ⟨u, w, rfl, ru, rw'⟩ := rx.two
    unfold zipEv at q1
    split at q1
    · rename_i m n
      have q1 := q1.here h1
      cases ru with
      | @tup p vs _ p1 p2 =>
      cases rw' with
      | @tup p' ws _ p3 p4 =>
      exact ⟨p, p', vs, ws, rfl, .inr ⟨tupT h1.sub p1, tupT h1.sub p3, q1 _ (walk_zipT fun c' H' st' e' r' _ => ⟨vs, ws, tupT (e'.F.trans r'.sub) p1, tupT (e'.F.trans r'.sub) p3, p2.mono0 e', p4.mono0 e'⟩)⟩⟩
    · split at q1
      · rename_i m n em en
        have q1 := q1.here h1
        obtain ⟨p, rfl, later⟩ := lview_later h1 ru em
        obtain ⟨p', rfl, later'⟩ := lview_later h1 rw' en
        obtain ⟨_, vs, ea, p1, p2⟩ := h1.lview ru em
        cases ea
        obtain ⟨_, ws, ea, p3, p4⟩ := h1.lview rw' en
        cases ea
        refine ⟨p, p', vs, ws, rfl, .inl ⟨.of p1, .of p3, q1 _ (walk_zipL fun c' H' st' e' r' hg => ?_)⟩⟩
        obtain ⟨g1, g2⟩ := guard_app hg
        obtain ⟨vs, p1, p2⟩ := later c' H' st' e' r' g1
        obtain ⟨ws, p3, p4⟩ := later' c' H' st' e' r' g2
        exact ⟨vs, ws, .of p1, .of p3, p2, p4⟩
      · exact q1.elim
  · exact q1.elim
noncomputable def enumF (A : Env → Sto → R Val) : Env → Sto → R Its := fun l st => (A l st).bind fun x st => enumEv x st
theorem pi_enumG {p pos tpos : Pos} {elts : List Expr} {kk : Nat} {a : Expr} {A : Env → Sto → R Val} (hg : Gl X "enumerate") (hm : X.mg "enumerate" = none) (na : nst a = true) (ha : PE X a (tE X.K W A)) :
    PI X (.Tuple elts kk tpos) (.Call (.Name "enumerate" p) [a] [] pos) (tI X.K W (enumF A)) := by
  have hpa := pa_consG na ha (pa_nilG (X := X) (W := W))
  refine (pi_enumA hg hm hpa (by rw [nst_eq na]; rfl)).imp fun σ H Q ⟨cf, l, st, hH, hS, q⟩ => ?_
  refine ⟨cf, l, st, hH, hS, ?_⟩
  have q' : Run X.K W cf σ H (((A l st).bind fun x st => (R.ok ([] : List Val) st).bind fun xs st => R.ok (x :: xs) st).bind fun xs st => match xs with
    | [x] => enumEv x st
    | _ => .stuck) (fun c' H' I _ => ∀ J, WalkOk X.K J I.1 I.2 c' H' → Q J H') := by
    have e : ∀ r : R Val, ((r.bind fun x st => (R.ok ([] : List Val) st).bind fun xs st => R.ok (x :: xs) st).bind fun xs st => match xs with
      | [x] => enumEv x st
      | _ => .stuck) = r.bind fun x st => enumEv x st := fun r => by cases r <;> rfl
    rw [e]
    exact q
  refine q'.bind.mono fun c1 H1 vs st1 e1 h1 q1 xs rx => ?_
  split at q1
  · rename_i x
    obtain ⟨u, rfl, ru⟩ := rx.one
    unfold enumEv at q1
    split at q1
    · rename_i m
      have q1 := q1.here h1
      cases ru with
      | @tup p vs _ p1 p2 =>
      exact ⟨p, vs, rfl, .inr ⟨tupT h1.sub p1, q1 _ (walk_enumT fun c' H' st' e' r' _ => ⟨vs, tupT (e'.F.trans r'.sub) p1, p2.mono0 e'⟩)⟩⟩
    · rename_i m
      have q1 := q1.here h1
      cases ru with
      | @gtp p vs _ p1 p2 =>
      exact ⟨p, vs, rfl, .inr ⟨SqT.mono h1.sub p1, q1 _ (walk_enumT fun c' H' st' e' r' _ => ⟨vs, SqT.mono (e'.F.trans r'.sub) p1, p2.mono0 e'⟩)⟩⟩
    · split at q1
      · rename_i m em
        have q1 := q1.here h1
        obtain ⟨p, rfl, later⟩ := lview_later h1 ru em
        obtain ⟨_, vs, ea, p1, p2⟩ := h1.lview ru em
        cases ea
        refine ⟨p, vs, rfl, .inl ⟨.of p1, q1 _ (walk_enumL fun c' H' st' e' r' hg => ?_)⟩⟩
        obtain ⟨vs, p1, p2⟩ := later c' H' st' e' r' hg
        exact ⟨vs, .of p1, p2⟩
      · exact q1.elim
  · exact q1.elim
noncomputable def rngF (A : Env → Sto → R (List Val)) : Env → Sto → R Its := fun l st => (A l st).bind fun xs st => rngEv xs st
theorem Reps.three {K : PySem.W.Frag} {c : Cf} {xs : List V} {a b d : Val} (h : Reps K c xs [a, b, d]) : ∃ x y z, xs = [x, y, z] ∧ Rep K c x a ∧ Rep K c y b ∧ Rep K c z d := by
  cases h with
  | cons r t =>
    obtain ⟨y, z, rfl, q1, q2⟩ := Reps.two t
    exact ⟨_, _, _, rfl, r, q1, q2⟩
theorem rng_cases {vs : List Val} {st : Sto} {σ : L2.St} {K : PySem.W.Frag} {cf : Cf} {H : Hp} {Q : Cf → Hp → Its → Sto → Prop} (h : RelH K cf H st) (q : Run K W cf σ H (rngEv vs st) Q) :
    (∃ j, vs = [.int j] ∧ inR j ∧ Q cf H (rngL 0 1 j.toNat, []) st) ∨ (∃ i j, vs = [.int i, .int j] ∧ inR i ∧ inR j ∧ Q cf H (rngL i 1 (j - i).toNat, []) st) ∨ (∃ i j d, vs = [.int i, .int j, .int d] ∧ rngC i j d ∧ Q cf H (rngL i d (Builtin.Range.rangeSize i j d).toNat, []) st) := by
  unfold rngEv at q
  split at q
  · split at q
    · rename_i j hj
      exact .inl ⟨j, rfl, hj, q.here h⟩
    · exact q.elim
  · split at q
    · rename_i i j hj
      exact .inr (.inl ⟨i, j, rfl, hj.1, hj.2, q.here h⟩)
    · exact q.elim
  · split at q
    · rename_i i j d hj
      exact .inr (.inr ⟨i, j, d, rfl, hj, q.here h⟩)
    · exact q.elim
  · exact q.elim
theorem Reps.len0 {K : PySem.W.Frag} {c : Cf} {xs : List V} {l : List Val} (h : Reps K c xs l) (n : Nat) (e : xs.length = n) : l.length = n := by rw [← h.length]; exact e
theorem pi_rngG {tg : Expr} {p pos : Pos} {es : List Expr} {A : Env → Sto → R (List Val)} (hg : Gl X "range") (hm : X.mg "range" = none) (hn : es.all nst = true) (h3 : es.length ≤ 3) (h0 : 0 < es.length) (ha : PA X es (tA X.K W A)) (hlen : ∀ l st vs st', A l st = .ok vs st' → vs.length = es.length) :
    PI X tg (.Call (.Name "range" p) es [] pos) (tI X.K W (rngF A)) := by
  have lenOf : ∀ {cf : Cf} {σ : L2.St} {H : Hp} {l : Env} {st : Sto} {Q : Cf → Hp → List Val → Sto → Prop}, Run X.K W cf σ H (A l st) Q → Run X.K W cf σ H (A l st) (fun c' H' vs st' => vs.length = es.length ∧ Q c' H' vs st') := fun {cf σ H l st Q} q => by
    cases e : A l st with
    | ok vs st' =>
      rw [e] at q
      exact fun c' H' e1 h1 => ⟨hlen _ _ _ _ e, q c' H' e1 h1⟩
    | exn x st' => rw [e] at q; exact q
    | stuck => rw [e] at q; exact q
  match es, hn, h3, h0, ha, hlen, @lenOf with
  | [a], hn, _, _, ha, hlen, lenOf =>
    have hs : starEach [a] X.env = [(false, eval a X.env)] := nst_eq (by simpa using hn)
    refine (pi_range1 hg hm ha hs).imp fun σ H Q ⟨cf, l, st, hH, hS, q⟩ => ?_
    refine ⟨cf, l, st, hH, hS, (lenOf q.bind).mono fun c1 H1 vs st1 e1 h1 q1 xs rx => ?_⟩
    obtain ⟨hl, q1⟩ := q1
    rcases rng_cases h1 q1 with ⟨j, rfl, hj, q1⟩ | ⟨i, j, rfl, _⟩ | ⟨i, j, d, rfl, _⟩
    · obtain ⟨x, rfl, r⟩ := rx.one
      cases r
      exact ⟨j, rfl, hj.1, hj.2, q1 _ walk_r1⟩
    · simp at hl
    · simp at hl
  | [a, b], hn, _, _, ha, hlen, lenOf =>
    have na : nst a = true := by simp at hn; exact hn.1
    have nb : nst b = true := by simp at hn; exact hn.2
    have hs : starEach [a, b] X.env = [(false, eval a X.env), (false, eval b X.env)] := by rw [nst_eq na, nst_eq nb]; rfl
    refine (pi_range2 hg hm ha hs (nst_eq nb)).imp fun σ H Q ⟨cf, l, st, hH, hS, q⟩ => ?_
    refine ⟨cf, l, st, hH, hS, (lenOf q.bind).mono fun c1 H1 vs st1 e1 h1 q1 xs rx => ?_⟩
    obtain ⟨hl, q1⟩ := q1
    rcases rng_cases h1 q1 with ⟨j, rfl, _⟩ | ⟨i, j, rfl, hi, hj, q1⟩ | ⟨i, j, d, rfl, _⟩
    · simp at hl
    · obtain ⟨x, y, rfl, r, r'⟩ := rx.two
      cases r
      cases r'
      exact ⟨i, j, rfl, ⟨hi.1, hi.2, hj.1, hj.2⟩, q1 _ walk_r1⟩
    · simp at hl
  | [a, b, d], hn, _, _, ha, hlen, lenOf =>
    have na : nst a = true := by simp at hn; exact hn.1
    refine (pi_range3 hg hm ha (nst_eq na) (stars_eq (by simp at hn ⊢; exact hn.2))).imp fun σ H Q ⟨cf, l, st, hH, hS, q⟩ => ?_
    refine ⟨cf, l, st, hH, hS, (lenOf q.bind).mono fun c1 H1 vs st1 e1 h1 q1 xs rx => ?_⟩
    obtain ⟨hl, q1⟩ := q1
    rcases rng_cases h1 q1 with ⟨j, rfl, _⟩ | ⟨i, j, rfl, _⟩ | ⟨i, j, d, rfl, hd, q1⟩
    · simp at hl
    · simp at hl
    · obtain ⟨x, y, z, rfl, r, r', r''⟩ := rx.three
      cases r
      cases r'
      cases r''
      exact ⟨i, j, d, _, rfl, ⟨hd.1, hd.2.1, hd.2.2, PyProof.Rows.rangeSize_toNat i j d⟩, q1 _ walk_rc⟩
end
end Pv

set_option Elab.async false
set_option linter.all false
set_option maxRecDepth 100000
set_option maxHeartbeats 4000000
namespace Pv
open PySem PySem.Spec PyProof.Rows L2
section
variable {k : Ck} {X : Cx} {W : WX} {c : Cn} {lv : Nat}
/-! ### targets -/
def setV : List Nat → List V → L2.St → L2.St
  | i :: is, v :: vs, σ => setV is vs (σ.set i (some v))
  | _, _, σ => σ
theorem nameB_ok {i : Nat} {e : Expr} (hN : X.N = k.N) (hsc : X.env.scope = k.sc) (hfn : X.fn = k.fn) (nd : k.N.Nodup) (h : nameB k i e = true) : PG X e (gName i) ∧ nst e = true ∧ ∃ x p, e = .Name x p := by
  cases e with
  | Name x p =>
    simp only [nameB, Bool.and_eq_true, Bool.or_eq_true, decide_eq_true_eq] at h
    obtain ⟨⟨h1, h2⟩, h3⟩ := h
    refine ⟨pg_name (by rw [hN]; exact nd) (by rw [hN]; exact h1) ?_ ?_, rfl, x, p, rfl⟩
    · simp only [locB, Bool.or_eq_true, decide_eq_true_eq] at h2
      rw [hsc]
      exact h2
    · rw [hfn, hsc]
      exact h3
  | _ => cases h
theorem namesB_ok (hN : X.N = k.N) (hsc : X.env.scope = k.sc) (hfn : X.fn = k.fn) (nd : k.N.Nodup) : ∀ {is : List Nat} {es : List Expr}, namesB k is es = true →
    PGs X es (fun vs σ H Q => vs.length = is.length ∧ Q (setV is vs σ) H) ∧ (assignEach es X.env).length = is.length ∧ (assignEach es X.env).findIdx? (·.1) = none
  | [], [], _ => ⟨⟨fun pins s σ H vs us Q I r ⟨h1, h2⟩ => pgs_nil.run pins s σ H vs us Q I r (by
      have e : vs = [] := by simpa using h1
      subst e
      exact ⟨rfl, h2⟩)⟩, rfl, rfl⟩
  | [], _ :: _, h => by cases h
  | _ :: _, [], h => by cases h
  | i :: is, e :: es, h => by
    simp only [namesB, Bool.and_eq_true] at h
    obtain ⟨h1, h2⟩ := h
    obtain ⟨p1, p2, x, p, rfl⟩ := nameB_ok hN hsc hfn nd h1
    obtain ⟨q1, q2, q3⟩ := namesB_ok hN hsc hfn nd h2
    refine ⟨⟨fun pins s σ H vs us Q I r ⟨h1, h2⟩ => (pgs_cons p1 q1 rfl).run pins s σ H vs us Q I r ?_⟩, ?_, ?_⟩
    · cases vs with
      | nil => simp at h1
      | cons v vs => exact ⟨v, vs, rfl, by simpa using h1, h2⟩
    · show (assignEach es X.env).length + 1 = _
      rw [q2]
      rfl
    · show List.findIdx? (·.1) ((false, assign (.Name x p) X.env) :: assignEach es X.env) = none
      rw [List.findIdx?_cons]
      simp [q3]
theorem setV_ok {K : PySem.W.Frag} {cf : Cf} : ∀ {is : List Nat} {xs : List V} {vs : List Val} {σ : L2.St} {l : Env}, Reps K cf xs vs → RelS K cf σ l → RelS K cf (setV is xs σ) (setAll is vs l)
  | [], _, _, _, _, _, h => by simpa [setV, setAll] using h
  | i :: is, _, _, σ, l, .nil, h => by simpa [setV, setAll] using h
  | i :: is, _, _, σ, l, .cons r t, h => setV_ok (is := is) t (h.set r)
/-- a target: what is set -/
def gTg (K : PySem.W.Frag) (tg : Tg) : TG := match tg with
  | .nm i => gName i
  | .tp is => fun v σ H Q => ∃ a xs, v = .ref a ∧ SqT K H a xs ∧ xs.length = is.length ∧ Q (setV is xs σ) H
  | .ls is => fun v σ H Q => ∃ a xs, v = .ref a ∧ SqL K H a xs ∧ xs.length = is.length ∧ Q (setV is xs σ) H
  | .tn i is => fun v σ H Q => ∃ a x b xs, v = .ref a ∧ SqT K H a [x, .ref b] ∧ SqT K H b xs ∧ xs.length = is.length ∧ Q (setV is xs (σ.set i (some x))) H
theorem mTg_ok {tg : Tg} {e : Expr} (hN : X.N = k.N) (hsc : X.env.scope = k.sc) (hfn : X.fn = k.fn) (hc : X.calm = true) (nd : k.N.Nodup) (h : mTg k tg e = true) : PG X e (gTg X.K tg) := by
  cases tg with
  | nm i => exact (nameB_ok hN hsc hfn nd h).1
  | tp is =>
    cases e with
    | Tuple es kk p =>
      obtain ⟨q1, q2, q3⟩ := namesB_ok hN hsc hfn nd (show namesB k is es = true from h)
      refine ⟨fun pins s σ H v u Q I r hw => (pg_tup hc q1 q2 q3).run pins s σ H v u Q I r ?_⟩
      obtain ⟨a, xs, e1, e2, e3, q⟩ := hw
      exact ⟨a, xs, e1, e2, e3, e3, q⟩
    | _ => cases h
  | ls is =>
    cases e with
    | Tuple es kk p =>
      obtain ⟨q1, q2, q3⟩ := namesB_ok hN hsc hfn nd (show namesB k is es = true from h)
      refine ⟨fun pins s σ H v u Q I r hw => (pg_lst hc q1 q2 q3).run pins s σ H v u Q I r ?_⟩
      obtain ⟨a, xs, e1, e2, e3, q⟩ := hw
      exact ⟨a, xs, e1, e2, e3, e3, q⟩
    | _ => cases h
  | tn i is =>
    have h' : ∃ x p es p1 p2 p3 p4, e = .Tuple [.Name x p, .Tuple es p1 p2] p3 p4 ∧ nameB k i (.Name x p) = true ∧ namesB k is es = true := by
      unfold mTg at h
      split at h
      · rename_i heq
        cases heq
      · rename_i heq
        cases heq
      · rename_i heq
        cases heq
      · rename_i heq
        cases heq
        rw [Bool.and_eq_true] at h
        obtain ⟨_, _, x, p, rfl⟩ := nameB_ok hN hsc hfn nd h.1
        exact ⟨x, p, _, _, _, _, _, rfl, h.1, h.2⟩
      · cases h
    obtain ⟨x, p, es, p1, p2, p3, p4, rfl, h1, h2⟩ := h'
    obtain ⟨a1, a2, _⟩ := nameB_ok hN hsc hfn nd h1
    obtain ⟨q1, q2, q3⟩ := namesB_ok hN hsc hfn nd h2
    have b1 : PG X (.Tuple es p1 p2) (gTup X.K is.length fun vs σ H Q => vs.length = is.length ∧ Q (setV is vs σ) H) := pg_tup hc q1 q2 q3
    refine ⟨fun pins s σ H v u Q I r hw => (pg_tup (n := 2) hc (pgs_cons a1 (pgs_cons b1 pgs_nil rfl) rfl) rfl rfl).run pins s σ H v u Q I r ?_⟩
    obtain ⟨a, x1, b, xs, e1, e2, e3, e4, q⟩ := hw
    exact ⟨a, [x1, .ref b], e1, e2, rfl, x1, [.ref b], rfl, .ref b, [], rfl, b, xs, rfl, e3, e4, e4, rfl, q⟩
/-- what the target sets is what the evaluator sets -/
theorem gTg_ok {K : PySem.W.Frag} {tg : Tg} {cf : Cf} {H : Hp} {st : Sto} {σ : L2.St} {l l1 : Env} {x : V} {v : Val} {Q : L2.St → Hp → Prop} (hH : RelH K cf H st) (hS : RelS K cf σ l) (r : Rep K cf x v) (e : tgSet tg v l = some l1)
    (q : ∀ σ', RelS K cf σ' l1 → (∀ vs, (∀ i ∈ tg.slots, i ∈ vs) → L2.wipe σ' vs = L2.wipe σ vs) → Q σ' H) : gTg K tg x σ H Q := by
  have w1 : ∀ (σ : L2.St) (i : Nat) (y : Option V) (vs : List Nat), i ∈ vs → L2.wipe (σ.set i y) vs = L2.wipe σ vs := by
    intro σ i y vs
    induction vs with
    | nil => intro m; cases m
    | cons u vs ih =>
      intro m
      show (L2.wipe (σ.set i y) vs).set u none = (L2.wipe σ vs).set u none
      by_cases hm : i ∈ vs
      · rw [ih hm]
      · have e : i = u := by
          rcases List.mem_cons.mp m with m | m
          · exact m
          · exact absurd m hm
        subst e
        have comm : ∀ vs : List Nat, i ∉ vs → L2.wipe (σ.set i y) vs = (L2.wipe σ vs).set i y := by
          intro vs
          induction vs with
          | nil => intro _; rfl
          | cons a r ih2 =>
            intro hn
            show (L2.wipe (σ.set i y) r).set a none = ((L2.wipe σ r).set a none).set i y
            rw [ih2 fun z => hn (List.mem_cons_of_mem _ z), List.set_comm _ _ (fun z : i = a => hn (by rw [z]; exact List.mem_cons_self))]
        rw [comm vs hm, List.set_set]
  have go : ∀ (ws js : List Nat) (us : List V) (σ : L2.St), (∀ i ∈ js, i ∈ ws) → L2.wipe (setV js us σ) ws = L2.wipe σ ws := by
    intro ws js
    induction js with
    | nil => intro us σ _; cases us <;> rfl
    | cons j js ih =>
      intro us σ hj
      cases us with
      | nil => rfl
      | cons u us =>
        show L2.wipe (setV js us (σ.set j (some u))) ws = _
        rw [ih us _ fun i hi => hj i (List.mem_cons_of_mem _ hi), w1 σ j _ ws (hj j List.mem_cons_self)]
  cases tg with
  | nm i =>
    cases e
    exact q _ (hS.set r) fun vs hv => w1 σ i _ vs (hv i (List.mem_singleton.mpr rfl))
  | tp is =>
    cases r with
    | @tup a vs l' h1 h2 =>
      have e' : (if is.length = l'.length then some (setAll is l' l) else none) = some l1 := e
      split at e'
      · rename_i hl
        cases e'
        refine ⟨a, vs, rfl, tupT hH.sub h1, by rw [h2.length, hl], q _ (setV_ok h2 hS) fun ws hw => ?_⟩
        exact go ws is vs σ hw
      · cases e'
    | _ => cases e
  | ls is =>
    cases r with
    | @lst a vs l' h1 h2 =>
      have e' : (if is.length = l'.length then some (setAll is l' l) else none) = some l1 := e
      split at e'
      · rename_i hl
        cases e'
        exact ⟨a, vs, rfl, .inl (.inl (hH.sub _ _ h1)), by rw [h2.length, hl], q _ (setV_ok h2 hS) fun ws hw => go ws is vs σ hw⟩
      · cases e'
    | _ => cases e
  | tn i is =>
    cases r with
    | @tup a vs l' h1 h2 =>
      match l', h2, e with
      | [w, .tup us], .cons r1 (.cons (.tup (a := b) (vs := ws') h3 h4) .nil), e =>
        have e' : (if is.length = us.length then some (setAll is us (l.set i (some w))) else none) = some l1 := e
        split at e'
        · rename_i hl
          cases e'
          refine ⟨a, _, b, ws', rfl, tupT hH.sub h1, tupT hH.sub h3, by rw [h4.length, hl], q _ (setV_ok h4 (hS.set r1)) fun ws hw => ?_⟩
          rw [go ws is ws' _ fun j hj => hw j (List.mem_cons_of_mem _ hj), w1 σ i _ ws (hw i List.mem_cons_self)]
        · cases e'
    | _ => cases e
theorem wipe_wipe (σ : L2.St) : ∀ vs : List Nat, L2.wipe (L2.wipe σ vs) vs = L2.wipe σ vs := by
  intro vs
  apply List.ext_getElem?
  intro j
  have key : ∀ (vs : List Nat) (σ : L2.St), (L2.wipe σ vs)[j]? = if j ∈ vs ∧ j < σ.length then some none else σ[j]? := by
    intro vs
    induction vs with
    | nil => intro σ; simp [L2.wipe]
    | cons u vs ih =>
      intro σ
      show ((L2.wipe σ vs).set u none)[j]? = _
      rw [List.getElem?_set, wipe_length, ih]
      by_cases hu : u = j
      · subst hu
        by_cases hl : u < σ.length
        · simp [hl]
        · simp [hl]
      · have hu' : ¬ j = u := fun z => hu z.symm
        simp [hu, hu']
  rw [key, key, wipe_length]
  by_cases h : j ∈ vs ∧ j < σ.length
  · rw [if_pos h, if_pos h]
  · rw [if_neg h]
/-! ### a comprehension -/
abbrev W0 : WX := fun _ _ _ _ => False
theorem RelH.side {K : PySem.W.Frag} {cf : Cf} {H : Hp} {st : Sto} (h : RelH K cf H st) {D : Addr} {o : HO} (nF : cf.F D = none) (nφ : D ∉ cf.φ) : RelH K cf (upd H D o) st := by
  refine ⟨fun a u q => ?_, h.len, h.nd, fun a m => ?_, fun n l q lv => ?_⟩
  · have na : a ≠ D := fun z => by rw [z, nF] at q; cases q
    rw [upd_ne na]
    exact h.sub a u q
  · have na : a ≠ D := fun z => nφ (z ▸ m)
    obtain ⟨u, q⟩ := h.all a m
    exact ⟨u, by rw [upd_ne na]; exact q⟩
  · obtain ⟨a, vs, q1, q2, q3, q4⟩ := h.obo n l q lv
    have na : a ≠ D := fun z => nφ (z ▸ List.mem_of_getElem? q1)
    exact ⟨a, vs, q1, q2, by rw [upd_ne na]; exact q3, q4⟩
theorem Ext.side {cf c' : Cf} {H H' : Hp} (e : Ext cf H c' H') {D : Addr} {o : HO} (n : H D = none) : Ext cf H c' (upd H' D o) := ⟨e.F, e.φ, fun a u q na => by
  obtain ⟨h1, h2⟩ := e.fr a u q na
  exact ⟨by rw [upd_ne (ne_of_none q n)]; exact h1, h2⟩, e.nf⟩
noncomputable def lcEv (I : Env → Sto → R Its) (B : Env → Val → Sto → R (Option Val)) (m : Bool) : Env → Sto → R Val := fun l st => (I l st).bind fun J st => (lcL (B l) J.2 J.1 [] st).bind fun xs st => newL m xs st
/-- the body of a comprehension, for a target, tests and an element -/
def lcB (tg : Tg) (F : Env → Sto → R Bool) (A : Env → Sto → R Val) : Env → Val → Sto → R (Option Val) := fun l v st => match tgSet tg v (wipeE l tg.slots) with
        | none => .stuck
        | some l1 => (F l1 st).bind fun b st => match b with
          | true => (A l1 st).bind fun x st => .ok (some x) st
          | false => .ok none st
def tF (K : PySem.W.Frag) (f : Env → Sto → R Bool) : TT := fun σ H Q => ∃ c l st, RelH K c H st ∧ RelS K c σ l ∧ Run K W0 c σ H (f l st) (fun c' H' v _ => Q v H')
theorem run_w0 {α : Type} {K : PySem.W.Frag} {W : WX} {cf : Cf} {σ σ' : L2.St} {H : Hp} {a : α} {st : Sto} {Q : Cf → Hp → α → Sto → Prop} (q : Run K W cf σ H (R.ok a st) Q) : Run K W0 cf σ' H (R.ok a st) Q := q
theorem pe_lcG {elt tgE iter : Expr} {ifs : List Expr} {scope : Scope} {pos : Pos} {tg : Tg} {I : Env → Sto → R Its} {F : Env → Sto → R Bool} {A : Env → Sto → R Val} {m : Bool} (hc : X.calm = true) (hN : X.N.Nodup) (hi : PI X tgE iter (tI X.K W I)) (ok : BlkOk X.N X.env.scope scope (ownOf X.N tg.slots))
    (hg : ∀ (s : Shared) (H : Hp) (C : Addr) (cl : List (Str × Addr)) (fp : List Addr), PG (X.blk s H scope (compEnvC scope cl C X.env) fp) tgE (gTg X.K tg)) (ht : ∀ (s : Shared) (H : Hp) (C : Addr) (cl : List (Str × Addr)) (fp : List Addr), PTs (X.blk s H scope (compEnvC scope cl C X.env) fp) ifs (tF X.K F))
    (he : ∀ (s : Shared) (H : Hp) (C : Addr) (cl : List (Str × Addr)) (fp : List Addr), PE (X.blk s H scope (compEnvC scope cl C X.env) fp) elt (tE X.K W0 A)) (hs : notSet iter = true)
    (J : TE → Prop) (fin : ∀ t, J t → ∀ (t' : TE), (∀ σ H Q, t' σ H Q → t σ H Q) → J t') (start : J (tLc (tI X.K W I) (gTg X.K tg) (tF X.K F) (tE X.K W0 A) ((ownOf X.N tg.slots).map (·.2)))) :
    J (tE X.K W (lcEv I (lcB tg F A) m)) := by
  refine fin _ start _ fun σ H Q ⟨cf, l, st, hH, hS, q⟩ => ?_
  refine ⟨cf, l, st, hH, hS, q.bind.mono fun c1 H1 P st1 e1 h1 q1 It hW => ?_⟩
  intro D hD
  have own : (ownOf X.N tg.slots).map (·.2) = tg.slots := by
    unfold ownOf
    rw [List.map_map]
    show tg.slots.map id = _
    exact List.map_id _
  rw [own]
  obtain ⟨nF1, nφ1⟩ := h1.fresh hD
  -- the invariant
  refine ⟨fun i mm H' => mm = P.1.length - i ∧ i ≤ P.1.length ∧ ∃ c2 st2 acc vs, Ext c1 H1 c2 H' ∧ RelH X.K c2 H' st2 ∧ c2.F D = none ∧ D ∉ c2.φ ∧ H' D = some (.lst vs) ∧ Reps X.K c2 vs acc ∧
      Run X.K W c1 σ H1 ((lcL (lcB tg F A l) P.2 (P.1.drop i) acc st2).bind fun xs st => newL m xs st) (fun c' H' v _ => ∀ x, Rep X.K c' x v → Q x H'), ⟨P.1.length, by simp, Nat.zero_le _, c1, st1, [], [], Ext.refl.side hD, h1.side nF1 nφ1, nF1, nφ1, upd_same, .nil, by rw [List.drop_zero]; exact q1⟩, ?_⟩
  rintro i mm H2 ⟨rfl, hi, c2, st2, acc, vs, e2, h2, nF2, nφ2, hD2, rv, q2⟩
  by_cases hlt : i < P.1.length
  · obtain ⟨v, ev⟩ := get_some hlt
    have ed : P.1.drop i = v :: P.1.drop (i + 1) := by
      rw [List.drop_eq_getElem_cons hlt]
      rw [List.getElem?_eq_getElem hlt] at ev
      rw [Option.some.inj ev]
    rw [ed] at q2
    by_cases hgd : guardOk st2 P.2
    · rw [lcL, if_pos hgd] at q2
      obtain ⟨_, wk⟩ := hW c2 H2 st2 e2.to0 h2 hgd
      obtain ⟨go, yl⟩ := wk i hlt
      refine .inr ⟨go, fun H' => ∃ c2 st2 acc vs, Ext c1 H1 c2 H' ∧ RelH X.K c2 H' st2 ∧ c2.F D = none ∧ D ∉ c2.φ ∧ H' D = some (.lst vs) ∧ Reps X.K c2 vs acc ∧
        Run X.K W c1 σ H1 ((lcL (lcB tg F A l) P.2 (P.1.drop (i + 1)) acc st2).bind fun xs st => newL m xs st) (fun c' H' v _ => ∀ x, Rep X.K c' x v → Q x H'), fun H' hx => ⟨P.1.length - (i + 1), by omega, rfl, hlt, hx⟩, fun x H3 hy => ?_⟩
      obtain ⟨c3, v', e3, h3, ev', r3⟩ := yl x H3 hy
      have z : v' = v := Option.some.inj (ev'.symm.trans ev)
      subst z
      obtain ⟨hD3, nφ3⟩ := e3.fr D _ hD2 nφ2
      have nF3 := e3.nf D _ hD2 nφ2 nF2
      -- the target
      have hS3 : RelS X.K c3 (L2.wipe σ tg.slots) (wipeE l tg.slots) := (((hS.mono e1).mono e2).mono e3).wipe _
      have eB : lcB tg F A l v' st2 = match tgSet tg v' (wipeE l tg.slots) with
        | none => .stuck
        | some l1 => (F l1 st2).bind fun b st => match b with
          | true => (A l1 st).bind fun x st => .ok (some x) st
          | false => .ok none st := rfl
      cases et : tgSet tg v' (wipeE l tg.slots) with
      | none =>
        rw [eB, et] at q2
        exact q2.elim
      | some l1 =>
        refine gTg_ok h3 hS3 r3 et fun σ' hS' hw => ⟨by rw [hw tg.slots fun i hi => hi, wipe_wipe], ?_⟩
        -- tests
        cases eF : F l1 st2 with
        | stuck => rw [eB, et] at q2; simp only [eF, R.bind_stuck] at q2; exact q2.elim
        | exn x' st' => rw [eB, et] at q2; simp only [eF, R.bind_exn, R.bind_stuck] at q2; exact q2.elim
        | ok b st4 =>
          refine ⟨c3, l1, st2, h3, hS', ?_⟩
          rw [eF]
          intro c4 H4 e4 h4
          obtain ⟨hD4, nφ4⟩ := e4.fr D _ hD3 nφ3
          have nF4 := e4.nf D _ hD3 nφ3 nF3
          cases b with
          | false =>
            refine iteF ?_
            rw [eB, et] at q2
            simp only [eF, R.bind_ok] at q2
            exact ⟨c4, st4, acc, vs, (e2.trans e3).trans e4, h4, nF4, nφ4, hD4, (rv.mono e3).mono e4, q2⟩
          | true =>
            refine iteT ?_
            cases eA : A l1 st4 with
            | stuck => rw [eB, et] at q2; simp only [eF, R.bind_ok, eA, R.bind_stuck] at q2; exact q2.elim
            | exn x' st' => rw [eB, et] at q2; simp only [eF, R.bind_ok, eA, R.bind_exn, R.bind_stuck] at q2; exact q2.elim
            | ok y st5 =>
              rw [eB, et] at q2
              simp only [eF, R.bind_ok, eA] at q2
              refine ⟨c4, l1, st4, h4, hS'.mono e4, ?_⟩
              rw [eA]
              intro c5 H5 e5 h5 y' ry
              obtain ⟨hD5, nφ5⟩ := e5.fr D _ hD4 nφ4
              have nF5 := e5.nf D _ hD4 nφ4 nF4
              have rv5 := ((rv.mono e3).mono e4).mono e5
              by_cases hz : acc.length < sizeLine
              · rw [if_pos hz] at q2
                refine ⟨vs, hD5, by rw [rv5.length]; exact hz, c5, st5, acc ++ [y], vs ++ [y'], (((e2.trans e3).trans e4).trans e5).side hD, h5.side nF5 nφ5, nF5, nφ5, upd_same, rv5.snoc ry, q2⟩
              · rw [if_neg hz] at q2
                exact q2.elim
    · rw [lcL, if_neg hgd] at q2
      exact q2.elim
  · have e : i = P.1.length := by omega
    subst e
    rw [List.drop_length] at q2
    by_cases hgd : guardOk st2 P.2
    · rw [lcL, if_pos hgd, R.bind_ok] at q2
      obtain ⟨stop, _⟩ := hW c2 H2 st2 e2.to0 h2 hgd
      refine .inl ⟨stop _ (Nat.le_refl _), ?_⟩
      cases m with
      | false =>
        have e3 : Ext c1 H1 ⟨upd c2.F D (.lst vs), c2.φ⟩ H2 := ⟨e2.F.trans (same_up nF2), e2.φ, e2.fr, fun a u z na zF => by
          show upd c2.F D (.lst vs) a = none
          rw [upd_ne (ne_of_none z hD)]
          exact e2.nf a u z na zF⟩
        refine q2 _ _ e3 ⟨fun a u z => ?_, h2.len, h2.nd, h2.all, fun n l' z lv => ?_⟩ _ (.lst (by exact upd_same) (Reps.mono' (c := c2) (c' := ⟨upd c2.F D (.lst vs), c2.φ⟩) (same_up nF2) (List.prefix_refl _) rv))
        · have z : upd c2.F D (.lst vs) a = some u := z
          by_cases ha : a = D
          · subst ha
            rw [upd_same] at z
            cases z
            exact hD2
          · rw [upd_ne ha] at z
            exact h2.sub a u z
        · obtain ⟨a, us, z1, z2, z3, z4⟩ := h2.obo n l' z lv
          have na : a ≠ D := fun y => nφ2 (y ▸ List.mem_of_getElem? z1)
          exact ⟨a, us, z1, by show upd c2.F D (.lst vs) a = none; rw [upd_ne na]; exact z2, z3, ObS.mono' (c := c2) (c' := ⟨upd c2.F D (.lst vs), c2.φ⟩) (same_up nF2) (List.prefix_refl _) z4⟩
      | true =>
        -- the new list is of the store: as if it had been laid now
        have pre : c2.φ <+: (⟨c2.F, c2.φ ++ [D]⟩ : Cf).φ := List.prefix_append _ _
        have ef : Reps X.K ⟨c2.F, c2.φ ++ [D]⟩ vs acc := Reps.mono' (c := c2) (c' := ⟨c2.F, c2.φ ++ [D]⟩) (Same.refl _) pre rv
        have er : RelH X.K ⟨c2.F, c2.φ ++ [D]⟩ H2 (st2 ++ [.lst acc]) := by
          refine ⟨h2.sub, by show (c2.φ ++ [D]).length = _; rw [List.length_append, List.length_append, h2.len]; rfl, ?_, fun a mm => ?_, fun n w z lv => ?_⟩
          · show (c2.φ ++ [D]).Nodup
            rw [List.nodup_append]
            exact ⟨h2.nd, by simp, fun a ha b hb z => by
              have e : b = D := by simpa using hb
              rw [z, e] at ha
              exact nφ2 ha⟩
          · rcases List.mem_append.mp mm with mm | mm
            · exact h2.all a mm
            · have z : a = D := by simpa using mm
              exact ⟨_, by rw [z]; exact hD2⟩
          · by_cases hk : n < st2.length
            · rw [List.getElem?_append_left hk] at z
              obtain ⟨a, us, z1, z2, z3, z4⟩ := h2.obo n w z lv
              exact ⟨a, us, prefix_get pre z1, z2, z3, ObS.mono' (c := c2) (c' := ⟨c2.F, c2.φ ++ [D]⟩) (Same.refl _) pre z4⟩
            · rw [List.getElem?_append_right (by omega)] at z
              have e0 : n - st2.length = 0 := by
                have := (List.getElem?_eq_some_iff.mp z).1
                simp at this
                omega
              rw [e0] at z
              have e1 : Ob.lst acc = w := by
                simp at z
                exact z
              subst e1
              have ek : n = c2.φ.length := by rw [h2.len]; omega
              exact ⟨D, .lst vs, by show (c2.φ ++ [D])[n]? = some D; rw [ek]; simp, nF2, hD2, ef⟩
        have e3 : Ext c1 H1 ⟨c2.F, c2.φ ++ [D]⟩ H2 := ⟨e2.F, e2.φ.trans (List.prefix_append _ _), fun a u z na => by
          obtain ⟨z1, z2⟩ := e2.fr a u z na
          refine ⟨z1, fun mm => ?_⟩
          rcases List.mem_append.mp mm with mm | mm
          · exact z2 mm
          · have y : a = D := by simpa using mm
            rw [y, hD] at z
            exact absurd z (by simp), e2.nf⟩
        exact q2 _ _ e3 er _ (.ref (by show (c2.φ ++ [D])[st2.length]? = some D; rw [← h2.len]; simp))
    · rw [lcL, if_neg hgd] at q2
      exact q2.elim
/-! .. of two clauses -/
theorem lc_end {K : PySem.W.Frag} {W : WX} {σ : L2.St} {c1 c2 : Cf} {H1 H2 : Hp} {D : Addr} {st2 : Sto} {acc : List Val} {vs : List V} {m : Bool} {Q : VK} (hD : H1 D = none) (e2 : Ext c1 H1 c2 H2) (h2 : RelH K c2 H2 st2) (nF2 : c2.F D = none) (nφ2 : D ∉ c2.φ) (hD2 : H2 D = some (.lst vs)) (rv : Reps K c2 vs acc)
    (q2 : Run K W c1 σ H1 (newL m acc st2) (fun c' H' v _ => ∀ x, Rep K c' x v → Q x H')) : Q (.ref D) H2 := by
  cases m with
  | false =>
    have e3 : Ext c1 H1 ⟨upd c2.F D (.lst vs), c2.φ⟩ H2 := ⟨e2.F.trans (same_up nF2), e2.φ, e2.fr, fun a u z na zF => by
      show upd c2.F D (.lst vs) a = none
      rw [upd_ne (ne_of_none z hD)]
      exact e2.nf a u z na zF⟩
    refine q2 _ _ e3 ⟨fun a u z => ?_, h2.len, h2.nd, h2.all, fun n l' z lv => ?_⟩ _ (.lst (by exact upd_same) (Reps.mono' (c := c2) (c' := ⟨upd c2.F D (.lst vs), c2.φ⟩) (same_up nF2) (List.prefix_refl _) rv))
    · have z : upd c2.F D (.lst vs) a = some u := z
      by_cases ha : a = D
      · subst ha
        rw [upd_same] at z
        cases z
        exact hD2
      · rw [upd_ne ha] at z
        exact h2.sub a u z
    · obtain ⟨a, us, z1, z2, z3, z4⟩ := h2.obo n l' z lv
      have na : a ≠ D := fun y => nφ2 (y ▸ List.mem_of_getElem? z1)
      exact ⟨a, us, z1, by show upd c2.F D (.lst vs) a = none; rw [upd_ne na]; exact z2, z3, ObS.mono' (c := c2) (c' := ⟨upd c2.F D (.lst vs), c2.φ⟩) (same_up nF2) (List.prefix_refl _) z4⟩
  | true =>
    have pre : c2.φ <+: (⟨c2.F, c2.φ ++ [D]⟩ : Cf).φ := List.prefix_append _ _
    have ef : Reps K ⟨c2.F, c2.φ ++ [D]⟩ vs acc := Reps.mono' (c := c2) (c' := ⟨c2.F, c2.φ ++ [D]⟩) (Same.refl _) pre rv
    have er : RelH K ⟨c2.F, c2.φ ++ [D]⟩ H2 (st2 ++ [.lst acc]) := by
      refine ⟨h2.sub, by show (c2.φ ++ [D]).length = _; rw [List.length_append, List.length_append, h2.len]; rfl, ?_, fun a mm => ?_, fun n w z lv => ?_⟩
      · show (c2.φ ++ [D]).Nodup
        rw [List.nodup_append]
        exact ⟨h2.nd, by simp, fun a ha b hb z => by
          have e : b = D := by simpa using hb
          rw [z, e] at ha
          exact nφ2 ha⟩
      · rcases List.mem_append.mp mm with mm | mm
        · exact h2.all a mm
        · have z : a = D := by simpa using mm
          exact ⟨_, by rw [z]; exact hD2⟩
      · by_cases hk : n < st2.length
        · rw [List.getElem?_append_left hk] at z
          obtain ⟨a, us, z1, z2, z3, z4⟩ := h2.obo n w z lv
          exact ⟨a, us, prefix_get pre z1, z2, z3, ObS.mono' (c := c2) (c' := ⟨c2.F, c2.φ ++ [D]⟩) (Same.refl _) pre z4⟩
        · rw [List.getElem?_append_right (by omega)] at z
          have e0 : n - st2.length = 0 := by
            have := (List.getElem?_eq_some_iff.mp z).1
            simp at this
            omega
          rw [e0] at z
          have e1 : Ob.lst acc = w := by
            simp at z
            exact z
          subst e1
          have ek : n = c2.φ.length := by rw [h2.len]; omega
          exact ⟨D, .lst vs, by show (c2.φ ++ [D])[n]? = some D; rw [ek]; simp, nF2, hD2, ef⟩
    have e3 : Ext c1 H1 ⟨c2.F, c2.φ ++ [D]⟩ H2 := ⟨e2.F, e2.φ.trans (List.prefix_append _ _), fun a u z na => by
      obtain ⟨z1, z2⟩ := e2.fr a u z na
      refine ⟨z1, fun mm => ?_⟩
      rcases List.mem_append.mp mm with mm | mm
      · exact z2 mm
      · have y : a = D := by simpa using mm
        rw [y, hD] at z
        exact absurd z (by simp), e2.nf⟩
    exact q2 _ _ e3 er _ (.ref (by show (c2.φ ++ [D])[st2.length]? = some D; rw [← h2.len]; simp))
theorem RelS.mono0 {K : PySem.W.Frag} {c c' : Cf} {σ : L2.St} {l : Env} (h : RelS K c σ l) (e : Ex0 c c') : RelS K c' σ l := ⟨h.1, fun i v q => by
  obtain ⟨x, q1, q2⟩ := h.2 i v q
  exact ⟨x, q1, q2.mono' e.F e.φ⟩⟩
theorem Ex0.trans {a b d : Cf} (x : Ex0 a b) (y : Ex0 b d) : Ex0 a d := ⟨x.F.trans y.F, x.φ.trans y.φ⟩
noncomputable def lc2B (tg1 : Tg) (A : Env → Sto → R Val) : Env → Val → Sto → R (Option Val) := fun l1 v st => match tgSet tg1 v (wipeE l1 tg1.slots) with
  | none => .stuck
  | some l2 => (A l2 st).bind fun x st => .ok (some x) st
noncomputable def lc2I (tg tg1 : Tg) (I1 : Env → Sto → R Its) (A : Env → Sto → R Val) : Env → Val → List Val → Sto → R (List Val) := fun l v acc st => match tgSet tg v (wipeE l (tg.slots ++ tg1.slots)) with
  | none => .stuck
  | some l1 => match I1 l1 st with
    | .ok J1 st => lcL (lc2B tg1 A l1) J1.2 J1.1 acc st
    | _ => .stuck
noncomputable def lc2Ev (I I1 : Env → Sto → R Its) (A : Env → Sto → R Val) (tg tg1 : Tg) (m : Bool) : Env → Sto → R Val := fun l st => (I l st).bind fun J st => (lcO (lc2I tg tg1 I1 A l) J.2 J.1 [] st).bind fun xs st => newL m xs st
theorem pe_lc2G {elt tgE iter tgE1 iter1 : Expr} {scope : Scope} {pos : Pos} {tg tg1 : Tg} {I I1 : Env → Sto → R Its} {A : Env → Sto → R Val} {m : Bool} {tt : TT} (htt : ∀ σ H Q, Q true H → tt σ H Q)
    (start : PE X (.ListComp elt [⟨tgE, iter, [], 0⟩, ⟨tgE1, iter1, [], 0⟩] scope pos) (tLc2 (tI X.K W I) (gTg X.K tg) tt (tI X.K W0 I1) (gTg X.K tg1) tt (tE X.K W0 A) ((ownOf X.N (tg.slots ++ tg1.slots)).map (·.2)) tg1.slots)) :
    PE X (.ListComp elt [⟨tgE, iter, [], 0⟩, ⟨tgE1, iter1, [], 0⟩] scope pos) (tE X.K W (lc2Ev I I1 A tg tg1 m)) := by
  refine start.imp fun σ H Q ⟨cf, l, st, hH, hS, q⟩ => ?_
  refine ⟨cf, l, st, hH, hS, q.bind.mono fun c1 H1 P st1 e1 h1 q1 It hW => ?_⟩
  intro D hD
  have own : (ownOf X.N (tg.slots ++ tg1.slots)).map (·.2) = tg.slots ++ tg1.slots := by
    unfold ownOf
    rw [List.map_map]
    show (tg.slots ++ tg1.slots).map id = _
    exact List.map_id _
  rw [own]
  obtain ⟨nF1, nφ1⟩ := h1.fresh hD
  refine ⟨fun i mm H' => mm = P.1.length - i ∧ i ≤ P.1.length ∧ ∃ c2 st2 acc vs, Ext c1 H1 c2 H' ∧ RelH X.K c2 H' st2 ∧ c2.F D = none ∧ D ∉ c2.φ ∧ H' D = some (.lst vs) ∧ Reps X.K c2 vs acc ∧
      Run X.K W c1 σ H1 ((lcO (lc2I tg tg1 I1 A l) P.2 (P.1.drop i) acc st2).bind fun xs st => newL m xs st) (fun c' H' v _ => ∀ x, Rep X.K c' x v → Q x H'), ⟨P.1.length, by simp, Nat.zero_le _, c1, st1, [], [], Ext.refl.side hD, h1.side nF1 nφ1, nF1, nφ1, upd_same, .nil, by rw [List.drop_zero]; exact q1⟩, ?_⟩
  rintro i mm H2 ⟨rfl, hi, c2, st2, acc, vs, e2, h2, nF2, nφ2, hD2, rv, q2⟩
  by_cases hlt : i < P.1.length
  · obtain ⟨v, ev⟩ := get_some hlt
    have ed : P.1.drop i = v :: P.1.drop (i + 1) := by
      rw [List.drop_eq_getElem_cons hlt]
      rw [List.getElem?_eq_getElem hlt] at ev
      rw [Option.some.inj ev]
    rw [ed] at q2
    by_cases hgd : guardOk st2 P.2
    · rw [lcO, if_pos hgd] at q2
      obtain ⟨_, wk⟩ := hW c2 H2 st2 e2.to0 h2 hgd
      obtain ⟨go, yl⟩ := wk i hlt
      refine .inr ⟨go, fun H' => ∃ c2 st2 acc vs, Ext c1 H1 c2 H' ∧ RelH X.K c2 H' st2 ∧ c2.F D = none ∧ D ∉ c2.φ ∧ H' D = some (.lst vs) ∧ Reps X.K c2 vs acc ∧
        Run X.K W c1 σ H1 ((lcO (lc2I tg tg1 I1 A l) P.2 (P.1.drop (i + 1)) acc st2).bind fun xs st => newL m xs st) (fun c' H' v _ => ∀ x, Rep X.K c' x v → Q x H'), fun H' hx => ⟨P.1.length - (i + 1), by omega, rfl, hlt, hx⟩, fun x H3 hy => ?_⟩
      obtain ⟨c3, v', e3, h3, ev', r3⟩ := yl x H3 hy
      have z : v' = v := Option.some.inj (ev'.symm.trans ev)
      subst z
      obtain ⟨hD3, nφ3⟩ := e3.fr D _ hD2 nφ2
      have nF3 := e3.nf D _ hD2 nφ2 nF2
      have hS3 : RelS X.K c3 (L2.wipe σ (tg.slots ++ tg1.slots)) (wipeE l (tg.slots ++ tg1.slots)) := (((hS.mono e1).mono e2).mono e3).wipe _
      cases et : tgSet tg v' (wipeE l (tg.slots ++ tg1.slots)) with
      | none =>
        unfold lc2I at q2
        rw [et] at q2
        exact q2.elim
      | some l1 =>
        refine gTg_ok h3 hS3 r3 et fun σ' hS' hw => ⟨by rw [hw (tg.slots ++ tg1.slots) fun i hi => List.mem_append_left _ hi, wipe_wipe], htt _ _ _ (iteT ?_)⟩
        have q2' : Run X.K W c1 σ H1 ((match (match I1 l1 st2 with
            | .ok J1 st => lcL (lc2B tg1 A l1) J1.2 J1.1 acc st
            | _ => .stuck) with
          | .ok acc st => lcO (lc2I tg tg1 I1 A l) P.2 (P.1.drop (i + 1)) acc st
          | _ => .stuck).bind fun xs st => newL m xs st) (fun c' H' v _ => ∀ x, Rep X.K c' x v → Q x H') := by
          have el : lc2I tg tg1 I1 A l v' acc st2 = (match I1 l1 st2 with
            | .ok J1 st => lcL (lc2B tg1 A l1) J1.2 J1.1 acc st
            | _ => .stuck) := by
            unfold lc2I
            rw [et]
          rw [el] at q2
          exact q2
        clear q2
        cases eI : I1 l1 st2 with
        | stuck => rw [eI] at q2'; exact q2'.elim
        | exn x' st' => rw [eI] at q2'; exact q2'.elim
        | ok J1 st4 =>
          rw [eI] at q2'
          simp only at q2'
          refine ⟨c3, l1, st2, h3, hS', ?_⟩
          rw [eI]
          intro c4 H4 e4 h4 J1' hW1
          obtain ⟨hD4, nφ4⟩ := e4.fr D _ hD3 nφ3
          have nF4 := e4.nf D _ hD3 nφ3 nF3
          have q4 : Run X.K W c1 σ H1 (((lcL (lc2B tg1 A l1) J1.2 J1.1 acc st4).bind fun acc st => lcO (lc2I tg tg1 I1 A l) P.2 (P.1.drop (i + 1)) acc st).bind fun xs st => newL m xs st) (fun c' H' v _ => ∀ x, Rep X.K c' x v → Q x H') := by
            cases eL : lcL (lc2B tg1 A l1) J1.2 J1.1 acc st4 with
            | ok a st5 => rw [eL] at q2'; exact q2'
            | exn x' st5 => rw [eL] at q2'; exact q2'.elim
            | stuck => rw [eL] at q2'; exact q2'.elim
          refine ⟨fun j kk H' => kk = J1.1.length - j ∧ j ≤ J1.1.length ∧ ∃ c5 st5 acc5 vs5, Ext c1 H1 c5 H' ∧ Ex0 c4 c5 ∧ RelH X.K c5 H' st5 ∧ c5.F D = none ∧ D ∉ c5.φ ∧ H' D = some (.lst vs5) ∧ Reps X.K c5 vs5 acc5 ∧
            Run X.K W c1 σ H1 (((lcL (lc2B tg1 A l1) J1.2 (J1.1.drop j) acc5 st5).bind fun acc st => lcO (lc2I tg tg1 I1 A l) P.2 (P.1.drop (i + 1)) acc st).bind fun xs st => newL m xs st) (fun c' H' v _ => ∀ x, Rep X.K c' x v → Q x H'),
            ⟨J1.1.length, by simp, Nat.zero_le _, c4, st4, acc, vs, (e2.trans e3).trans e4, ⟨Same.refl _, List.prefix_refl _⟩, h4, nF4, nφ4, hD4, (rv.mono e3).mono e4, by rw [List.drop_zero]; exact q4⟩, ?_⟩
          rintro j kk H5 ⟨rfl, hj, c5, st5, acc5, vs5, e5, x5, h5, nF5, nφ5, hD5, rv5, q5⟩
          by_cases hlt1 : j < J1.1.length
          · obtain ⟨v1, ev1⟩ := get_some hlt1
            have ed1 : J1.1.drop j = v1 :: J1.1.drop (j + 1) := by
              rw [List.drop_eq_getElem_cons hlt1]
              rw [List.getElem?_eq_getElem hlt1] at ev1
              rw [Option.some.inj ev1]
            rw [ed1] at q5
            by_cases hgd1 : guardOk st5 J1.2
            · rw [lcL, if_pos hgd1] at q5
              obtain ⟨_, wk1⟩ := hW1 c5 H5 st5 x5 h5 hgd1
              obtain ⟨go1, yl1⟩ := wk1 j hlt1
              refine .inr ⟨go1, fun H' => ∃ c5 st5 acc5 vs5, Ext c1 H1 c5 H' ∧ Ex0 c4 c5 ∧ RelH X.K c5 H' st5 ∧ c5.F D = none ∧ D ∉ c5.φ ∧ H' D = some (.lst vs5) ∧ Reps X.K c5 vs5 acc5 ∧
                Run X.K W c1 σ H1 (((lcL (lc2B tg1 A l1) J1.2 (J1.1.drop (j + 1)) acc5 st5).bind fun acc st => lcO (lc2I tg tg1 I1 A l) P.2 (P.1.drop (i + 1)) acc st).bind fun xs st => newL m xs st) (fun c' H' v _ => ∀ x, Rep X.K c' x v → Q x H'), fun H' hx => ⟨J1.1.length - (j + 1), by omega, rfl, hlt1, hx⟩, fun x6 H6 hy6 => ?_⟩
              obtain ⟨c6, v1', e6, h6, ev1', r6⟩ := yl1 x6 H6 hy6
              have z1 : v1' = v1 := Option.some.inj (ev1'.symm.trans ev1)
              subst z1
              obtain ⟨hD6, nφ6⟩ := e6.fr D _ hD5 nφ5
              have nF6 := e6.nf D _ hD5 nφ5 nF5
              have hS6 : RelS X.K c6 (L2.wipe σ' tg1.slots) (wipeE l1 tg1.slots) := (((hS'.mono e4).mono0 x5).mono e6).wipe _
              cases et1 : tgSet tg1 v1' (wipeE l1 tg1.slots) with
              | none =>
                unfold lc2B at q5
                rw [et1] at q5
                exact q5.elim
              | some l2 =>
                have eB : lc2B tg1 A l1 v1' st5 = (A l2 st5).bind fun x st => .ok (some x) st := by
                  unfold lc2B
                  rw [et1]
                rw [eB] at q5
                refine gTg_ok h6 hS6 r6 et1 fun σ3 hS3' hw3 => ⟨by rw [hw3 tg1.slots fun i hi => hi, wipe_wipe], htt _ _ _ (iteT ?_)⟩
                cases eA : A l2 st5 with
                | stuck => rw [eA] at q5; exact q5.elim
                | exn x' st' => rw [eA] at q5; exact q5.elim
                | ok y st7 =>
                  rw [eA] at q5
                  simp only [R.bind_ok] at q5
                  refine ⟨c6, l2, st5, h6, hS3', ?_⟩
                  rw [eA]
                  intro c7 H7 e7 h7 y' ry
                  obtain ⟨hD7, nφ7⟩ := e7.fr D _ hD6 nφ6
                  have nF7 := e7.nf D _ hD6 nφ6 nF6
                  have rv7 := (rv5.mono e6).mono e7
                  by_cases hz : acc5.length < sizeLine
                  · rw [if_pos hz] at q5
                    exact ⟨vs5, hD7, by rw [rv7.length]; exact hz, c7, st7, acc5 ++ [y], vs5 ++ [y'], ((e5.trans e6).trans e7).side hD, (x5.trans e6.to0).trans e7.to0, h7.side nF7 nφ7, nF7, nφ7, upd_same, rv7.snoc ry, q5⟩
                  · rw [if_neg hz] at q5
                    exact q5.elim
            · rw [lcL, if_neg hgd1] at q5
              exact q5.elim
          · have e : j = J1.1.length := by omega
            subst e
            rw [List.drop_length] at q5
            by_cases hgd1 : guardOk st5 J1.2
            · rw [lcL, if_pos hgd1, R.bind_ok] at q5
              obtain ⟨stop, _⟩ := hW1 c5 H5 st5 x5 h5 hgd1
              exact .inl ⟨stop _ (Nat.le_refl _), c5, st5, acc5, vs5, e5, h5, nF5, nφ5, hD5, rv5, q5⟩
            · rw [lcL, if_neg hgd1] at q5
              exact q5.elim
    · rw [lcO, if_neg hgd] at q2
      exact q2.elim
  · have e : i = P.1.length := by omega
    subst e
    rw [List.drop_length] at q2
    by_cases hgd : guardOk st2 P.2
    · rw [lcO, if_pos hgd, R.bind_ok] at q2
      obtain ⟨stop, _⟩ := hW c2 H2 st2 e2.to0 h2 hgd
      exact .inl ⟨stop _ (Nat.le_refl _), lc_end hD e2 h2 nF2 nφ2 hD2 rv q2⟩
    · rw [lcO, if_neg hgd] at q2
      exact q2.elim
end
end Pv

set_option Elab.async false
set_option linter.all false
set_option maxRecDepth 100000
set_option maxHeartbeats 4000000
namespace Pv
open PySem PySem.Spec PyProof.Rows L2 RZ
section
variable {k : Ck} {X : Cx} {W : WX} {c : Cn} {lv : Nat}
/-! ### slices, built-ins, methods, calls -/
def tOI (K : PySem.W.Frag) (W : WX) (f : Env → Sto → R (Option Int)) : TO := fun σ H Q => ∃ c l st, RelH K c H st ∧ RelS K c σ l ∧ Run K W c σ H (f l st) (fun c' H' v _ => Q v H')
theorem _root_.L2.PO.imp {e : Option Expr} {t t' : TO} (h : PO X e t) (i : ∀ σ H Q, t' σ H Q → t σ H Q) : PO X e t' := ⟨fun pins s σ H Q I q => h.run pins s σ H Q I (i σ H Q q)⟩
theorem po_noneG : PO X none (tOI X.K W fun l st => .ok none st) := po_none.imp fun σ H Q ⟨cf, l, st, hH, hS, q⟩ => q.here hH
theorem po_someG {e : Expr} {A : Env → Sto → R Val} (h : PE X e (tE X.K W A)) : PO X (some e) (tOI X.K W fun l st => (A l st).bind fun x st => match x with
    | .int i => .ok (some i) st
    | _ => .stuck) := by
  refine (po_some h).imp fun σ H Q ⟨cf, l, st, hH, hS, q⟩ => ?_
  refine ⟨cf, l, st, hH, hS, q.bind.mono fun c1 H1 v st1 e1 h1 q1 x rx => ?_⟩
  split at q1
  · cases rx
    exact ⟨_, rfl, q1.here h1⟩
  · exact q1.elim
theorem pe_slcG {a : Expr} {lo hi : Option Expr} {p2 pos : Pos} {m : Bool} {A : Env → Sto → R Val} {L U : Env → Sto → R (Option Int)} (ha : PE X a (tE X.K W A)) (hl : PO X lo (tOI X.K W L)) (hu : PO X hi (tOI X.K W U)) :
    PE X (.Subscript a (.Slice lo hi none p2) pos) (tE X.K W fun l st => (A l st).bind fun x st => (L l st).bind fun u st => (U l st).bind fun w st => slcEv m x u w st) := by
  refine (pe_slice (slcR m) ha hl hu).imp fun σ H Q ⟨cf, l, st, hH, hS, q⟩ => ?_
  refine ⟨cf, l, st, hH, hS, q.bind.mono fun c1 H1 v st1 e1 h1 q1 x rx => ⟨c1, l, st1, h1, hS.mono e1, q1.bind.mono fun c2 H2 lo st2 e2 h2 q2 => ⟨c2, l, st2, h2, (hS.mono e1).mono e2, q2.bind.mono fun c3 H3 hi st3 e3 h3 q3 => ?_⟩⟩⟩
  exact ⟨c3, v, st3, σ, W, h3, (rx.mono e2).mono e3, q3⟩
theorem pe_idxG {a b : Expr} {pos : Pos} {A B : Env → Sto → R Val} (hn : notSl b = true) (ha : PE X a (tE X.K W A)) (hb : PE X b (tE X.K W B)) :
    PE X (.Subscript a b pos) (tE X.K W fun l st => (A l st).bind fun x st => (B l st).bind fun y st => idxEv x y st) := by
  have hp : PlainIx b := fun o i => by cases b <;> first | rfl | cases hn
  refine (pe_ix idxR ha hb hp).imp fun σ H Q ⟨cf, l, st, hH, hS, q⟩ => ?_
  refine ⟨cf, l, st, hH, hS, q.bind.mono fun c1 H1 v st1 e1 h1 q1 x rx => ⟨c1, l, st1, h1, hS.mono e1, q1.bind.mono fun c2 H2 w st2 e2 h2 q2 y ry => ?_⟩⟩
  exact ⟨c2, v, w, st2, σ, W, h2, rx.mono e2, ry, q2⟩
/-- what is known of the arguments' number -/
def LenIs (A : Env → Sto → R (List Val)) (n : Nat) : Prop := ∀ l st vs st', A l st = .ok vs st' → vs.length = n
theorem pe_bfG {f : List Val → Sto → R Val} {v : Value} {x : Str} {e : Expr} {es : List Expr} {p pos : Pos} {A : Env → Sto → R (List Val)} (hf : CallR X v (rBf X.K f)) (hv : (∃ id, v = .builtin id) ∨ ∃ T, v = .type T) (hb : bootBuiltins x = some v) (hg : Gl X x) (hm : X.mg x = none) (hn : (e :: es).all nst = true)
    (hok : okName x = true) (ha : PA X (e :: es) (tA X.K W A)) : PE X (.Call (.Name x p) (e :: es) [] pos) (tE X.K W fun l st => (A l st).bind fun xs st => f xs st) := by
  rw [List.all_cons, Bool.and_eq_true] at hn
  obtain ⟨d1, d2, d3⟩ := ok_dbg hok
  have go : PE X (.Call (.Name x p) (e :: es) [] pos) (tCB (rBf X.K f) (tA X.K W A)) := by
    rcases hv with ⟨id, rfl⟩ | ⟨T, rfl⟩
    · exact pe_callB hf hg hm hb ha d3 d1 (nst_eq hn.1) (stars_eq hn.2)
    · exact pe_callTy hf hg hm hb ha d3 d1 (nst_eq hn.1) (stars_eq hn.2)
  refine go.imp fun σ H Q ⟨cf, l, st, hH, hS, q⟩ => ?_
  refine ⟨cf, l, st, hH, hS, q.bind.mono fun c1 H1 vs st1 e1 h1 q1 xs rx => ?_⟩
  exact ⟨c1, vs, st1, σ, W, h1, rx, q1⟩
theorem pe_isiG {a : Expr} {kc : Cl} {p p' pos : Pos} {A : Env → Sto → R Val} (hg : Gl X "isinstance") (hm : X.mg "isinstance" = none) (hg' : Gl X (clM kc)) (hm' : X.mg (clM kc) = none) (hn : nst a = true) (ha : PE X a (tE X.K W A)) :
    PE X (.Call (.Name "isinstance" p) [a, .Name (clM kc) p'] [] pos) (tE X.K W fun l st => (A l st).bind fun x st => match isiEv st kc x with
    | some b => .ok (.bl b) st
    | none => .stuck) := by
  have hc : PE X (.Name (clM kc) p') (tC (.ty (clT kc))) := pe_bltn hg' hm' (v := .ty (clT kc)) (u := .type (clT kc)) (by cases kc <;> decide +kernel) rfl (by cases kc <;> decide +kernel) (by cases kc <;> decide +kernel)
  refine (pe_callB call_isi hg hm (by decide +kernel) (pa_cons ha (pa_cons hc pa_nil rfl) (nst_eq hn)) (by decide) (by decide) (nst_eq hn) rfl).imp fun σ H Q ⟨cf, l, st, hH, hS, q⟩ => ?_
  refine ⟨cf, l, st, hH, hS, q.bind.mono fun c1 H1 v st1 e1 h1 q1 x rx => ?_⟩
  split at q1
  · rename_i b eb
    obtain ⟨t, ty, ek⟩ := isi_V h1 rx eb
    exact ⟨x, .ty (clT kc), t, .type (clT kc), b, rfl, .ty _, ty, ek, q1.here h1 _ (.bl _)⟩
  · exact q1.elim
theorem base_eq {o : Expr} {name : Str} {env : PySem.Env} {w : Sem Value} (h : noSuper o = true) : attributeBase o name env w = w := by
  cases o with
  | Call f es ks p =>
    cases es with
    | nil =>
      cases ks with
      | nil => cases h
      | cons _ _ => cases f <;> rfl
    | cons _ _ => cases f <;> rfl
  | _ => rfl
theorem pe_mtG {f : Val → Val → Sto → R Val} {o a : Expr} {name : Str} {id : String} {apos pos : Pos} {A B : Env → Sto → R Val} (slot : Slot "list" name id) (hty : typeOf (.builtin id) = pure (.type "method_descriptor")) (hr : MtR X id (rMt X.K f)) (hs : noSuper o = true) (hline : (apos.endLine == pos.line) = true) (hn : nst a = true)
    (ho : PE X o (tE X.K W A)) (ha : PE X a (tE X.K W B)) : PE X (.Call (.Attribute o name apos) [a] [] pos) (tE X.K W fun l st => (A l st).bind fun x st => match mlist st x with
    | none => .stuck
    | some _ => (B l st).bind fun y st => f x y st) := by
  have hfew : ((backTo pos (starEach [a] X.env)).all (fun x => !x.1) && (backToKw pos (keywordEach [] X.env)).all (fun x => x.1.isSome)
      && decide ([a].length + ([] : List Keyword).length + (if ([] : List Keyword).isEmpty then 0 else 1) < 30)) = true := by
    rw [nst_eq hn]
    rfl
  refine (pe_bm PySem.F.plainAttrs_list slot hty hr ho (pa_cons ha pa_nil (nst_eq hn)) (base_eq hs) hfew hline (nst_eq hn) rfl).imp fun σ H Q ⟨cf, l, st, hH, hS, q⟩ => ?_
  refine ⟨cf, l, st, hH, hS, q.bind.mono fun c1 H1 v st1 e1 h1 q1 x rx => ?_⟩
  split at q1
  · exact q1.elim
  · rename_i P em
    obtain ⟨n, l'⟩ := P
    obtain ⟨p, vs, rfl, p1, p2, p3, p4⟩ := h1.mlist rx em
    refine ⟨.inl ⟨rfl, vs, .of p3⟩, c1, l, st1, h1, hS.mono e1, q1.bind.mono fun c2 H2 w st2 e2 h2 q2 y ry => ?_⟩
    exact ⟨y, c2, v, w, st2, σ, W, rfl, h2, rx.mono e2, ry, q2⟩
theorem pe_ixlG {o a : Expr} {apos pos : Pos} {A B : Env → Sto → R Val} (hs : noSuper o = true) (hline : (apos.endLine == pos.line) = true) (hn : nst a = true)
    (ho : PE X o (tE X.K W A)) (ha : PE X a (tE X.K W B)) : PE X (.Call (.Attribute o "index" apos) [a] [] pos) (tE X.K W fun l st => (A l st).bind fun x st => match lview st x with
    | none => .stuck
    | some _ => (B l st).bind fun y st => ixlEv x y st) := by
  have hfew : ((backTo pos (starEach [a] X.env)).all (fun x => !x.1) && (backToKw pos (keywordEach [] X.env)).all (fun x => x.1.isSome)
      && decide ([a].length + ([] : List Keyword).length + (if ([] : List Keyword).isEmpty then 0 else 1) < 30)) = true := by
    rw [nst_eq hn]
    rfl
  refine (pe_bm PySem.F.plainAttrs_list PySem.F.slot_list_index PySem.F.type_list_index ixlR ho (pa_cons ha pa_nil (nst_eq hn)) (base_eq hs) hfew hline (nst_eq hn) rfl).imp fun σ H Q ⟨cf, l, st, hH, hS, q⟩ => ?_
  refine ⟨cf, l, st, hH, hS, q.bind.mono fun c1 H1 v st1 e1 h1 q1 x rx => ?_⟩
  split at q1
  · exact q1.elim
  · rename_i l' em
    obtain ⟨p, vs, rfl, p1, p2⟩ := h1.lview rx em
    refine ⟨.inl ⟨rfl, vs, .of p1⟩, c1, l, st1, h1, hS.mono e1, q1.bind.mono fun c2 H2 w st2 e2 h2 q2 y ry => ?_⟩
    exact ⟨y, c2, v, w, st2, σ, W, rfl, h2, rx.mono e2, ry, q2⟩
theorem pe_ixsG {o a : Expr} {apos pos : Pos} {A B : Env → Sto → R Val} (hs : noSuper o = true) (hline : (apos.endLine == pos.line) = true) (hn : nst a = true)
    (ho : PE X o (tE X.K W A)) (ha : PE X a (tE X.K W B)) : PE X (.Call (.Attribute o "index" apos) [a] [] pos) (tE X.K W fun l st => (A l st).bind fun x st => match x with
    | .str z => (B l st).bind fun y st => ixsEv (.str z) y st
    | _ => .stuck) := by
  have hfew : ((backTo pos (starEach [a] X.env)).all (fun x => !x.1) && (backToKw pos (keywordEach [] X.env)).all (fun x => x.1.isSome)
      && decide ([a].length + ([] : List Keyword).length + (if ([] : List Keyword).isEmpty then 0 else 1) < 30)) = true := by
    rw [nst_eq hn]
    rfl
  refine (pe_bm PySem.F.plainAttrs_str PySem.F.slot_str_index PySem.F.type_str_index ixsR ho (pa_cons ha pa_nil (nst_eq hn)) (base_eq hs) hfew hline (nst_eq hn) rfl).imp fun σ H Q ⟨cf, l, st, hH, hS, q⟩ => ?_
  refine ⟨cf, l, st, hH, hS, q.bind.mono fun c1 H1 v st1 e1 h1 q1 x rx => ?_⟩
  split at q1
  · rename_i z
    cases rx
    refine ⟨rfl, c1, l, st1, h1, hS.mono e1, q1.bind.mono fun c2 H2 w st2 e2 h2 q2 y ry => ?_⟩
    exact ⟨y, c2, _, w, st2, σ, W, rfl, h2, .str z, ry, q2⟩
  · exact q1.elim
theorem pe_ixgG {y : Str} {V : L2.V} {u : Value} {p : Addr} {ob : Obj} {l' : List Val} {a : Expr} {npos apos pos : Pos} {B : Env → Sto → R Val} (hg : Gl X y) (hm : X.mg y = some u) (hr : RelV V u) (hd : (y == ("__debug__" : Str)) = false) (hV : V = .ref p) (hK : X.K.lookup p = some ob) (hc : ob.cls = .type "tuple") (hdd : ob.dict = none)
    (hR : ∀ cf, Rep X.K cf V (.gtp l')) (hline : (apos.endLine == pos.line) = true) (hn : nst a = true)
    (ha : PE X a (tE X.K W B)) : PE X (.Call (.Attribute (.Name y npos) "index" apos) [a] [] pos) (tE X.K W fun l st => (B l st).bind fun x st => ixEv l' x st) := by
  have hfew : ((backTo pos (starEach [a] X.env)).all (fun x => !x.1) && (backToKw pos (keywordEach [] X.env)).all (fun x => x.1.isSome)
      && decide ([a].length + ([] : List Keyword).length + (if ([] : List Keyword).isEmpty then 0 else 1) < 30)) = true := by
    rw [nst_eq hn]
    rfl
  refine (pe_bm PySem.F.plainAttrs_tuple PySem.F.slot_tuple_index PySem.F.type_tuple_index mt_tup_indexF (pe_glob hg hm hr hd) (pa_cons ha pa_nil (nst_eq hn)) (base_eq rfl) hfew hline (nst_eq hn) rfl).imp fun σ H Q ⟨cf, l, st, hH, hS, q⟩ => ?_
  subst hV
  refine ⟨.inr (.inl ⟨rfl, ob, hK, hc, hdd⟩), cf, l, st, hH, hS, q.bind.mono fun c1 H1 w st1 e1 h1 q1 x rx => ?_⟩
  unfold ixEv at q1
  split at q1
  · rename_i hf
    split at q1
    · rename_i j ej
      cases hR c1 with
      | @gtp _ vs _ h2 h3 =>
      obtain ⟨m, z, rfl, z1, z2, z3⟩ := fstI_V rx hf.1 h3 hf.2 ej
      rw [Nat.zero_add] at q1
      exact ⟨p, vs, x, m, z, rfl, rfl, SqT.mono h1.sub h2, flat_V rx hf.1, flats_V h3 hf.2, z1, z2, z3, q1.here h1 _ (.int _)⟩
    · exact q1.elim
  · exact q1.elim
theorem pe_revG {a : Expr} {m : Bool} {kk : Nat} {p1 p2 p3 pos : Pos} {A : Env → Sto → R Val} (ha : PE X a (tE X.K W A)) :
    PE X (.Subscript a (.Slice none none (some (.UnaryOp .USub (.Constant (.int 1) kk p1) p2)) p3) pos) (tE X.K W fun l st => (A l st).bind fun x st => revEv m x st) := by
  refine (pe_revA ha).imp fun σ H Q ⟨cf, l, st, hH, hS, q⟩ => ?_
  refine ⟨cf, l, st, hH, hS, q.bind.mono fun c1 H1 v st1 e1 h1 q1 x rx => ?_⟩
  unfold revEv at q1
  split at q1
  · rename_i l'
    cases rx with
    | @tup p vs _ h2 h3 =>
    refine ⟨p, vs, rfl, .inr ⟨tupT h1.sub h2, fun p' n => ?_⟩⟩
    obtain ⟨c', r, q'⟩ := run_tup h1 q1 n h3.reverse
    exact q' _ r
  · split at q1
    · rename_i l' e
      obtain ⟨p, vs, rfl, h2, h3⟩ := h1.lview rx e
      refine ⟨p, vs, rfl, .inl ⟨.of h2, fun p' n => ?_⟩⟩
      obtain ⟨c', v', st', r, q'⟩ := run_newL h1 q1 n h3.reverse
      exact q' _ r
    · exact q1.elim
/-! calls -/
theorem ks_all {env : PySem.Env} {pos : Pos} : ∀ {ks : List Keyword}, (∀ kw ∈ ks, kw.arg.isSome = true) → (backToKw pos (keywordEach ks env)).all (·.1.isSome) = true ∧ (backToKw pos (keywordEach ks env)).any (·.1.isNone) = false ∧ (backToKw pos (keywordEach ks env)).filterMap (·.1) = ks.filterMap (·.arg)
  | [], _ => ⟨rfl, rfl, rfl⟩
  | ⟨a, e, p⟩ :: ks, h => by
    obtain ⟨i1, i2, i3⟩ := ks_all (env := env) (pos := pos) (ks := ks) fun kw m => h kw (List.mem_cons_of_mem _ m)
    have ha : a.isSome = true := h ⟨a, e, p⟩ List.mem_cons_self
    cases a with
    | none => cases ha
    | some a =>
      refine ⟨?_, ?_, ?_⟩
      · show (true && (backToKw pos (keywordEach ks env)).all (·.1.isSome)) = true
        rw [i1]
        rfl
      · show (false || (backToKw pos (keywordEach ks env)).any (·.1.isNone)) = false
        rw [i2]
        rfl
      · show List.filterMap (·.1) ((some a, _) :: backToKw pos (keywordEach ks env)) = _
        rw [List.filterMap_cons, i3]
        rfl
/-- a call's values in the parameters' order, as V, as Value -/
def putG {α : Type} (d : α) (is : List Nat) (xs zs : List α) : List α := match is with
  | [] => xs
  | is => (List.range (xs.length + zs.length)).map fun i => (xs[i]?).getD (((is.zip zs).lookup i).getD d)
theorem vals_at {xs : List V} {us : List Value} (h : Vals xs us) (i : Nat) : (xs[i]? = none ∧ us[i]? = none) ∨ ∃ x u, xs[i]? = some x ∧ us[i]? = some u ∧ RelV x u := by
  cases q : xs[i]? with
  | none => exact .inl ⟨rfl, h.none_of q⟩
  | some x =>
    obtain ⟨u, e, r⟩ := h.get q
    exact .inr ⟨x, u, rfl, e, r⟩
theorem vals_lookup {i : Nat} : ∀ {is : List Nat} {xs : List V} {us : List Value}, Vals xs us → ((is.zip xs).lookup i = none ∧ (is.zip us).lookup i = none) ∨ ∃ x u, (is.zip xs).lookup i = some x ∧ (is.zip us).lookup i = some u ∧ RelV x u
  | [], _, _, _ => .inl ⟨rfl, rfl⟩
  | _ :: _, _, _, .nil => .inl ⟨by rw [List.zip_nil_right]; rfl, by rw [List.zip_nil_right]; rfl⟩
  | j :: is, _, _, .cons r t => by
    rw [List.zip_cons_cons, List.zip_cons_cons, List.lookup_cons, List.lookup_cons]
    cases i == j with
    | true => exact .inr ⟨_, _, rfl, rfl, r⟩
    | false => exact vals_lookup t
theorem vals_map {α : Type} {f : α → V} {g : α → Value} : ∀ {l : List α}, (∀ a ∈ l, RelV (f a) (g a)) → Vals (l.map f) (l.map g)
  | [], _ => .nil
  | a :: l, h => .cons (h a List.mem_cons_self) (vals_map fun b m => h b (List.mem_cons_of_mem _ m))
theorem putG_V {is : List Nat} {xs zs : List V} {us ws : List Value} (h : Vals xs us) (h' : Vals zs ws) : Vals (putG .non is xs zs) (putG .none is us ws) := by
  cases is with
  | nil => exact h
  | cons j is =>
    show Vals ((List.range (xs.length + zs.length)).map _) ((List.range (us.length + ws.length)).map _)
    rw [h.length, h'.length]
    refine vals_map fun i _ => ?_
    rcases vals_at h i with ⟨e1, e2⟩ | ⟨x, u, e1, e2, r⟩
    · rw [e1, e2]
      rcases vals_lookup (i := i) (is := j :: is) h' with ⟨e3, e4⟩ | ⟨x, u, e3, e4, r⟩
      · rw [e3, e4]; rfl
      · rw [e3, e4]; exact r
    · rw [e1, e2]; exact r
theorem reps_at {K : PySem.W.Frag} {cf : Cf} {xs : List V} {us : List Val} (h : Reps K cf xs us) (i : Nat) : (xs[i]? = none ∧ us[i]? = none) ∨ ∃ x u, xs[i]? = some x ∧ us[i]? = some u ∧ Rep K cf x u := by
  cases q : us[i]? with
  | none =>
    refine .inl ⟨?_, rfl⟩
    rw [List.getElem?_eq_none_iff] at q ⊢
    rw [h.length]
    exact q
  | some u =>
    obtain ⟨x, e, r⟩ := h.get q
    exact .inr ⟨x, u, e, rfl, r⟩
theorem reps_lookup {K : PySem.W.Frag} {cf : Cf} {i : Nat} : ∀ {is : List Nat} {xs : List V} {us : List Val}, Reps K cf xs us → ((is.zip xs).lookup i = none ∧ (is.zip us).lookup i = none) ∨ ∃ x u, (is.zip xs).lookup i = some x ∧ (is.zip us).lookup i = some u ∧ Rep K cf x u
  | [], _, _, _ => .inl ⟨rfl, rfl⟩
  | _ :: _, _, _, .nil => .inl ⟨by rw [List.zip_nil_right]; rfl, by rw [List.zip_nil_right]; rfl⟩
  | j :: is, _, _, .cons r t => by
    rw [List.zip_cons_cons, List.zip_cons_cons, List.lookup_cons, List.lookup_cons]
    cases i == j with
    | true => exact .inr ⟨_, _, rfl, rfl, r⟩
    | false => exact reps_lookup t
theorem reps_map {α : Type} {K : PySem.W.Frag} {cf : Cf} {f : α → V} {g : α → Val} : ∀ {l : List α}, (∀ a ∈ l, Rep K cf (f a) (g a)) → Reps K cf (l.map f) (l.map g)
  | [], _ => .nil
  | a :: l, h => .cons (h a List.mem_cons_self) (reps_map fun b m => h b (List.mem_cons_of_mem _ m))
theorem putG_R {K : PySem.W.Frag} {cf : Cf} {is : List Nat} {xs zs : List V} {us ws : List Val} (h : Reps K cf xs us) (h' : Reps K cf zs ws) : Reps K cf (putG .non is xs zs) (putG .non is us ws) := by
  cases is with
  | nil => exact h
  | cons j is =>
    show Reps K cf ((List.range (xs.length + zs.length)).map _) ((List.range (us.length + ws.length)).map _)
    rw [h.length, h'.length]
    refine reps_map fun i _ => ?_
    rcases reps_at h i with ⟨e1, e2⟩ | ⟨x, u, e1, e2, r⟩
    · rw [e1, e2]
      rcases reps_lookup (i := i) (is := j :: is) h' with ⟨e3, e4⟩ | ⟨x, u, e3, e4, r⟩
      · rw [e3, e4]; exact .non
      · rw [e3, e4]; exact r
    · rw [e1, e2]; exact r
/-- the evaluator's arguments -/
theorem putK_eq : ∀ {is : List Nat} {xs zs : List Val}, is.length = zs.length → putK xs (is.zip zs) = putG .non is xs zs
  | [], xs, zs, _ => rfl
  | j :: is, xs, [], h => by simp at h
  | j :: is, xs, z :: zs, h => by
    have e : is.length = zs.length := by simpa using h
    show (List.range (xs.length + ((j, z) :: is.zip zs).length)).map _ = (List.range (xs.length + (z :: zs).length)).map _
    rw [List.length_cons, List.length_zip, List.length_cons, e, Nat.min_self]
theorem zip_lookup {α : Type} : ∀ {ps : List Str} {us : List α} {i : Nat} {x : Str}, ps.Nodup → ps[i]? = some x → (ps.zip us).lookup x = us[i]?
  | [], _, _, _, _, h => by simp at h
  | p :: ps, [], i, x, _, _ => by rw [List.zip_nil_right]; simp
  | p :: ps, u :: us, 0, x, _, h => by
    have e : p = x := by simpa using h
    rw [e, List.zip_cons_cons, List.lookup_cons]
    simp
  | p :: ps, u :: us, i + 1, x, n, h => by
    have h : ps[i]? = some x := by simpa using h
    have hn := List.nodup_cons.mp n
    have ne : (x == p) = false := by
      have : x ≠ p := fun z => hn.1 (z ▸ List.mem_of_getElem? h)
      simpa using this
    rw [List.zip_cons_cons, List.lookup_cons, ne]
    show (ps.zip us).lookup x = (u :: us)[i + 1]?
    rw [zip_lookup hn.2 h]
    rfl
/-- the keywords' names, by their places -/
inductive Named (N : List Str) : List Nat → List Str → Prop
  | nil : Named N [] []
  | cons {i : Nat} {y : Str} {is : List Nat} {ys : List Str} : N[i]? = some y → Named N is ys → Named N (i :: is) (y :: ys)
theorem named_lookup {α : Type} {N : List Str} {i : Nat} {x : Str} (nd : N.Nodup) (hx : N[i]? = some x) : ∀ {is : List Nat} {ys : List Str} {ws : List α}, Named N is ys → (ys.zip ws).lookup x = (is.zip ws).lookup i
  | _, _, _, .nil => rfl
  | _, _, [], .cons _ _ => by rw [List.zip_nil_right, List.zip_nil_right]; rfl
  | j :: is, y :: ys, w :: ws, .cons h t => by
    rw [List.zip_cons_cons, List.zip_cons_cons, List.lookup_cons, List.lookup_cons]
    by_cases e : i = j
    · subst e
      have z : x = y := Option.some.inj (hx.symm.trans h)
      subst z
      simp
    · have ne : x ≠ y := fun z => by
        subst z
        exact e (nodup_at nd hx h)
      rw [show (i == j) = false by simpa using e, show (x == y) = false by simpa using ne]
      exact named_lookup nd hx t
theorem named_len {N : List Str} : ∀ {is : List Nat} {ys : List Str}, Named N is ys → is.length = ys.length
  | _, _, .nil => rfl
  | _, _, .cons _ t => by rw [List.length_cons, List.length_cons, named_len t]
theorem named_mem {N : List Str} : ∀ {is : List Nat} {ys : List Str} {y : Str}, Named N is ys → y ∈ ys → ∃ i, i ∈ is ∧ N[i]? = some y
  | _, _, _, .nil, h => by simp at h
  | _, _, y, .cons h t, m => by
    rcases List.mem_cons.mp m with m | m
    · subst m
      exact ⟨_, List.mem_cons_self, h⟩
    · obtain ⟨i, m1, e⟩ := named_mem t m
      exact ⟨i, List.mem_cons_of_mem _ m1, e⟩
theorem named_nodup {N : List Str} (nd : N.Nodup) : ∀ {is : List Nat} {ys : List Str}, Named N is ys → is.Nodup → ys.Nodup
  | _, _, .nil, _ => List.nodup_nil
  | _, _, .cons h t, n => by
    rw [List.nodup_cons] at n ⊢
    refine ⟨fun m => ?_, named_nodup nd t n.2⟩
    obtain ⟨i, m1, e⟩ := named_mem t m
    exact n.1 (nodup_at nd h e ▸ m1)
theorem zip_lookup_some {α : Type} {i : Nat} : ∀ {is : List Nat} {ws : List α}, is.length = ws.length → i ∈ is → ∃ w, (is.zip ws).lookup i = some w
  | [], _, _, m => by simp at m
  | j :: is, [], h, _ => by simp at h
  | j :: is, w :: ws, h, m => by
    rw [List.zip_cons_cons, List.lookup_cons]
    cases q : i == j with
    | true => exact ⟨w, rfl⟩
    | false =>
      rcases List.mem_cons.mp m with m | m
      · subst m
        simp at q
      · exact zip_lookup_some (by simpa using h) m
theorem putG_len {α : Type} {d : α} {is : List Nat} {xs zs : List α} (h : is.length = zs.length) : (putG d is xs zs).length = xs.length + zs.length := by
  cases is with
  | nil =>
    have e : zs = [] := by
      cases zs with
      | nil => rfl
      | cons _ _ => simp at h
    rw [e]
    rfl
  | cons j is =>
    show ((List.range _).map _).length = _
    rw [List.length_map, List.length_range]
theorem putG_get {α : Type} {d : α} {is : List Nat} {xs zs : List α} {i : Nat} (h : is.length = zs.length) (hi : i < xs.length + zs.length) : (putG d is xs zs)[i]? = some ((xs[i]?).getD (((is.zip zs).lookup i).getD d)) := by
  cases is with
  | nil =>
    have e : zs = [] := by
      cases zs with
      | nil => rfl
      | cons _ _ => simp at h
    subst e
    have hi : i < xs.length := by simpa using hi
    show xs[i]? = _
    rw [List.getElem?_eq_getElem hi]
    rfl
  | cons j is =>
    show ((List.range _).map _)[i]? = _
    rw [List.getElem?_map, List.getElem?_range hi]
    rfl
/-- the callee runs, an error at the caller's slots -/
theorem run_fnG {hb0 : Bool} {f : Addr} {fd : FuncData} {ps : List Str} {sp : Sp} {lv : Nat} {pins : List (Addr × Obj)} {σ : L2.St} {H : Hp} {s : Shared} {Q : VK} {us us' : List Value} {l : List (Str × Value)} {vs : List V} (F : FnOkG X.prog X.w X.K X.mg X.base (L2.CX X.prog X.w) hb0 lv f fd ps sp) (hr : RoomB hb0 lv X.A) (gd : X.A.guards = some []) (tk : Takes X W)
    (hb : BindsTo s fd ⟨us, l⟩ (ps.zip us')) (I : L2.Inv X pins σ H s) (r : Vals vs us') (h : sp vs H Q (WE W σ)) : wpAny (model X.prog X.w) X.A (call (.ref f) us l) (EP X pins σ Q) X.xe s := by
  refine wpAny_call (codeAny_mono (F.go X.A X.stack s H ⟨us, l⟩ us' vs Q (WE W σ) hr gd I.env0 hb r h) fun r s' hq => ?_)
  cases r with
  | error e => exact passAt tk σ pins H s e s' I hq
  | ok fl =>
    cases fl with
    | ret u => exact I.after hq
    | next => exact False.elim hq
    | brk => exact False.elim hq
    | cont => exact False.elim hq
theorem pe_calG {i : Nat} {d : Fd} {es : List Expr} {ks : List Keyword} {is : List Nat} {p pos : Pos} {call : CallT} {A : Env → Sto → R (List Val)} {B : Env → Sto → R (List Val)} (how : d.own = none) (F : FnAt X lv call i d) (hr : RoomB (hotF d) lv X.A) (gd : X.A.guards = some []) (tk : Takes X W) (hg : Gl X d.name) (hd : okName d.name = true) (hn : es.all nst = true)
    (ha : PA X es (tA X.K W A)) (hk : PK X ks (tA X.K W B)) (hks : ∀ kw ∈ ks, kw.arg.isSome = true) (hnm : Named d.N is (ks.filterMap (·.arg))) (hin : ∀ i ∈ is, es.length ≤ i ∧ i < d.ps) (hnd : is.Nodup) (hcov : ∀ i, i < d.ps → i < es.length ∨ i ∈ is) (hlen : es.length + ks.length = d.ps)
    (hA : LenIs A es.length) (hB : LenIs B ks.length) (hA0 : es = [] → ∀ l st, A l st = .ok [] st) :
    PE X (.Call (.Name d.name p) es ks pos) (tE X.K W fun l st => (A l st).bind fun xs st => (B l st).bind fun zs st => call i (putG .non is xs zs) st) := by
  obtain ⟨⟨f, fd, hm, hkeep, FO, hbind⟩, nd, hle⟩ := F
  unfold AdrOk at hm
  rw [how] at hm
  obtain ⟨d1, d2, d3⟩ := ok_dbg hd
  obtain ⟨k1, k2, k3⟩ := ks_all (env := X.env) (pos := pos) hks
  have hpl : (d.N.take d.ps).length = d.ps := by rw [List.length_take]; omega
  have ndp : (d.N.take d.ps).Nodup := List.Sublist.nodup (List.take_sublist _ _) nd
  have hkl : (ks.filterMap (·.arg)).length = ks.length := by
    clear hk hnm hin hcov hlen hB k1 k2 k3
    induction ks with
    | nil => rfl
    | cons kw ks ih =>
      have h1 := hks kw List.mem_cons_self
      cases e : kw.arg with
      | none => rw [e] at h1; cases h1
      | some y =>
        rw [List.filterMap_cons, e]
        show (ks.filterMap (·.arg)).length + 1 = ks.length + 1
        rw [ih fun kw m => hks kw (List.mem_cons_of_mem _ m)]
  have hil : is.length = ks.length := by rw [named_len hnm, hkl]
  have inTake : ∀ (i : Nat) (x : Str), i < d.ps → d.N[i]? = some x → (d.N.take d.ps)[i]? = some x := fun i x h e => by rw [List.getElem?_take, if_pos h]; exact e
  -- how the values are bound
  have bind : ∀ (s : Shared) (us ws : List Value), us.length = es.length → ws.length = ks.length → BindsTo s fd ⟨us, (ks.filterMap (·.arg)).zip ws⟩ ((d.N.take d.ps).zip (putG .none is us ws)) := fun s us ws e1 e2 => by
    refine hbind s us _ _ (by omega) (fun q hq => ?_) ?_ (fun q hq => ?_) ?_ (fun q hq => ?_)
    · have m : q.1 ∈ ks.filterMap (·.arg) := (List.of_mem_zip hq).1
      obtain ⟨i, m1, e⟩ := named_mem hnm m
      exact List.mem_of_getElem? (inTake i q.1 (hin i m1).2 e)
    · have e : ((ks.filterMap (·.arg)).zip ws).map (·.1) = ks.filterMap (·.arg) := List.map_fst_zip (by omega)
      rw [e]
      exact named_nodup nd hnm hnd
    · have m : q.1 ∈ ks.filterMap (·.arg) := (List.of_mem_zip hq).1
      obtain ⟨i, m1, e⟩ := named_mem hnm m
      rw [zip_lookup ndp (inTake i q.1 (hin i m1).2 e)]
      rw [List.getElem?_eq_none_iff]
      have := (hin i m1).1
      omega
    · rw [putG_len (by omega), hpl]
      omega
    · obtain ⟨j, hj, ej⟩ := List.mem_iff_getElem.mp hq
      rw [List.length_zip, hpl, putG_len (by omega)] at hj
      rw [List.getElem_zip] at ej
      have ex : (d.N.take d.ps)[j]? = some q.1 := by
        rw [← ej]
        exact List.getElem?_eq_getElem _
      have ev : (putG Value.none is us ws)[j]? = some q.2 := by
        rw [← ej]
        exact List.getElem?_eq_getElem _
      rw [putG_get (by omega) (by omega)] at ev
      have exN : d.N[j]? = some q.1 := by
        rw [List.getElem?_take] at ex
        split at ex
        · exact ex
        · cases ex
      rw [List.lookup_append, zip_lookup ndp ex, named_lookup nd exN hnm]
      rcases hcov j (by omega) with h | h
      · obtain ⟨u, eu⟩ := get_some (l := us) (i := j) (by omega)
        rw [eu] at ev ⊢
        exact ev
      · have nu : us[j]? = none := by
          rw [List.getElem?_eq_none_iff]
          have := (hin j h).1
          omega
        obtain ⟨w, ew⟩ := zip_lookup_some (ws := ws) (by omega) h
        rw [nu, ew] at ev ⊢
        exact ev
  have lenOf : ∀ {C : Env → Sto → R (List Val)} {n : Nat} {cf : Cf} {σ : L2.St} {H : Hp} {l : Env} {st : Sto} {Q : Cf → Hp → List Val → Sto → Prop}, LenIs C n → Run X.K W cf σ H (C l st) Q → Run X.K W cf σ H (C l st) (fun c' H' vs st' => vs.length = n ∧ Q c' H' vs st') := fun {C n cf σ H l st Q} hC q => by
    cases e : C l st with
    | ok vs st' =>
      rw [e] at q
      exact fun c' H' e1 h1 => ⟨hC _ _ _ _ e, q c' H' e1 h1⟩
    | exn x st' => rw [e] at q; exact q
    | stuck => rw [e] at q; exact q
  refine ⟨fun pins s σ H Q I ⟨cf, l, st, hH, hS, q⟩ => ?_⟩
  refine wpAny_Call_Name_kw (ld_glob I hg hm ?_ d1)
  -- the keywords, then the call
  have behind : ∀ (s1 : Shared) (us : List Value) (xs : List V) (vs : List Val) (c1 : Cf) (H1 : Hp) (st1 : Sto), L2.Inv X pins σ H1 s1 → Vals xs us → vs.length = es.length → Ext cf H c1 H1 → RelH X.K c1 H1 st1 → Reps X.K c1 xs vs →
      Run X.K W c1 σ H1 ((B l st1).bind fun zs st => call i (putG .non is vs zs) st) (fun c' H' v _ => ∀ x, Rep X.K c' x v → Q x H') →
      wpAny (model X.prog X.w) X.A (evalAll ((backToKw pos (keywordEach ks X.env)).map (·.2))) (fun ws s2 => X.K.In s2.heap ∧ wpAny (model X.prog X.w) X.A (PySem.call (.ref f) us ((ks.filterMap (·.arg)).zip ws)) (EP X pins σ Q) X.xe s2) X.xe s1 := fun s1 us xs vs c1 H1 st1 I1 r1 hvs e1 h1 rx q1 => by
    refine thn (hk.run pos pins s1 σ H1 (fun zs H2 => ∃ (c2 : Cf) (ws : List Val) (st2 : Sto), ws.length = ks.length ∧ Reps X.K c2 zs ws ∧ Ext c1 H1 c2 H2 ∧ RelH X.K c2 H2 st2 ∧ Run X.K W c2 σ H2 (call i (putG .non is vs ws) st2) (fun c' H' v _ => ∀ x, Rep X.K c' x v → Q x H')) I1 ⟨c1, l, st1, h1, hS.mono e1, (lenOf hB q1.bind).mono fun c2 H2 ws st2 e2 h2 q2 zs rz => ⟨c2, ws, st2, q2.1, rz, e2, h2, q2.2⟩⟩) fun ws' s2 ⟨zs, H2, I2, r2, c2, ws, st2, hl2, rz, e2, h2, q2⟩ => ⟨I2.kIn, ?_⟩
    have hu : us.length = es.length := by rw [← r1.length, rx.length]; exact hvs
    have hw : ws'.length = ks.length := by rw [← r2.length, rz.length]; exact hl2
    refine run_fnG FO hr gd tk (bind s2 us ws' hu hw) I2 (putG_V r1 r2) ⟨?_, c2, putG .non is vs ws, st2, σ, h2, putG_R (rx.mono e2) rz, ?_⟩
    · rw [putG_len (by rw [hil, rz.length, hl2]), hpl, rx.length, rz.length, hvs, hl2]
      exact hlen
    · cases ec : call i (putG .non is vs ws) st2 with
      | ok v st' => rw [ec] at q2; exact q2
      | stuck => rw [ec] at q2; exact q2
      | exn x st' => rw [ec] at q2; exact q2
  cases es with
  | nil =>
    refine PySem.W.callWith_KW0 (h₀ := X.base) I.ok.mod.kin hkeep k1 ?_ (by rw [k2]; rfl)
    rw [k3]
    have q : Run X.K W cf σ H ((A l st).bind fun xs st => (B l st).bind fun zs st => call i (putG .non is xs zs) st) _ := q
    rw [hA0 rfl] at q
    exact behind s [] [] [] cf H st I .nil rfl Ext.refl hH .nil q
  | cons e es =>
    rw [List.all_cons, Bool.and_eq_true] at hn
    refine PySem.W.callWith_KW (h₀ := X.base) I.ok.mod.kin hkeep k1 (thn (ha.run pos pins s σ H (fun xs H1 => ∃ (c1 : Cf) (vs : List Val) (st1 : Sto), vs.length = (e :: es).length ∧ Reps X.K c1 xs vs ∧ Ext cf H c1 H1 ∧ RelH X.K c1 H1 st1 ∧ Run X.K W c1 σ H1 ((B l st1).bind fun zs st => call i (putG .non is vs zs) st) (fun c' H' v _ => ∀ x, Rep X.K c' x v → Q x H')) I ⟨cf, l, st, hH, hS, (lenOf hA q.bind).mono fun c1 H1 vs st1 e1 h1 q1 xs rx => ⟨c1, vs, st1, q1.1, rx, e1, h1, q1.2⟩⟩) fun us s1 ⟨xs, H1, I1, r1, c1, vs, st1, hl1, rx, e1, h1, q1⟩ => ?_) ?_ (nst_eq hn.1)
    · rw [k3]
      exact behind s1 us xs vs c1 H1 st1 I1 r1 hl1 e1 h1 rx q1
    · rw [nst_eq hn.1]
      show ((false || (backTo pos (starEach es X.env)).any (·.1)) || _) = false
      rw [stars_eq hn.2, k2]
      rfl
/-! errors: a field, isinstance -/
theorem lookup_zip : ∀ {ns : List Str} {vs : List Val} {f : Str} {v : Val}, (ns.zip vs).lookup f = some v → ∃ i : Nat, ns[i]? = some f ∧ vs[i]? = some v
  | [], _, _, _, h => by simp at h
  | _ :: _, [], _, _, h => by simp at h
  | n :: ns, u :: vs, f, v, h => by
    rw [List.zip_cons_cons] at h
    by_cases e : f = n
    · subst e
      have h' : u = v := by simpa [List.lookup] using h
      exact ⟨0, rfl, by rw [h']; rfl⟩
    · have e' : (f == n) = false := by simpa using e
      have h' : (ns.zip vs).lookup f = some v := by simpa [List.lookup, e'] using h
      obtain ⟨i, h1, h2⟩ := lookup_zip h'
      exact ⟨i + 1, by simpa using h1, by simpa using h2⟩
theorem pe_attG {a : Expr} {f : Str} {pos : Pos} {A : Env → Sto → R Val} (hn : noSuper a = true) (ha : PE X a (tE X.K W A)) : PE X (.Attribute a f pos) (tE X.K W fun l st => (A l st).bind fun x st => attEv f x st) := by
  refine ⟨fun pins s σ H Q I ⟨cf, l, st, hH, hS, q⟩ => ?_⟩
  refine attr_of (base_eq hn) (thn (ha.run pins s σ H (fun x H' => ∃ cf' v st', RelH X.K cf' H' st' ∧ Rep X.K cf' x v ∧ Run X.K W cf' σ H' (attEv f v st') (fun c' H' v _ => ∀ x, Rep X.K c' x v → Q x H')) I ⟨cf, l, st, hH, hS, q.bind.mono fun c1 H1 v st1 e1 h1 q1 x rx => ⟨c1, v, st1, h1, rx, q1⟩⟩) fun u s1 hh => ?_)
  obtain ⟨x, H1, I1, rxu, c1, v, st1, h1, rx, q1⟩ := hh
  unfold attEv at q1
  split at q1
  · rename_i d vs
    split at q1
    · rename_i v' el
      cases rx with
      | @exc a dd _ _ us fvs p1 p2 p3 p4 T =>
        obtain rfl : u = Value.ref a := rxu
        obtain ⟨i, ei, ev⟩ := lookup_zip el
        obtain ⟨u', eu, ru⟩ := p4.get ev
        have lk := p3.2 i f u' ei eu
        obtain ⟨⟨oe, ws, ho, hc, hd, hdat⟩, _, _⟩ := I1.hok a _ (h1.sub _ _ p1)
        have hx : ObjOk X.prog X.w H1 s1.heap dd (.xd fvs) := I1.hok dd _ (h1.sub _ _ p2)
        obtain ⟨mA, hns, hr⟩ := hx
        obtain ⟨od, ho2, hl⟩ := lookIn_ns hns
        obtain ⟨u2, hu2, ru2⟩ := RelO.some_of (v := u') (o := mA f) (by rw [← lk]; exact hr f)
        have J : PySem.W.InstAt s1.heap a oe (He.ga X.K d.name) (some od) := ⟨ho, hc, by unfold PySem.W.notCls; rw [hdat] <;> rfl, by rw [hd]; exact ho2⟩
        exact HandSPX.exc_get I1.kIn J T.ga T.gg T.exC (PySem.W.findObj_own T.hdC (T.noN f (List.mem_of_getElem? ei)) rfl (by rw [hl, hu2])) (handed_of ru2) ⟨u', H1, I1.tok _, ru2, q1.here h1 _ ru⟩
    · exact q1.elim
  · exact q1.elim
theorem pe_isxG {a : Expr} {C : Str} {p p' pos : Pos} {A : Env → Sto → R Val} (hg : Gl X "isinstance") (hm : X.mg "isinstance" = none) (hg' : Gl X C) (hok : okName C = true) (hk : X.mg C = some (xcls X.K C) ∨ (X.mg C = none ∧ bootBuiltins C = some (xcls X.K C))) (hn : nst a = true) (ha : PE X a (tE X.K W A)) :
    PE X (.Call (.Name "isinstance" p) [a, .Name C p'] [] pos) (tE X.K W fun l st => (A l st).bind fun x st => match isxEv C x with
    | some b => .ok (.bl b) st
    | none => .stuck) := by
  obtain ⟨d1, d2, d3⟩ := ok_dbg hok
  obtain ⟨vC, hv, hV⟩ : ∃ vC : V, ClsV vC (xcls X.K C) ∧ RelV vC (xcls X.K C) := by
    unfold xcls
    split
    · exact ⟨_, .ty _, rfl⟩
    · split
      · exact ⟨_, .ty _, rfl⟩
      · exact ⟨_, .own _, rfl⟩
  have hc : PE X (.Name C p') (tC vC) := by
    rcases hk with hk | ⟨hk1, hk2⟩
    · exact pe_glob hg' hk hV d1
    · exact pe_bltn hg' hk1 hk2 hV d3 d1
  have call : CallR X (.builtin "isinstance") (fun xs H Q => ∃ (x : V) (d : Xc) (vs : List Val) (cf : Cf) (b : Bool), xs = [x, vC] ∧ Rep X.K cf x (.exc d vs) ∧ Same cf.F H ∧ C ∈ d.all ∧ b = d.anc.contains C ∧ Q (.bl b) H) := by
    intro pins s σ H xs us Q I r h
    obtain ⟨x, d, vs, cf, b, rfl, rx, hF, hC, rfl, q⟩ := h
    obtain ⟨u1, u2, rfl, r1, r2⟩ := vals2 r
    have e2 := hv.eq r2
    subst e2
    cases rx with
    | @exc ad dd _ _ us fvs p1 p2 p3 p4 T =>
      obtain rfl : u1 = Value.ref ad := r1
      obtain ⟨⟨oe, ws, ho, hcl, hd, hdat⟩, _, _⟩ := I.hok ad _ (hF _ _ p1)
      have hx : ObjOk X.prog X.w H s.heap dd (.xd fvs) := I.hok dd _ (hF _ _ p2)
      obtain ⟨mA, hns, hr⟩ := hx
      obtain ⟨od, ho2, hl⟩ := lookIn_ns hns
      have J : PySem.W.InstAt s.heap ad oe (He.ga X.K d.name) (some od) := ⟨ho, hcl, by unfold PySem.W.notCls; rw [hdat] <;> rfl, by rw [hd]; exact ho2⟩
      obtain ⟨k1, k2, k3, k4, k5⟩ := T.kx
      exact PySem.W.kia_one (PySem.W.kitx_exc k1 T.ga T.gg T.exC k2 k3 k4 k5) I.kIn J (T.kit C hC) (fun z => nomatch z) fun tk => ⟨.bl _, H, I.tok tk, rfl, q⟩
  refine (pe_callB call hg hm (by decide +kernel) (pa_cons ha (pa_cons hc pa_nil rfl) (nst_eq hn)) (by decide) (by decide) (nst_eq hn) rfl).imp fun σ H Q ⟨cf, l, st, hH, hS, q⟩ => ?_
  refine ⟨cf, l, st, hH, hS, q.bind.mono fun c1 H1 v st1 e1 h1 q1 x rx => ?_⟩
  unfold isxEv at q1
  split at q1
  · rename_i b eb
    split at eb
    · rename_i d vs
      split at eb
      · rename_i hC
        cases eb
        exact ⟨x, d, vs, c1, _, rfl, rx, h1.sub, by simpa using hC, rfl, q1.here h1 _ (.bl _)⟩
      · cases eb
    · cases eb
  · exact q1.elim
theorem CkE.knw {k : Ck} {X : Cx} {W : WX} {c : Cn} {lv : Nat} (C : CkE k X W c lv) {y : Str} (h : k.knows y = true) : X.mg y = some (xcls X.K y) ∨ (X.mg y = none ∧ bootBuiltins y = some (xcls X.K y)) := by
  unfold Ck.knows at h
  obtain ⟨d, hd, hy⟩ := List.any_eq_true.mp h
  exact (C.xcs d hd).nm y (by simpa using hy)
end
end Pv

set_option Elab.async false
set_option linter.all false
set_option maxRecDepth 100000
set_option maxHeartbeats 4000000
namespace Pv
open PySem PySem.Spec PyProof.Rows L2 RZ
/-! ### instances, dicts -/
section
variable {K : PySem.W.Frag} {c : Cf} {H : Hp} {st : Sto}
/-- lists of pairs: the same firsts, the seconds stand for one another -/
def FR {κ : Type} (K : PySem.W.Frag) (c : Cf) (P : List (κ × V)) (L : List (κ × Val)) : Prop := P.map (·.1) = L.map (·.1) ∧ Reps K c (P.map (·.2)) (L.map (·.2))
theorem FR.nil {κ : Type} : FR (κ := κ) K c [] [] := ⟨rfl, .nil⟩
theorem FR.cons {κ : Type} {p : κ × V} {q : κ × Val} {P : List (κ × V)} {L : List (κ × Val)} (e : p.1 = q.1) (r : Rep K c p.2 q.2) (t : FR K c P L) : FR K c (p :: P) (q :: L) :=
  ⟨by rw [List.map_cons, List.map_cons, e, t.1], by rw [List.map_cons, List.map_cons]; exact .cons r t.2⟩
theorem FR.cases {κ : Type} {P : List (κ × V)} {q : κ × Val} {L : List (κ × Val)} (h : FR K c P (q :: L)) : ∃ p P', P = p :: P' ∧ p.1 = q.1 ∧ Rep K c p.2 q.2 ∧ FR K c P' L := by
  obtain ⟨h1, h2⟩ := h
  cases P with
  | nil => simp at h1
  | cons p P' =>
    rw [List.map_cons, List.map_cons] at h1 h2
    cases h2 with
    | cons r t =>
      injection h1 with e1 e2
      exact ⟨p, P', rfl, e1, r, e2, t⟩
theorem FR.nil_eq {κ : Type} {P : List (κ × V)} (h : FR K c P ([] : List (κ × Val))) : P = [] := by
  have := h.1
  simpa using this
theorem FR.len {κ : Type} {P : List (κ × V)} {L : List (κ × Val)} (h : FR K c P L) : P.length = L.length := by
  have := congrArg List.length h.1
  simpa using this
theorem FR.lookup {f : Str} : ∀ {L : List (Str × Val)} {P : List (Str × V)}, FR K c P L → (P.lookup f = none ∧ L.lookup f = none) ∨ ∃ u v, P.lookup f = some u ∧ L.lookup f = some v ∧ Rep K c u v
  | [], P, h => by
    rw [h.nil_eq]
    exact .inl ⟨rfl, rfl⟩
  | q :: L, P, h => by
    obtain ⟨p, P', rfl, e, r, t⟩ := h.cases
    obtain ⟨p1, p2⟩ := p
    obtain ⟨q1, q2⟩ := q
    have e : p1 = q1 := e
    subst e
    rw [List.lookup_cons, List.lookup_cons]
    cases f == p1 with
    | true => exact .inr ⟨_, _, rfl, rfl, r⟩
    | false => exact t.lookup
theorem FR.put {f : Str} {y : V} {z : Val} (r : Rep K c y z) : ∀ {L : List (Str × Val)} {P : List (Str × V)}, FR K c P L → FR K c (putF f y P) (putV f z L)
  | [], P, h => by
    rw [h.nil_eq]
    exact .cons rfl r .nil
  | q :: L, P, h => by
    obtain ⟨p, P', rfl, e, r', t⟩ := h.cases
    obtain ⟨p1, p2⟩ := p
    obtain ⟨q1, q2⟩ := q
    have e : p1 = q1 := e
    subst e
    unfold putF putV
    split
    · exact .cons rfl r t
    · exact .cons rfl r' (FR.put r t)
theorem FR.val {k : List L2.Key} : ∀ {L : List (List L2.Key × Val)} {P : List (List L2.Key × V)}, FR K c P L → (valV P k = none ∧ dval L k = none) ∨ ∃ u v, valV P k = some u ∧ dval L k = some v ∧ Rep K c u v
  | [], P, h => by
    rw [h.nil_eq]
    exact .inl ⟨rfl, rfl⟩
  | q :: L, P, h => by
    obtain ⟨p, P', rfl, e, r, t⟩ := h.cases
    by_cases hk : p.1 = k
    · refine .inr ⟨p.2, q.2, valV_pos hk, ?_, r⟩
      unfold dval
      rw [List.find?_cons, decide_eq_true (e.symm.trans hk)]
      rfl
    · have hq : dval (q :: L) k = dval L k := by
        unfold dval
        rw [List.find?_cons, decide_eq_false (fun z => hk (e.trans z))]
      rw [valV_neg hk, hq]
      exact t.val
theorem FR.any {k : List L2.Key} : ∀ {L : List (List L2.Key × Val)} {P : List (List L2.Key × V)}, FR K c P L → (P.any fun kv => decide (kv.1 = k)) = (L.any fun kv => decide (kv.1 = k))
  | [], P, h => by rw [h.nil_eq]; rfl
  | q :: L, P, h => by
    obtain ⟨p, P', rfl, e, r, t⟩ := h.cases
    rw [List.any_cons, List.any_cons, e, t.any]
theorem FR.repl {k : List L2.Key} {y : V} {z : Val} (r : Rep K c y z) : ∀ {L : List (List L2.Key × Val)} {P : List (List L2.Key × V)}, FR K c P L →
    FR K c (P.map fun kv => if kv.1 = k then (kv.1, y) else kv) (L.map fun kv => if kv.1 = k then (kv.1, z) else kv)
  | [], P, h => by rw [h.nil_eq]; exact .nil
  | q :: L, P, h => by
    obtain ⟨p, P', rfl, e, r', t⟩ := h.cases
    rw [List.map_cons, List.map_cons]
    refine .cons ?_ ?_ (FR.repl r t)
    · rw [e]
      split
      · rfl
      · exact e
    · rw [e]
      split
      · exact r
      · exact r'
theorem FR.snoc {κ : Type} {p : κ × V} {q : κ × Val} (e : p.1 = q.1) (r : Rep K c p.2 q.2) : ∀ {L : List (κ × Val)} {P : List (κ × V)}, FR K c P L → FR K c (P ++ [p]) (L ++ [q])
  | [], P, h => by rw [h.nil_eq]; exact .cons e r .nil
  | q' :: L, P, h => by
    obtain ⟨p', P', rfl, e', r', t⟩ := h.cases
    exact .cons e' r' (FR.snoc e r t)
theorem FR.dput {k : List L2.Key} {y : V} {z : Val} (r : Rep K c y z) {L : List (List L2.Key × Val)} {P : List (List L2.Key × V)} (h : FR K c P L) : FR K c (L2.putK P k y) (dput L k z) := by
  unfold L2.putK Pv.dput
  rw [h.any]
  split
  · exact FR.repl r h
  · exact FR.snoc rfl r h
theorem reps_keys : ∀ {l : List Val} {vs : List V} {ks : List L2.Key}, Reps K c vs l → keyI l = some ks → vs = ks.map kV
  | [], _, ks, .nil, e => by cases e; rfl
  | v :: l, _, ks, .cons r t, e => by
    cases v with
    | int i =>
      have e : (keyI l).map (Sum.inl i :: ·) = some ks := e
      cases q : keyI l with
      | none => rw [q] at e; cases e
      | some ks' =>
        rw [q] at e
        cases e
        cases r
        rw [reps_keys t q]
        rfl
    | str z =>
      have e : (keyI l).map (Sum.inr z :: ·) = some ks := e
      cases q : keyI l with
      | none => rw [q] at e; cases e
      | some ks' =>
        rw [q] at e
        cases e
        cases r
        rw [reps_keys t q]
        rfl
    | _ => cases e
theorem key_V {v : Val} {x : V} {ks : List L2.Key} (r : Rep K c x v) (e : keyOf v = some ks) : ∃ b, x = .ref b ∧ c.F b = some (.tup (ks.map kV)) := by
  cases r with
  | tup h1 h2 =>
    have := reps_keys h2 e
    subst this
    exact ⟨_, rfl, h1⟩
  | _ => cases e
theorem RelH.insAt (h : RelH K c H st) {x : V} {n : Nat} {d : Kc} {fs : List (Str × Val)} (r : Rep K c x (.ref n)) (e : st[n]? = some (.ins d fs)) :
    ∃ a dx vfs, x = .ref a ∧ c.φ[n]? = some a ∧ H a = some (.ins (He.ga K d.name) dx vfs) ∧ KcOk K d ∧ FR K c vfs fs := by
  cases r with
  | ref h1 =>
    obtain ⟨a', u, q1, q2, q3, q4⟩ := h.obo n _ e rfl
    obtain ⟨dx, vfs, rfl, k, e1, e2⟩ := q4.ins
    have z := Option.some.inj (q1.symm.trans h1)
    subst z
    exact ⟨_, dx, vfs, rfl, q1, q3, k, e1, e2⟩
theorem dicOf_eq {v : Val} {n : Nat} {l : List (List L2.Key × Val)} (e : dicOf st v = some (n, l)) : v = .ref n ∧ st[n]? = some (.dic l) := by
  unfold dicOf at e
  split at e
  · split at e
    · rename_i q
      cases e
      exact ⟨rfl, q⟩
    · cases e
  · cases e
theorem RelH.dicAt (h : RelH K c H st) {x : V} {v : Val} {n : Nat} {l : List (List L2.Key × Val)} (r : Rep K c x v) (e : dicOf st v = some (n, l)) :
    ∃ a ks, x = .ref a ∧ c.φ[n]? = some a ∧ H a = some (.dT ks) ∧ FR K c ks l ∧ st[n]? = some (.dic l) := by
  obtain ⟨rfl, q⟩ := dicOf_eq e
  cases r with
  | ref h1 =>
    obtain ⟨a', u, q1, q2, q3, q4⟩ := h.obo n _ q rfl
    obtain ⟨ks, rfl, e1, e2⟩ := q4.dic
    have z := Option.some.inj (q1.symm.trans h1)
    subst z
    exact ⟨_, ks, rfl, q1, q3, ⟨e1, e2⟩, q⟩
theorem setF_ok (h : RelH K c H st) {x : V} {v z : Val} {f : Str} {st' : Sto} (r : Rep K c x v) (e : setFEv f v z st = some st') :
    ∃ a dx d vfs, x = .ref a ∧ H a = some (.ins (He.ga K d.name) dx vfs) ∧ KcOk K d ∧ f ∈ d.fs ∧ vfs.length < 1000 ∧ ∀ y, Rep K c y z → Ext c H c (upd H a (.ins (He.ga K d.name) dx (putF f y vfs))) ∧ RelH K c (upd H a (.ins (He.ga K d.name) dx (putF f y vfs))) st' := by
  unfold setFEv at e
  split at e
  · split at e
    · rename_i n d fs en
      split at e
      · rename_i hc
        cases e
        obtain ⟨a, dx, vfs, rfl, hφ, ea, ko, fr⟩ := h.insAt r en
        refine ⟨a, dx, d, vfs, rfl, ea, ko, by simpa using hc.1, by rw [fr.len]; exact hc.2, fun y ry => ?_⟩
        have t := FR.put (f := f) ry fr
        exact h.putO en rfl hφ (u := .ins (He.ga K d.name) dx (putF f y vfs)) (o := .ins d (putV f z fs)) ⟨rfl, ko, t.1, t.2⟩
      · cases e
    · cases e
  · cases e
/-- .. of the class that is told -/
theorem setF_okC (h : RelH K c H st) {x : V} {v z : Val} {f : Str} {st' : Sto} {d : Kc} (r : Rep K c x v) (e : setFEv f v z st = some st') (ed : clsOf v st = some d) :
    ∃ a dx vfs, x = .ref a ∧ H a = some (.ins (He.ga K d.name) dx vfs) ∧ vfs.length < 1000 ∧ ∀ y, Rep K c y z → Ext c H c (upd H a (.ins (He.ga K d.name) dx (putF f y vfs))) ∧ RelH K c (upd H a (.ins (He.ga K d.name) dx (putF f y vfs))) st' := by
  unfold setFEv at e
  split at e
  · split at e
    · rename_i n d' fs en
      split at e
      · rename_i hc
        cases e
        have z : d' = d := by
          unfold clsOf at ed
          simp only [en] at ed
          exact Option.some.inj ed
        subst z
        obtain ⟨a, dx, vfs, rfl, hφ, ea, ko, fr⟩ := h.insAt r en
        refine ⟨a, dx, vfs, rfl, ea, by rw [fr.len]; exact hc.2, fun y ry => ?_⟩
        have t := FR.put (f := f) ry fr
        exact h.putO en rfl hφ (u := .ins (He.ga K d'.name) dx (putF f y vfs)) (o := .ins d' (putV f z fs)) ⟨rfl, ko, t.1, t.2⟩
      · cases e
    · cases e
  · cases e
end
section
variable {k : Ck} {X : Cx} {W : WX} {c : Cn} {lv : Nat}
theorem pe_fldG {a : Expr} {f : Str} {pos : Pos} {A : Env → Sto → R Val} (hn : noSuper a = true) (ha : PE X a (tE X.K W A)) : PE X (.Attribute a f pos) (tE X.K W fun l st => (A l st).bind fun x st => fldEv f x st) := by
  refine (pe_fld ha (base_eq hn)).imp fun σ H Q ⟨cf, l, st, hH, hS, q⟩ => ?_
  refine ⟨cf, l, st, hH, hS, q.bind.mono fun c1 H1 v st1 e1 h1 q1 x rx => ?_⟩
  unfold fldEv at q1
  split at q1
  · split at q1
    · rename_i n d fs en
      split at q1
      · rename_i v' ev
        split at q1
        · rename_i hc
          obtain ⟨a, dx, vfs, rfl, _, ea, ko, r⟩ := h1.insAt rx en
          rcases r.lookup (f := f) with ⟨_, z⟩ | ⟨u, w, eu, ew, ru⟩
          · rw [ev] at z
            cases z
          · rw [ev] at ew
            cases ew
            exact ⟨a, _, dx, vfs, u, rfl, ea, ko.cls, ko.noa f (by simpa using hc), eu, q1.here h1 _ ru⟩
        · exact q1.elim
      · exact q1.elim
    · exact q1.elim
  · exact q1.elim
theorem pe_dnwG {pos : Pos} : PE X (.Dict [] [] pos) (tE X.K W fun _ st => .ok (.ref st.length) (st ++ [.dic []])) := by
  refine pe_dnewT.imp fun σ H Q ⟨cf, l, st, hH, hS, q⟩ => fun p n => ?_
  obtain ⟨e, h⟩ := hH.pushO n (u := .dT []) (o := .dic []) ⟨rfl, .nil⟩
  exact q _ _ e h _ (.ref (by show (cf.φ ++ [p])[st.length]? = some p; rw [← hH.len]; simp))
theorem pe_dgtG {o a b : Expr} {apos pos : Pos} {A B D : Env → Sto → R Val} (hu : X.A.units + 64 < cLine) (hs : noSuper o = true) (hline : (apos.endLine == pos.line) = true) (hna : nst a = true) (hnb : nst b = true)
    (ho : PE X o (tE X.K W A)) (ha : PE X a (tE X.K W B)) (hb : PE X b (tE X.K W D)) : PE X (.Call (.Attribute o "get" apos) [a, b] [] pos) (tE X.K W fun l st => (A l st).bind fun x st => match dicOf st x with
    | none => .stuck
    | some _ => (B l st).bind fun y st => (D l st).bind fun z st => dgtEv x y z st) := by
  have m : M2 X o "get" apos a b pos := ⟨base_eq hs, by rw [nst_eq hna, nst_eq hnb]; rfl, hline, by rw [nst_eq hna, nst_eq hnb]; rfl⟩
  refine (pe_dget2 (by omega) ho ha hb m).imp fun σ H Q ⟨cf, l, st, hH, hS, q⟩ => ?_
  refine ⟨cf, l, st, hH, hS, q.bind.mono fun c1 H1 v st1 e1 h1 q1 x rx => ?_⟩
  split at q1
  · exact q1.elim
  · rename_i P ed
    obtain ⟨n, l'⟩ := P
    obtain ⟨p, ks, rfl, p1, p2, p3, p4⟩ := h1.dicAt rx ed
    refine ⟨p, rfl, .inr ⟨ks, .inl p2⟩, c1, l, st1, h1, hS.mono e1, q1.bind.mono fun c2 H2 w st2 e2 h2 q2 y ry => ⟨c2, l, st2, h2, (hS.mono e1).mono e2, q2.bind.mono fun c3 H3 w3 st3 e3 h3 q3 z rz => ?_⟩⟩
    unfold dgtEv at q3
    split at q3
    · rename_i n' l3 kk ed3 ek
      obtain ⟨p', ks3, e', _, p3', p4', _⟩ := h3.dicAt ((rx.mono e2).mono e3) ed3
      cases e'
      obtain ⟨bb, rfl, eb⟩ := key_V (ry.mono e3) ek
      refine ⟨_, .t p3' (h3.sub _ _ eb), ?_⟩
      rcases p4'.val (k := kk) with ⟨z1, z2⟩ | ⟨u, w, z1, z2, ru⟩
      · rw [z2] at q3
        rw [z1]
        exact q3.here h3 _ rz
      · rw [z2] at q3
        rw [z1]
        exact q3.here h3 _ ru
    · exact q3.elim
theorem dix_run {W : WX} {c : Cf} {H : Hp} {st : Sto} {σ : L2.St} {a y : Val} {x z : V} {Q : V → Hp → Prop} (h3 : RelH X.K c H st) (rx : Rep X.K c x a) (ry : Rep X.K c z y) (q : Run X.K W c σ H (dixEv a y st) fun c' H' v _ => ∀ u, Rep X.K c' u v → Q u H') : ∃ p v, x = .ref p ∧ DGet H p z (some v) ∧ Q v H := by
  unfold dixEv at q
  split at q
  · rename_i n l kk ed ek
    obtain ⟨p, ks, rfl, p1, p2, p3, p4⟩ := h3.dicAt rx ed
    obtain ⟨bb, rfl, eb⟩ := key_V ry ek
    have g := DGet.t (k := kk) p2 (h3.sub _ _ eb)
    rcases p3.val (k := kk) with ⟨z1, z2⟩ | ⟨u, w, z1, z2, ru⟩
    · rw [z2] at q
      exact q.elim
    · rw [z2] at q
      rw [z1] at g
      exact ⟨p, u, rfl, g, q.here h3 _ ru⟩
  · exact q.elim
theorem pe_dixG {o a : Expr} {pos : Pos} {A B : Env → Sto → R Val} (hu : X.A.units + 64 < cLine) (hn : notSl a = true) (ho : PE X o (tE X.K W A)) (ha : PE X a (tE X.K W B)) :
    PE X (.Subscript o a pos) (tE X.K W fun l st => (A l st).bind fun x st => (B l st).bind fun y st => dixEv x y st) := by
  have hp : NoSl a := fun o i => by cases a <;> first | rfl | cases hn
  refine (pe_dget (by omega) ho ha hp).imp fun σ H Q ⟨cf, l, st, hH, hS, q⟩ => ?_
  refine ⟨cf, l, st, hH, hS, q.bind.mono fun c1 H1 v st1 e1 h1 q1 x rx => ⟨c1, l, st1, h1, hS.mono e1, q1.bind.mono fun c2 H2 w st2 e2 h2 q2 y ry => ?_⟩⟩
  exact dix_run h2 (rx.mono e2) ry q2
theorem din_run {W : WX} {c : Cf} {H : Hp} {st : Sto} {σ : L2.St} {a y : Val} {x z : V} {Q : Cf → Hp → Val → Sto → Prop} (h3 : RelH X.K c H st) (rx : Rep X.K c x a) (ry : Rep X.K c z y) (q : Run X.K W c σ H (dinEv y a st) Q) : ∃ p o, x = .ref p ∧ DGet H p z o ∧ Q c H (.bl o.isSome) st := by
  unfold dinEv at q
  split at q
  · rename_i n l kk ed ek
    obtain ⟨p, ks, rfl, p1, p2, p3, p4⟩ := h3.dicAt rx ed
    obtain ⟨bb, rfl, eb⟩ := key_V ry ek
    have g := DGet.t (k := kk) p2 (h3.sub _ _ eb)
    refine ⟨p, _, rfl, g, ?_⟩
    rcases p3.val (k := kk) with ⟨z1, z2⟩ | ⟨u, w, z1, z2, ru⟩
    · rw [z2] at q
      rw [z1]
      exact q.here h3
    · rw [z2] at q
      rw [z1]
      exact q.here h3
  · exact q.elim
theorem pe_dinG {o a : Expr} {pos : Pos} {A B : Env → Sto → R Val} (hu : X.A.units + 64 < cLine) (hm : behindInMarks .In o = false) (ha : PE X a (tE X.K W A)) (ho : PE X o (tE X.K W B)) :
    PE X (.Compare a [.In] [o] pos) (tE X.K W fun l st => (A l st).bind fun y st => (B l st).bind fun x st => dinEv y x st) := by
  refine (pe_cmp (pc_din (by omega) ha ho) hm).imp fun σ H Q ⟨cf, l, st, hH, hS, q⟩ => ?_
  refine ⟨cf, l, st, hH, hS, q.bind.mono fun c1 H1 v st1 e1 h1 q1 y ry => ⟨c1, l, st1, h1, hS.mono e1, q1.bind.mono fun c2 H2 w st2 e2 h2 q2 x rx => ?_⟩⟩
  obtain ⟨p, ov, e, g, q3⟩ := din_run h2 rx (ry.mono e2) q2
  exact ⟨p, ov, e, g, q3 _ (.bl _)⟩
theorem pt_dinG {o a : Expr} {pos : Pos} {A B : Env → Sto → R Val} (hu : X.A.units + 64 < cLine) (hm : behindInMarks .In o = false) (ha : PE X a (tE X.K W A)) (ho : PE X o (tE X.K W B)) :
    PT X (.Compare a [.In] [o] pos) (tT X.K W fun l st => (A l st).bind fun y st => (B l st).bind fun x st => dinEv y x st) := by
  refine (pt_cmp (pc_din (by omega) ha ho) hm).imp fun σ H Q ⟨cf, l, st, hH, hS, q⟩ => ?_
  refine ⟨cf, l, st, hH, hS, q.bind.mono fun c1 H1 v st1 e1 h1 q1 y ry => ⟨c1, l, st1, h1, hS.mono e1, q1.bind.mono fun c2 H2 w st2 e2 h2 q2 x rx => ?_⟩⟩
  obtain ⟨p, ov, e, g, b, eb, q3⟩ := din_run h2 rx (ry.mono e2) q2
  cases eb
  exact ⟨p, ov, e, g, _, rfl, q3⟩
end
end Pv

set_option Elab.async false
set_option linter.all false
set_option maxRecDepth 100000
set_option maxHeartbeats 4000000
namespace Pv
open PySem PySem.Spec PyProof.Rows L2 RZ
/-! ### calls of methods, of classes -/
section
variable {k : Ck} {X : Cx} {W : WX} {c : Cn} {lv : Nat}
/-- how a call's values are bound: np by position, the rest by keywords -/
theorem binds_of {d : Fd} {fd : FuncData} {ks : List Keyword} {is : List Nat} {np : Nat} (nd : d.N.Nodup) (hle : d.ps ≤ d.N.length)
    (hbind : ∀ (s : Shared) (us vs : List Value) (l : List (Str × Value)), us.length ≤ (d.N.take d.ps).length → (∀ p ∈ l, p.1 ∈ d.N.take d.ps) → (l.map (·.1)).Nodup → (∀ p ∈ l, ((d.N.take d.ps).zip us).lookup p.1 = none) → vs.length = (d.N.take d.ps).length →
      (∀ p ∈ (d.N.take d.ps).zip vs, ((d.N.take d.ps).zip us ++ l).lookup p.1 = some p.2) → BindsTo s fd ⟨us, l⟩ ((d.N.take d.ps).zip vs))
    (hks : ∀ kw ∈ ks, kw.arg.isSome = true) (hnm : Named d.N is (ks.filterMap (·.arg))) (hin : ∀ i ∈ is, np ≤ i ∧ i < d.ps) (hnd : is.Nodup) (hcov : ∀ i, i < d.ps → i < np ∨ i ∈ is) (hlen : np + ks.length = d.ps) :
    is.length = ks.length ∧ (ks.filterMap (·.arg)).length = ks.length ∧ ∀ (s : Shared) (us ws : List Value), us.length = np → ws.length = ks.length → BindsTo s fd ⟨us, (ks.filterMap (·.arg)).zip ws⟩ ((d.N.take d.ps).zip (putG .none is us ws)) := by
  have hpl : (d.N.take d.ps).length = d.ps := by rw [List.length_take]; omega
  have ndp : (d.N.take d.ps).Nodup := List.Sublist.nodup (List.take_sublist _ _) nd
  have hkl : (ks.filterMap (·.arg)).length = ks.length := by
    clear hnm hin hcov hlen
    induction ks with
    | nil => rfl
    | cons kw ks ih =>
      have h1 := hks kw List.mem_cons_self
      cases e : kw.arg with
      | none => rw [e] at h1; cases h1
      | some y =>
        rw [List.filterMap_cons, e]
        show (ks.filterMap (·.arg)).length + 1 = ks.length + 1
        rw [ih fun kw m => hks kw (List.mem_cons_of_mem _ m)]
  have hil : is.length = ks.length := by rw [named_len hnm, hkl]
  have inTake : ∀ (i : Nat) (x : Str), i < d.ps → d.N[i]? = some x → (d.N.take d.ps)[i]? = some x := fun i x h e => by rw [List.getElem?_take, if_pos h]; exact e
  refine ⟨hil, hkl, fun s us ws e1 e2 => ?_⟩
  refine hbind s us _ _ (by omega) (fun q hq => ?_) ?_ (fun q hq => ?_) ?_ (fun q hq => ?_)
  · have m : q.1 ∈ ks.filterMap (·.arg) := (List.of_mem_zip hq).1
    obtain ⟨i, m1, e⟩ := named_mem hnm m
    exact List.mem_of_getElem? (inTake i q.1 (hin i m1).2 e)
  · have e : ((ks.filterMap (·.arg)).zip ws).map (·.1) = ks.filterMap (·.arg) := List.map_fst_zip (by omega)
    rw [e]
    exact named_nodup nd hnm hnd
  · have m : q.1 ∈ ks.filterMap (·.arg) := (List.of_mem_zip hq).1
    obtain ⟨i, m1, e⟩ := named_mem hnm m
    rw [zip_lookup ndp (inTake i q.1 (hin i m1).2 e)]
    rw [List.getElem?_eq_none_iff]
    have := (hin i m1).1
    omega
  · rw [putG_len (by omega), hpl]
    omega
  · obtain ⟨j, hj, ej⟩ := List.mem_iff_getElem.mp hq
    rw [List.length_zip, hpl, putG_len (by omega)] at hj
    rw [List.getElem_zip] at ej
    have ex : (d.N.take d.ps)[j]? = some q.1 := by
      rw [← ej]
      exact List.getElem?_eq_getElem _
    have ev : (putG Value.none is us ws)[j]? = some q.2 := by
      rw [← ej]
      exact List.getElem?_eq_getElem _
    rw [putG_get (by omega) (by omega)] at ev
    have exN : d.N[j]? = some q.1 := by
      rw [List.getElem?_take] at ex
      split at ex
      · exact ex
      · cases ex
    rw [List.lookup_append, zip_lookup ndp ex, named_lookup nd exN hnm]
    rcases hcov j (by omega) with h | h
    · obtain ⟨u, eu⟩ := get_some (l := us) (i := j) (by omega)
      rw [eu] at ev ⊢
      exact ev
    · have nu : us[j]? = none := by
        rw [List.getElem?_eq_none_iff]
        have := (hin j h).1
        omega
      obtain ⟨w, ew⟩ := zip_lookup_some (ws := ws) (by omega) h
      rw [nu, ew] at ev ⊢
      exact ev
theorem lenRun {C : Env → Sto → R (List Val)} {n : Nat} {cf : Cf} {σ : L2.St} {H : Hp} {l : Env} {st : Sto} {Q : Cf → Hp → List Val → Sto → Prop} (hC : LenIs C n) (q : Run X.K W cf σ H (C l st) Q) : Run X.K W cf σ H (C l st) (fun c' H' vs st' => vs.length = n ∧ Q c' H' vs st') := by
  cases e : C l st with
  | ok vs st' =>
    rw [e] at q
    exact fun c' H' e1 h1 => ⟨hC _ _ _ _ e, q c' H' e1 h1⟩
  | exn x st' => rw [e] at q; exact q
  | stuck => rw [e] at q; exact q
/-- the keywords' values, then what is done with them -/
theorem kws_run {ks : List Keyword} {B : Env → Sto → R (List Val)} {pos : Pos} (hk : PK X ks (tA X.K W B)) (hB : LenIs B ks.length) {f : List Val → Sto → R Val} {pins : List (Addr × Obj)} {σ : L2.St} {H1 : Hp} {s1 : Shared} {l : Env} {c1 : Cf} {st1 : Sto} {Qv : Cf → Hp → Val → Sto → Prop} {G : List Value → Shared → Prop}
    (I1 : L2.Inv X pins σ H1 s1) (h1 : RelH X.K c1 H1 st1) (hS : RelS X.K c1 σ l) (q1 : Run X.K W c1 σ H1 ((B l st1).bind f) Qv)
    (go : ∀ (ws : List Value) (s2 : Shared) (zs : List V) (H2 : Hp) (c2 : Cf) (vs : List Val) (st2 : Sto), L2.Inv X pins σ H2 s2 → Vals zs ws → vs.length = ks.length → ws.length = ks.length → Reps X.K c2 zs vs → Ext c1 H1 c2 H2 → RelH X.K c2 H2 st2 → Run X.K W c2 σ H2 (f vs st2) Qv → G ws s2) :
    wpAny (model X.prog X.w) X.A (evalAll ((backToKw pos (keywordEach ks X.env)).map (·.2))) (fun ws s2 => X.K.In s2.heap ∧ G ws s2) X.xe s1 := by
  refine thn (hk.run pos pins s1 σ H1 (fun zs H2 => ∃ (c2 : Cf) (ws : List Val) (st2 : Sto), ws.length = ks.length ∧ Reps X.K c2 zs ws ∧ Ext c1 H1 c2 H2 ∧ RelH X.K c2 H2 st2 ∧ Run X.K W c2 σ H2 (f ws st2) Qv) I1 ⟨c1, l, st1, h1, hS, (lenRun hB q1.bind).mono fun c2 H2 ws st2 e2 h2 q2 zs rz => ⟨c2, ws, st2, q2.1, rz, e2, h2, q2.2⟩⟩) fun ws' s2 ⟨zs, H2, I2, r2, c2, ws, st2, hl2, rz, e2, h2, q2⟩ => ⟨I2.kIn, ?_⟩
  exact go ws' s2 zs H2 c2 ws st2 I2 r2 hl2 (by rw [← r2.length, rz.length]; exact hl2) rz e2 h2 q2
theorem mth_tree {o : Expr} {m : Str} {apos pos : Pos} {es : List Expr} {ks : List Keyword} {env : PySem.Env} (hs : noSuper o = true) (hline : (apos.endLine == pos.line) = true) (hn : es.all nst = true) (hk : (backToKw pos (keywordEach ks env)).all (·.1.isSome) = true) (hc : es.length + ks.length < 28) :
    eval (.Call (.Attribute o m apos) es ks pos) env = (do
      let ov ← eval o env
      standAt apos.atName
      let (f, first) ← holding [ov] (getMethod ov m (do return (← importBound o env).getD true))
      callWith pos f first (backTo pos (starEach es env)) (backToKw pos (keywordEach ks env))) := by
  refine mcall_of (base_eq hs) fun ov => ?_
  have h1 : (backTo pos (starEach es env)).all (!·.1) = true := by
    have := stars_eq (env := env) (pos := pos) hn
    rw [List.all_eq_not_any_not]
    simpa using this
  have hform : methodCallForm (es.length + ks.length) (backTo pos (starEach es env)) (backToKw pos (keywordEach ks env)) = true := by
    unfold methodCallForm
    rw [h1, hk]
    simp only [Bool.true_and, decide_eq_true_eq]
    split <;> omega
  have hpos : methodCallPos true o env apos pos = pure pos := by unfold methodCallPos; simp [hline]
  unfold methodCall
  rw [hform, hpos]
  simp [calleeOf]
/-- o.m(es, ks) -/
theorem pe_mthG {C m : Str} {i : Nat} {d : Fd} {o : Expr} {es : List Expr} {ks : List Keyword} {is : List Nat} {apos pos : Pos} {call : CallT} {O : Env → Sto → R Val} {A : Env → Sto → R (List Val)} {B : Env → Sto → R (List Val)} (how : d.own = some C) (hnm0 : d.name = m) (kc : Cls X.K (He.ga X.K C)) (F : FnAt X lv call i d) (hr : Room lv X.A) (gd : X.A.guards = some []) (tk : Takes X W)
    (hs : noSuper o = true) (hline : (apos.endLine == pos.line) = true) (hc28 : es.length + ks.length < 28) (hn : es.all nst = true) (ho : PE X o (tE X.K W O)) (ha : PA X es (tA X.K W A)) (hk : PK X ks (tA X.K W B)) (hks : ∀ kw ∈ ks, kw.arg.isSome = true) (hnm : Named d.N is (ks.filterMap (·.arg))) (hin : ∀ i ∈ is, es.length + 1 ≤ i ∧ i < d.ps) (hnd : is.Nodup) (hcov : ∀ i, i < d.ps → i < es.length + 1 ∨ i ∈ is) (hlen : es.length + ks.length + 1 = d.ps)
    (hA : LenIs A es.length) (hB : LenIs B ks.length) (hA0 : es = [] → ∀ l st, A l st = .ok [] st) :
    PE X (.Call (.Attribute o m apos) es ks pos) (tE X.K W fun l st => (O l st).bind fun x st => if insOf C m x st = true then (A l st).bind fun xs st => (B l st).bind fun zs st => call i (putG .non is (x :: xs) zs) st else .stuck) := by
  subst hnm0
  obtain ⟨⟨f, fd, hm, hkeep, FO, hbind⟩, nd, hle⟩ := F
  unfold AdrOk at hm
  rw [how] at hm
  obtain ⟨_, hm⟩ := hm
  obtain ⟨k1, k2, k3⟩ := ks_all (env := X.env) (pos := pos) hks
  have hpl : (d.N.take d.ps).length = d.ps := by rw [List.length_take]; omega
  obtain ⟨hil, hkl, bind⟩ := binds_of nd hle hbind hks hnm hin hnd hcov (by omega)
  refine ⟨fun pins s σ H Q I ⟨cf, l, st, hH, hS, q⟩ => ?_⟩
  have tree := mth_tree (m := d.name) (env := X.env) hs hline hn k1 hc28
  refine PySem.W.methodCall_KW (thn (ho.run pins s σ H (fun x H1 => ∃ (c1 : Cf) (v : Val) (st1 : Sto), Rep X.K c1 x v ∧ Ext cf H c1 H1 ∧ RelH X.K c1 H1 st1 ∧ Run X.K W c1 σ H1 (if insOf C d.name v st1 = true then (A l st1).bind fun xs st => (B l st).bind fun zs st => call i (putG .non is (v :: xs) zs) st else .stuck) (fun c' H' v _ => ∀ x, Rep X.K c' x v → Q x H')) I
    ⟨cf, l, st, hH, hS, q.bind.mono fun c1 H1 v st1 e1 h1 q1 x rx => ⟨c1, v, st1, rx, e1, h1, q1⟩⟩) fun u s1 ⟨x, H1, I1, rxu, c1, v, st1, rx, e1, h1, q1⟩ => ?_) tree
  split at q1
  rotate_left
  · exact q1.elim
  rename_i hins
  unfold insOf at hins
  split at hins
  rotate_left
  · cases hins
  rename_i n
  split at hins
  rotate_left
  · cases hins
  rename_i dk fs en
  simp only [Bool.and_eq_true, decide_eq_true_eq, Option.isNone_iff_eq_none] at hins
  obtain ⟨eC, lkm⟩ := hins
  obtain ⟨a, dx, vfs, rfl, _, ea, ko, fr⟩ := h1.insAt rx en
  obtain rfl : u = Value.ref a := rxu
  have lkv : vfs.lookup d.name = none := by
    rcases fr.lookup (f := d.name) with ⟨z, _⟩ | ⟨_, _, _, z, _⟩
    · exact z
    · rw [lkm] at z
      cases z
  have ea' : H1 a = some (.ins (He.ga X.K C) dx vfs) := by
    rw [eC]
    exact ea
  refine getmeth_ok I1 ea' kc hm lkv ?_
  have S1 := hS.mono e1
  -- the keywords, then the call
  have behind : ∀ (s2 : Shared) (us : List Value) (xs : List V) (vs : List Val) (c2 : Cf) (H2 : Hp) (st2 : Sto), L2.Inv X pins σ H2 s2 → Vals xs us → vs.length = es.length → Ext c1 H1 c2 H2 → RelH X.K c2 H2 st2 → Reps X.K c2 xs vs →
      Run X.K W c2 σ H2 ((B l st2).bind fun zs st => call i (putG .non is (.ref n :: vs) zs) st) (fun c' H' v _ => ∀ x, Rep X.K c' x v → Q x H') →
      wpAny (model X.prog X.w) X.A (evalAll ((backToKw pos (keywordEach ks X.env)).map (·.2))) (fun ws s3 => X.K.In s3.heap ∧ wpAny (model X.prog X.w) X.A (PySem.call (.ref f) ([.ref a] ++ us) ((ks.filterMap (·.arg)).zip ws)) (EP X pins σ Q) X.xe s3) X.xe s2 := fun s2 us xs vs c2 H2 st2 I2 r2 hvs e2 h2 rx2 q2 => by
    refine kws_run hk hB I2 h2 (S1.mono e2) q2 fun ws s3 zs H3 c3 wvs st3 I3 r3 hl3 hw rz e3 h3 q3 => ?_
    have hu : ([Value.ref a] ++ us).length = es.length + 1 := by
      rw [List.length_append, List.length_singleton, ← r2.length, rx2.length, hvs]
      omega
    have rr : Reps X.K c3 (.ref a :: xs) (.ref n :: vs) := .cons ((rx.mono e2).mono e3) (rx2.mono e3)
    refine run_fnG FO (RoomB.of hr) gd tk (bind s3 ([.ref a] ++ us) ws hu hw) I3 (putG_V (.cons (show RelV (.ref a) (.ref a) from rfl) r2) r3) ⟨?_, c3, putG .non is (.ref n :: vs) wvs, st3, σ, h3, putG_R rr rz, ?_⟩
    · rw [putG_len (by rw [hil, rz.length, hl3]), hpl, List.length_cons, rx2.length, rz.length, hvs, hl3]
      omega
    · cases ec : call i (putG .non is (.ref n :: vs) wvs) st3 with
      | ok v st' => rw [ec] at q3; exact q3
      | stuck => rw [ec] at q3; exact q3
      | exn x st' => rw [ec] at q3; exact q3
  cases es with
  | nil =>
    refine PySem.W.callWith_KW0 (first := [.ref a]) (h₀ := X.base) I.ok.mod.kin hkeep k1 ?_ (by rw [k2]; rfl)
    rw [k3]
    rw [hA0 rfl] at q1
    exact behind s1 [] [] [] c1 H1 st1 I1 .nil rfl Ext.refl h1 .nil q1
  | cons e es =>
    rw [List.all_cons, Bool.and_eq_true] at hn
    refine PySem.W.callWith_KW (first := [.ref a]) (h₀ := X.base) I.ok.mod.kin hkeep k1 (thn (ha.run pos pins s1 σ H1 (fun xs H2 => ∃ (c2 : Cf) (vs : List Val) (st2 : Sto), vs.length = (e :: es).length ∧ Reps X.K c2 xs vs ∧ Ext c1 H1 c2 H2 ∧ RelH X.K c2 H2 st2 ∧ Run X.K W c2 σ H2 ((B l st2).bind fun zs st => call i (putG .non is (.ref n :: vs) zs) st) (fun c' H' v _ => ∀ x, Rep X.K c' x v → Q x H')) I1 ⟨c1, l, st1, h1, S1, (lenRun hA q1.bind).mono fun c2 H2 vs st2 e2 h2 q2 xs rx2 => ⟨c2, vs, st2, q2.1, rx2, e2, h2, q2.2⟩⟩) fun us s2 ⟨xs, H2, I2, r2, c2, vs, st2, hl2, rx2, e2, h2, q2⟩ => ?_) ?_ (nst_eq hn.1)
    · rw [k3]
      exact behind s2 us xs vs c2 H2 st2 I2 r2 hl2 e2 h2 rx2 q2
    · rw [nst_eq hn.1]
      show ((false || (backTo pos (starEach es X.env)).any (·.1)) || _) = false
      rw [stars_eq hn.2, k2]
      rfl
theorem make_guards {A : Around} {C : Addr} {us : List Value} {kw : List (Str × Value)} : (A.under (.builtin "type.__call__" ⟨.ref C :: us, kw⟩)).guards = A.guards := by
  simp [Around.under, Code.guards, Code.isGuard, guardIds, pushGuards]
/-- a new instance, its __init__ -/
theorem run_mkG {C f : Addr} {fd : FuncData} {ps : List Str} {sp : Sp} {pins : List (Addr × Obj)} {σ : L2.St} {H : Hp} {s : Shared} {Q : VK} {us : List Value} {l : List (Str × Value)} {g : Addr → List Value} {gv : Addr → List V} {hb0 : Bool} (M : Mk X.K C f) (F : FnOkG X.prog X.w X.K X.mg X.base (L2.CX X.prog X.w) hb0 lv f fd ps sp) (hr : Room (lv + 1) X.A) (gd : X.A.guards = some []) (tk : Takes X W)
    (I : L2.Inv X pins σ H s) (hb : ∀ (s : Shared) (p : Addr), BindsTo s fd ⟨.ref p :: us, l⟩ (ps.zip (g p))) (r : ∀ p, Vals (gv p) (g p))
    (h : ∀ x dx, H x = none → H dx = none → dx ≠ x → sp (gv x) (upd (upd H dx (.own x)) x (.ins C dx [])) (fun v H2 => v = .non ∧ Q (.ref x) H2) (WE W σ)) :
    wpAny (model X.prog X.w) X.A (PySem.call (.ref C) us l) (EP X pins σ Q) X.xe s := by
  have hq := h (s.heap.objs.size + 1) s.heap.objs.size (I.hok.fresh (Nat.le_succ _)) (I.hok.fresh (Nat.le_refl _)) (Nat.ne_of_lt (Nat.lt_succ_self _))
  have I2 := Inv.made (C := C) I
  refine wpAny_call (make_map (f := f) I.kIn M.makes M.init (beq_iff_eq.mp M.fn) (codeAny_mono (F.go _ X.stack _ _ ⟨Value.ref (s.heap.objs.size + 1) :: us, l⟩ (g (s.heap.objs.size + 1)) (gv (s.heap.objs.size + 1)) _ (WE W σ) (RoomB.of (hr.make C us l)) (by rw [make_guards]; exact gd)
    (I2.env0.make C us l) (hb _ _) (r _) hq) fun r s' hq' => ?_))
  cases r with
  | error e => exact passAt tk σ pins _ _ e s' I2 hq'
  | ok fl =>
    cases fl with
    | ret u =>
      obtain ⟨v, H', I3, rv, ev, q3⟩ := I2.after hq'
      subst ev
      exact ⟨rv, ⟨V.ref (s.heap.objs.size + 1), H', I3, rfl, q3⟩⟩
    | next => exact False.elim hq'
    | brk => exact False.elim hq'
    | cont => exact False.elim hq'
/-- C(es, ks) -/
theorem pe_makG {kc : Kc} {i : Nat} {d : Fd} {es : List Expr} {ks : List Keyword} {is : List Nat} {p pos : Pos} {call : CallT} {A : Env → Sto → R (List Val)} {B : Env → Sto → R (List Val)} (how : d.own = some kc.name) (hnm0 : d.name = "__init__") (ko : KcOk X.K kc) (hmc : X.mg kc.name = some (.ref (He.ga X.K kc.name))) (hg : Gl X kc.name) (hok : okName kc.name = true) (F : FnAt X lv call i d) (hr : Room (lv + 1) X.A) (gd : X.A.guards = some []) (tk : Takes X W)
    (hn : es.all nst = true) (ha : PA X es (tA X.K W A)) (hk : PK X ks (tA X.K W B)) (hks : ∀ kw ∈ ks, kw.arg.isSome = true) (hnm : Named d.N is (ks.filterMap (·.arg))) (hin : ∀ i ∈ is, es.length + 1 ≤ i ∧ i < d.ps) (hnd : is.Nodup) (hcov : ∀ i, i < d.ps → i < es.length + 1 ∨ i ∈ is) (hlen : es.length + ks.length + 1 = d.ps)
    (hA : LenIs A es.length) (hB : LenIs B ks.length) (hA0 : es = [] → ∀ l st, A l st = .ok [] st) :
    PE X (.Call (.Name kc.name p) es ks pos) (tE X.K W fun l st => (A l st).bind fun xs st => (B l st).bind fun zs st => (call i (putG .non is (.ref st.length :: xs) zs) (st ++ [.ins kc []])).bind fun v st' => madeEv (.ref st.length) v st') := by
  obtain ⟨⟨f, fd, hm, hkeep, FO, hbind⟩, nd, hle⟩ := F
  unfold AdrOk at hm
  rw [how] at hm
  obtain ⟨hf, hm⟩ := hm
  rw [hnm0] at hf
  subst hf
  obtain ⟨d1, d2, d3⟩ := ok_dbg hok
  obtain ⟨k1, k2, k3⟩ := ks_all (env := X.env) (pos := pos) hks
  have hpl : (d.N.take d.ps).length = d.ps := by rw [List.length_take]; omega
  obtain ⟨hil, hkl, bind⟩ := binds_of nd hle hbind hks hnm hin hnd hcov (by omega)
  refine ⟨fun pins s σ H Q I ⟨cf, l, st, hH, hS, q⟩ => ?_⟩
  refine wpAny_Call_Name_kw (ld_glob I hg hmc ?_ d1)
  -- the keywords, then the call
  have behind : ∀ (s2 : Shared) (us : List Value) (xs : List V) (vs : List Val) (c2 : Cf) (H2 : Hp) (st2 : Sto), L2.Inv X pins σ H2 s2 → Vals xs us → vs.length = es.length → Ext cf H c2 H2 → RelH X.K c2 H2 st2 → Reps X.K c2 xs vs →
      Run X.K W c2 σ H2 ((B l st2).bind fun zs st => (call i (putG .non is (.ref st.length :: vs) zs) (st ++ [.ins kc []])).bind fun v st' => madeEv (.ref st.length) v st') (fun c' H' v _ => ∀ x, Rep X.K c' x v → Q x H') →
      wpAny (model X.prog X.w) X.A (evalAll ((backToKw pos (keywordEach ks X.env)).map (·.2))) (fun ws s3 => X.K.In s3.heap ∧ wpAny (model X.prog X.w) X.A (PySem.call (.ref (He.ga X.K kc.name)) us ((ks.filterMap (·.arg)).zip ws)) (EP X pins σ Q) X.xe s3) X.xe s2 := fun s2 us xs vs c2 H2 st2 I2 r2 hvs e2 h2 rx2 q2 => by
    refine kws_run hk hB I2 h2 (hS.mono e2) q2 fun ws s3 zs H3 c3 wvs st3 I3 r3 hl3 hw rz e3 h3 q3 => ?_
    refine run_mkG (g := fun a => putG .none is (.ref a :: us) ws) (gv := fun a => putG .non is (.ref a :: xs) zs) ko.mkr FO hr gd tk I3 (fun s a => bind s (.ref a :: us) ws (by rw [List.length_cons, ← r2.length, rx2.length, hvs]) hw) (fun a => putG_V (.cons (show RelV (.ref a) (.ref a) from rfl) r2) r3) fun x dx hx hdx hne => ?_
    obtain ⟨e4, h4⟩ := h3.new hdx (.own x)
    have hx4 : upd H3 dx (.own x) x = none := by rw [upd_ne (fun z => hne z.symm)]; exact hx
    obtain ⟨e5, h5⟩ := h4.pushO hx4 (u := .ins (He.ga X.K kc.name) dx []) (o := .ins kc []) ⟨rfl, ko, rfl, .nil⟩
    have rr : Rep X.K ⟨upd c3.F dx (.own x), c3.φ ++ [x]⟩ (.ref x) (.ref st3.length) := .ref (by show (c3.φ ++ [x])[st3.length]? = some x; rw [← h3.len]; simp)
    have rx3 : Reps X.K ⟨upd c3.F dx (.own x), c3.φ ++ [x]⟩ (.ref x :: xs) (.ref st3.length :: vs) := .cons rr (((rx2.mono e3).mono e4).mono e5)
    refine ⟨?_, _, putG .non is (.ref st3.length :: vs) wvs, _, σ, h5, putG_R rx3 ((rz.mono e4).mono e5), ?_⟩
    · rw [putG_len (by rw [hil, rz.length, hl3]), hpl, List.length_cons, rx2.length, rz.length, hvs, hl3]
      omega
    · cases ec : call i (putG .non is (.ref st3.length :: vs) wvs) (st3 ++ [.ins kc []]) with
      | ok v st' =>
        rw [ec] at q3
        intro c6 H6 e6 h6 y ry
        cases v with
        | non =>
          cases ry
          exact ⟨rfl, q3 c6 H6 ((e4.trans e5).trans e6) h6 _ (rr.mono e6)⟩
        | _ => exact q3.elim
      | stuck => rw [ec] at q3; exact q3
      | exn x' st' =>
        rw [ec] at q3
        exact fun c6 H6 cls dd e6 h6 rx6 => q3 c6 H6 cls dd ((e4.trans e5).trans e6) h6 rx6
  cases es with
  | nil =>
    refine PySem.W.callWith_KW0 (h₀ := X.base) I.ok.mod.kin ko.mkr.kp k1 ?_ (by rw [k2]; rfl)
    rw [k3]
    simp only [] at q
    rw [hA0 rfl] at q
    exact behind s [] [] [] cf H st I .nil rfl Ext.refl hH .nil q
  | cons e es =>
    rw [List.all_cons, Bool.and_eq_true] at hn
    refine PySem.W.callWith_KW (h₀ := X.base) I.ok.mod.kin ko.mkr.kp k1 (thn (ha.run pos pins s σ H (fun xs H2 => ∃ (c2 : Cf) (vs : List Val) (st2 : Sto), vs.length = (e :: es).length ∧ Reps X.K c2 xs vs ∧ Ext cf H c2 H2 ∧ RelH X.K c2 H2 st2 ∧ Run X.K W c2 σ H2 ((B l st2).bind fun zs st => (call i (putG .non is (.ref st.length :: vs) zs) (st ++ [.ins kc []])).bind fun v st' => madeEv (.ref st.length) v st') (fun c' H' v _ => ∀ x, Rep X.K c' x v → Q x H')) I ⟨cf, l, st, hH, hS, (lenRun hA q.bind).mono fun c2 H2 vs st2 e2 h2 q2 xs rx2 => ⟨c2, vs, st2, q2.1, rx2, e2, h2, q2.2⟩⟩) fun us s2 ⟨xs, H2, I2, r2, c2, vs, st2, hl2, rx2, e2, h2, q2⟩ => ?_) ?_ (nst_eq hn.1)
    · rw [k3]
      exact behind s2 us xs vs c2 H2 st2 I2 r2 hl2 e2 h2 rx2 q2
    · rw [nst_eq hn.1]
      show ((false || (backTo pos (starEach es X.env)).any (·.1)) || _) = false
      rw [stars_eq hn.2, k2]
      rfl
end
end Pv

set_option Elab.async false
set_option linter.all false
set_option maxRecDepth 100000
set_option maxHeartbeats 4000000
namespace Pv
open PySem PySem.Spec PyProof.Rows L2
/-! ### methods of texts; isinstance of one of two classes -/
section
variable {X : Cx} {W : WX}
theorem reps_strs {K : PySem.W.Frag} {c : Cf} : ∀ {vs : List V} {l : List Val} {ys : List Str}, Reps K c vs l → allS l = some ys → vs = ys.map V.str
  | [], _, ys, .nil, e => by
    cases e
    rfl
  | v :: vs, x :: l, ys, .cons h t, e => by
    cases x with
    | str z =>
      have e : (allS l).map (z :: ·) = some ys := e
      cases el : allS l with
      | none => rw [el] at e; cases e
      | some zs =>
        rw [el] at e
        cases e
        cases h
        rw [reps_strs t el]
        rfl
    | _ => cases e
theorem strs_reps {K : PySem.W.Frag} {c : Cf} : ∀ (ys : List Str), Reps K c (ys.map V.str) (ys.map Val.str)
  | [] => .nil
  | y :: ys => .cons (.str y) (strs_reps ys)
theorem jnR : MtR X "str.join" (rMt X.K jnEv) := by
  intro pins s σ H x xs v us Q I rx rs h
  obtain ⟨y, c, a, b, st, σ', W, rfl, hH, hx, hy, q⟩ := h
  unfold jnEv at q
  split at q
  · rename_i z ys e
    split at q
    · rename_i hz
      cases hx
      cases el : lview st b with
      | none => rw [el] at e; cases e
      | some l =>
        rw [el] at e
        obtain ⟨p, vs, rfl, h1, h2⟩ := hH.lview hy el
        have e2 := reps_strs h2 e
        subst e2
        exact mt_join pins s σ H _ _ v us Q I rx rs ⟨z, p, ys, rfl, rfl, .inl (.of h1), hz, q.here hH _ (.str _)⟩
    · exact q.elim
  · exact q.elim
theorem splR (m : Bool) : MtR X "str.split" (rMt X.K (splEv m)) := by
  intro pins s σ H x xs v us Q I rx rs h
  obtain ⟨y, c, a, b, st, σ', W, rfl, hH, hx, hy, q⟩ := h
  unfold splEv at q
  split at q
  · rename_i z w
    split at q
    · rename_i hz
      cases hx
      cases hy
      refine mt_split pins s σ H _ _ v us Q I rx rs ⟨z, w, rfl, rfl, hz.1, hz.2, fun p n => ?_⟩
      obtain ⟨c', v', st', r, q'⟩ := run_newL hH q n (strs_reps _)
      exact q' _ r
    · exact q.elim
  · exact q.elim
/-- x.name(a) of a text -/
theorem pe_smG {f : Val → Val → Sto → R Val} {o a : Expr} {name : Str} {id : String} {apos pos : Pos} {A B : Env → Sto → R Val} (slot : Slot "str" name id) (hty : typeOf (.builtin id) = pure (.type "method_descriptor")) (hr : MtR X id (rMt X.K f)) (hs : noSuper o = true) (hline : (apos.endLine == pos.line) = true) (hn : nst a = true)
    (ho : PE X o (tE X.K W A)) (ha : PE X a (tE X.K W B)) : PE X (.Call (.Attribute o name apos) [a] [] pos) (tE X.K W fun l st => (A l st).bind fun x st => match x with
    | .str z => (B l st).bind fun y st => f (.str z) y st
    | _ => .stuck) := by
  have hfew : ((backTo pos (starEach [a] X.env)).all (fun x => !x.1) && (backToKw pos (keywordEach [] X.env)).all (fun x => x.1.isSome)
      && decide ([a].length + ([] : List Keyword).length + (if ([] : List Keyword).isEmpty then 0 else 1) < 30)) = true := by
    rw [nst_eq hn]
    rfl
  refine (pe_bm PySem.F.plainAttrs_str slot hty hr ho (pa_cons ha pa_nil (nst_eq hn)) (base_eq hs) hfew hline (nst_eq hn) rfl).imp fun σ H Q ⟨cf, l, st, hH, hS, q⟩ => ?_
  refine ⟨cf, l, st, hH, hS, q.bind.mono fun c1 H1 v st1 e1 h1 q1 x rx => ?_⟩
  split at q1
  · rename_i z
    cases rx
    refine ⟨rfl, c1, l, st1, h1, hS.mono e1, q1.bind.mono fun c2 H2 w st2 e2 h2 q2 y ry => ?_⟩
    exact ⟨y, c2, _, w, st2, σ, W, rfl, h2, .str z, ry, q2⟩
  · exact q1.elim
theorem pe_uprG {o : Expr} {apos pos : Pos} {A : Env → Sto → R Val} (hs : noSuper o = true) (hline : (apos.endLine == pos.line) = true) (ho : PE X o (tE X.K W A)) :
    PE X (.Call (.Attribute o "upper" apos) [] [] pos) (tE X.K W fun l st => (A l st).bind fun x st => uprEv x st) := by
  refine (pe_upper ho (base_eq hs) hline).imp fun σ H Q ⟨cf, l, st, hH, hS, q⟩ => ?_
  refine ⟨cf, l, st, hH, hS, q.bind.mono fun c1 H1 v st1 e1 h1 q1 x rx => ?_⟩
  unfold uprEv at q1
  split at q1
  · rename_i z
    cases rx
    split at q1
    · rename_i hz
      exact ⟨⟨z, rfl⟩, z, rfl, rfl, hz, q1.here h1 _ (.str _)⟩
    · exact q1.elim
  · exact q1.elim
theorem pe_cls {kc : Cl} {p : Pos} (hg : Gl X (clM kc)) (hm : X.mg (clM kc) = none) : PE X (.Name (clM kc) p) (tC (.ty (clT kc))) := pe_bltn hg hm (v := .ty (clT kc)) (u := .type (clT kc)) (by cases kc <;> decide +kernel) rfl (by cases kc <;> decide +kernel) (by cases kc <;> decide +kernel)
theorem pe_issG {a : Expr} {k1 k2 : Cl} {n : Nat} {p p1 p2 tpos pos : Pos} {A : Env → Sto → R Val} (hg : Gl X "isinstance") (hm : X.mg "isinstance" = none) (g1 : Gl X (clM k1)) (m1 : X.mg (clM k1) = none) (g2 : Gl X (clM k2)) (m2 : X.mg (clM k2) = none) (hn : nst a = true) (ha : PE X a (tE X.K W A)) :
    PE X (.Call (.Name "isinstance" p) [a, .Tuple [.Name (clM k1) p1, .Name (clM k2) p2] n tpos] [] pos) (tE X.K W fun l st => (A l st).bind fun x st => match issEv st k1 k2 x with
    | some b => .ok (.bl b) st
    | none => .stuck) := by
  have ht : PE X (.Tuple [.Name (clM k1) p1, .Name (clM k2) p2] n tpos) (tTup (tCons (tC (.ty (clT k1))) (tCons (tC (.ty (clT k2))) tNil))) := pe_tup (pa_cons (pe_cls g1 m1) (pa_cons (pe_cls g2 m2) pa_nil rfl) rfl)
  refine (pe_callB call_isiT hg hm (by decide +kernel) (pa_cons ha (pa_cons ht pa_nil rfl) (nst_eq hn)) (by decide) (by decide) (nst_eq hn) rfl).imp fun σ H Q ⟨cf, l, st, hH, hS, q⟩ => ?_
  refine ⟨cf, l, st, hH, hS, q.bind.mono fun c1 H1 v st1 e1 h1 q1 x rx => ?_⟩
  split at q1
  · rename_i b eb
    refine ⟨by show 2 ≤ sizeLine; rw [sizeLine_eq]; omega, fun T nT => ?_⟩
    unfold issEv at eb
    split at eb
    · rename_i b1 b2 i1 i2
      cases eb
      obtain ⟨e2, h2⟩ := h1.new nT (.tup [V.ty (clT k1), V.ty (clT k2)])
      obtain ⟨t, ty, ek⟩ := isi_V2 h2 (rx.mono e2) i1
      refine ⟨x, T, [V.ty (clT k1), V.ty (clT k2)], t, [.type (clT k1), .type (clT k2)], (b1 || b2), rfl, upd_same, .cons (.ty _) (.cons (.ty _) .nil), ty, ?_, q1 _ _ e2 h2 _ (.bl _)⟩
      refine kitAny_cons (ek k1 b1 i1) (fun z => ?_) (fun z => by rw [z]; rfl)
      subst z
      refine kitAny_cons (ek k2 b2 i2) (fun z => by rw [z]; exact kitAny_nil) (fun z => by rw [z]; rfl)
    · cases eb
  · exact q1.elim
end
section
variable {X : Cx} {pins : List (Addr × Obj)} {σ : L2.St} {H : Hp} {s s' sI : Shared} {B : Heap}
/-- an error that is caught stands among what is tracked -/
theorem tracked {a : Addr} {oe : Obj} {vs : Array Value} {cls : Value} {d : Option Addr} (I : L2.Inv X pins σ H sI) (nb : ∀ b o, sI.heap.get? b = some o → b ∉ frs X.stack → B.get? b = some o) (st : B.StaysIn s'.heap) (up : sI.heap.UpToSlots s'.heap) (os : s'.os = sI.os) (ag : AllBare s'.gens)
    (na : H a = none) (bn : B.get? a = none) (hx : s'.heap.get? a = some oe) (hc : oe.cls = cls) (hdd : oe.dict = d) (hd : oe.data = .fields vs) : L2.Inv X pins σ (upd H a (.ext (excφ a cls d))) s' := by
  have nI : sI.heap.get? a = none := by
    cases q : sI.heap.get? a with
    | none => rfl
    | some o =>
      exfalso
      by_cases hm : a ∈ frs X.stack
      · obtain ⟨_, o', e', hnf⟩ := I.stack.mem hm
        rw [q] at e'
        cases e'
        obtain ⟨sl, e2⟩ := up a o q hnf
        rw [hx] at e2
        have e3 := Option.some.inj e2
        rw [e3] at hd
        exact hnf _ hd
      · have := nb a o q hm
        rw [bn] at this
        cases this
  have nf : ∀ b ∈ frs X.stack, ∀ o, sI.heap.get? b = some o → ∃ sl, s'.heap.get? b = some { o with slots := sl } := fun b hb o e => by
    obtain ⟨_, o', e', hd⟩ := I.stack.mem hb
    rw [e] at e'; cases e'
    exact up b o e hd
  have hok1 : HOk X.prog X.w H s'.heap := (I.inGround nb).kept st
  have hok : HOk X.prog X.w (upd H a (.ext (excφ a cls d))) s'.heap := fun b o e => by
    by_cases hb : b = a
    · subst hb
      rw [upd_same] at e
      cases e
      exact ⟨⟨oe, vs, hx, hc, hdd, hd⟩, ⟨_, hx⟩, fun h1 h2 ⟨oe, vs, q, r⟩ k => ⟨oe, vs, k _ q, r⟩⟩
    · rw [upd_ne hb] at e
      exact (hok1 b o e).stay (fun c v hc z => z) (fun c hc => by rw [upd_ne (ne_of_none hc na)]; exact hc) (fun c xs hc => by rw [upd_ne (ne_of_none hc na)]; exact hc)
  have J := I.call (ch := []) (h' := s'.heap) (g' := s'.gens) (t' := s'.toks) (d' := s'.drawn) (H' := upd H a (.ext (excφ a cls d)))
    ⟨fun b o e _ hb _ => st b o (nb b o e hb), fun b o e _ hb _ => nf b hb o e, fun b o e n _ => by rw [upd_ne (fun z => by rw [z, nI] at e; cases e)]; exact n, fun b o e _ => by
      by_cases hb : b ∈ frs X.stack
      · obtain ⟨sl, q⟩ := nf b hb o e
        exact ⟨_, q⟩
      · exact ⟨o, st b o (nb b o e hb)⟩, fun b xs e => by rw [upd_ne (ne_of_none e na)]; exact e, fun b o u e => by rw [upd_ne (ne_of_none e na)]; exact e, fun b ps e => ⟨#[], by rw [upd_ne (ne_of_none e na), e]; simp⟩⟩
    hok ag (fun _ z => nomatch z)
  obtain ⟨a1, a2, a3, a4, a5⟩ := s'
  have e5 : a5 = sI.os := os
  subst e5
  exact J
end
section
variable {X : Cx} {W : WX}
/-- an error that is made, not raised, as a value -/
theorem pe_made {e : Expr} {t : L2.St → Hp → XK → Prop} (he : PMk X e t) : PE X e (fun σ H Q => t σ H fun cls d H' => ∀ a, H' a = none → Q (.ref a) (upd H' a (.ext (excφ a cls d)))) := by
  refine ⟨fun pins s σ H Q I h => ?_⟩
  refine thn (he pins s σ H _ I h) fun u s1 hu => ?_
  obtain ⟨a, oe, vs, sI, H', cls, d, rfl, J, k, hne, ha, hz, hd, h1, na, os, ag, r, q⟩ := hu
  refine ⟨.ref a, upd H' a (.ext (excφ a cls d)), tracked (B := sI.heap) J (fun b o e _ => e) k (fun b o e _ => ⟨o.slots, by rw [k b o e]⟩) os ag na hne ha hz.1 hz.2 hd, rfl, q a na⟩
theorem pe_mkxG {d : Xc} {e : Expr} {es : List Expr} {A : Env → Sto → R (List Val)} {p pos : Pos} (T : XcAt X.prog X.w X.K X.mg X.base d) (hr : Room 2 X.A) (tk : Takes X W) (hg : Gl X d.name) (hok : okName d.name = true) (hn : (e :: es).all nst = true) (hz : d.fs.length ≤ 100) (ha : PA X (e :: es) (tA X.K W A)) :
    PE X (.Call (.Name d.name p) (e :: es) [] pos) (tE X.K W fun l st => (A l st).bind fun xs st => if xs.length = d.fs.length then .ok (.exc d xs) st else .stuck) := by
  rw [List.all_cons, Bool.and_eq_true] at hn
  obtain ⟨d1, d2, d3⟩ := ok_dbg hok
  obtain ⟨fI, fd, ps, iC, tI, F1, hb⟩ := T.ini
  refine (pe_made (pmk_oex (dvs := []) T.T iC tI F1 hr hb .nil (passes_call tk (E := fun _ _ _ => False) (fun _ _ _ _ h => h.elim)) hg T.gC ha d1 (nst_eq hn.1) (stars_eq hn.2))).imp fun σ H Q ⟨cf, l, st, hH, hS, q⟩ => ?_
  refine ⟨cf, l, st, hH, hS, q.bind.mono fun c1 H1 xs st1 e1 h1 q1 vs rvs => ?_⟩
  split at q1
  · rename_i hlen
    have hl : vs.length = d.fs.length := by rw [rvs.length]; exact hlen
    refine ⟨by omega, fun a na => ⟨a, vs, by rw [List.append_nil], hl.symm, upd_same, fun dx fvs H' ndx nda hfl e1' e2' hrest => ⟨rfl, dx, fvs, e2', e1', ?_, ?_⟩⟩⟩
    · rw [upd_ne nda] at ndx
      exact ndx
    · rw [upd_ne nda] at ndx
      have eH : upd (del H' a) dx (.xd fvs) = upd H1 dx (.xd fvs) := by
        funext b
        by_cases hb1 : b = dx
        · rw [hb1, upd_same, upd_same]
        · rw [upd_ne hb1, upd_ne hb1]
          by_cases hb2 : b = a
          · rw [hb2, del_same, na]
          · rw [del_ne hb2, hrest b hb2 hb1, upd_ne hb2]
      rw [eH]
      intro a' na'
      obtain ⟨e2, h2⟩ := h1.new ndx (.xd fvs)
      obtain ⟨e3, h3⟩ := h2.new na' (.ext (excφ a' (.ref (He.ga X.K d.name)) (some dx)))
      have nd : dx ≠ a' := fun z => by rw [z, upd_same] at na'; cases na'
      refine q1 _ _ (e2.trans e3) h3 _ (.exc (by exact upd_same) (by show upd (upd _ dx _) a' _ dx = _; rw [upd_ne nd]; exact upd_same) hfl (rvs.mono (e2.trans e3)) T.ok)
  · exact q1.elim
end
end Pv

set_option Elab.async false
set_option linter.all false
set_option maxRecDepth 100000
set_option maxHeartbeats 4000000
namespace Pv
open PySem PySem.Spec PyProof.Rows L2 RZ
section
variable {c : Cn} {lv : Nat}
theorem pe_eq {X : Cx} {W : WX} {e : Expr} {f g : Env → Sto → R Val} (h : PE X e (tE X.K W g)) (q : ∀ l st, f l st = g l st) : PE X e (tE X.K W f) := by
  have z : f = g := funext fun l => funext fun st => q l st
  rw [z]
  exact h
theorem pt_eq {X : Cx} {W : WX} {e : Expr} {f g : Env → Sto → R Val} (h : PT X e (tT X.K W g)) (q : ∀ l st, f l st = g l st) : PT X e (tT X.K W f) := by
  have z : f = g := funext fun l => funext fun st => q l st
  rw [z]
  exact h
theorem pa_eq {X : Cx} {W : WX} {e : List Expr} {f g : Env → Sto → R (List Val)} (h : PA X e (tA X.K W g)) (q : ∀ l st, f l st = g l st) : PA X e (tA X.K W f) := by
  have z : f = g := funext fun l => funext fun st => q l st
  rw [z]
  exact h
theorem po_eq {X : Cx} {W : WX} {e : Option Expr} {f g : Env → Sto → R (Option Int)} (h : PO X e (tOI X.K W g)) (q : ∀ l st, f l st = g l st) : PO X e (tOI X.K W f) := by
  have z : f = g := funext fun l => funext fun st => q l st
  rw [z]
  exact h
theorem pi_eq {X : Cx} {W : WX} {tg e : Expr} {f g : Env → Sto → R Its} (h : PI X tg e (tI X.K W g)) (q : ∀ l st, f l st = g l st) : PI X tg e (tI X.K W f) := by
  have z : f = g := funext fun l => funext fun st => q l st
  rw [z]
  exact h
theorem fin_bind {α : Type} {r : R α} {f : α → Sto → R Val} : fin true (r.bind f) = r.bind fun a st => fin true (f a st) := by
  cases r <;> rfl
theorem fin_ite {p : Prop} [Decidable p] {a b : R Val} : fin true (if p then a else b) = if p then fin true a else fin true b := by
  split <;> rfl
noncomputable def evkV (c : Cn) : List (Nat × Xp) → Env → Sto → R (List Val)
  | [], _, st => .ok [] st
  | (_, e) :: es, l, st => (ev c false e l st).bind fun x st => (evkV c es l st).bind fun xs st => .ok (x :: xs) st
theorem evk_eq : ∀ (ks : List (Nat × Xp)) (l : Env) (st : Sto), evk c ks l st = (evkV c ks l st).bind fun ws st => .ok ((ks.map (·.1)).zip ws) st
  | [], l, st => by simp only [evk, evkV, R.bind_ok] <;> rfl
  | (k, e) :: ks, l, st => by
    simp only [evk, evkV]
    cases ev c false e l st with
    | ok v st1 =>
      simp only [R.bind_ok]
      rw [evk_eq ks l st1]
      cases evkV c ks l st1 with
      | ok ws st2 => rfl
      | exn x st2 => rfl
      | stuck => rfl
    | exn x st1 => rfl
    | stuck => rfl
theorem bind_ok_iff {α β : Type} {r : R α} {f : α → Sto → R β} {b : β} {st' : Sto} (h : r.bind f = .ok b st') : ∃ a st1, r = .ok a st1 ∧ f a st1 = .ok b st' := by
  cases r with
  | ok a st1 => exact ⟨a, st1, rfl, h⟩
  | exn x st1 => cases h
  | stuck => cases h
theorem evkV_len : ∀ (ks : List (Nat × Xp)), LenIs (evkV c ks) ks.length
  | [], l, st, vs, st', h => by simp only [evkV] at h; cases h; rfl
  | (k, e) :: ks, l, st, vs, st', h => by
    simp only [evkV] at h
    obtain ⟨a, st1, _, h⟩ := bind_ok_iff h
    obtain ⟨as, st2, h2, h⟩ := bind_ok_iff h
    cases h
    rw [List.length_cons, evkV_len ks _ _ _ _ h2]
    rfl
theorem evs_len : ∀ (es : List Xp), LenIs (evs c es) es.length
  | [], l, st, vs, st', h => by simp only [evs] at h; cases h; rfl
  | e :: es, l, st, vs, st', h => by
    simp only [evs] at h
    obtain ⟨a, st1, _, h⟩ := bind_ok_iff h
    obtain ⟨as, st2, h2, h⟩ := bind_ok_iff h
    cases h
    rw [List.length_cons, evs_len es _ _ _ _ h2]
    rfl
theorem mEs_len {k : Ck} : ∀ {xs : List Xp} {es : List Expr}, mEs k xs es = true → xs.length = es.length
  | [], [], _ => rfl
  | [], _ :: _, h => by simp only [mEs] at h; cases h
  | _ :: _, [], h => by simp only [mEs] at h; cases h
  | x :: xs, e :: es, h => by
    simp only [mEs, Bool.and_eq_true] at h
    rw [List.length_cons, List.length_cons, mEs_len h.2]
theorem CkE.blk {k : Ck} {X : Cx} {W : WX} (C : CkE k X W c lv) {scope : Scope} {s : Shared} {H : Hp} {C' : Addr} {cl : List (Str × Addr)} {fp : List Addr} : CkE (k.blk scope) (X.blk s H scope (compEnvC scope cl C' X.env) fp) W0 c lv where
  N := C.N
  sc := by
    show relabel scope X.env = relS scope k.sc
    rw [← C.sc]
    rfl
  fn := rfl
  calm := C.calm
  nd := C.nd
  tk := takes0
  room := C.room
  roomH := C.roomH
  hu := C.hu
  xcs := C.xcs
  kcs := C.kcs
  gd := C.gd
  blt := C.blt
  G := C.G
  glo := C.glo
  fns := fun i d h => by
    obtain ⟨e, n, l⟩ := C.fns i d h
    exact ⟨e, n, l⟩
theorem bn (x : Str) (h : bnames.contains x = true) : x ∈ bnames := by simpa using h
theorem CkE.bf {k : Ck} {X : Cx} {W : WX} (C : CkE k X W c lv) (x : Str) (h : bnames.contains x = true) : X.mg x = none := C.blt x (bn x h)
theorem callN_eq {e : Expr} {x : Str} {es : List Expr} {ks : List Keyword} (h : callN e = some (x, es, ks)) : ∃ p pos, e = .Call (.Name x p) es ks pos := by
  cases e with
  | Call f es' ks' pos =>
    cases f with
    | Name y p =>
      cases h
      exact ⟨p, pos, rfl⟩
    | _ => cases h
  | _ => cases h
theorem methK_eq {e o : Expr} {f : Str} {es : List Expr} {ks : List Keyword} (h : methK e = some (o, f, es, ks)) : ∃ apos pos, e = .Call (.Attribute o f apos) es ks pos ∧ (apos.endLine == pos.line) = true ∧ es.length + ks.length < 28 := by
  cases e with
  | Call g es' ks' pos =>
    cases g with
    | Attribute o' f' apos =>
      have h : (if apos.endLine == pos.line then (if decide (es'.length + ks'.length < 28) then some (o', f', es', ks') else none) else none) = some (o, f, es, ks) := h
      split at h
      · rename_i hl
        split at h
        · rename_i hc
          cases h
          exact ⟨apos, pos, rfl, hl, by simpa using hc⟩
        · cases h
      · cases h
    | _ => cases h
  | _ => cases h
theorem methN_eq {e o : Expr} {f : Str} {es : List Expr} (h : methN e = some (o, f, es)) : ∃ apos pos, e = .Call (.Attribute o f apos) es [] pos ∧ (apos.endLine == pos.line) = true := by
  cases e with
  | Call g es' ks' pos =>
    cases g with
    | Attribute o' f' apos =>
      cases ks' with
      | nil =>
        have h : (if apos.endLine == pos.line then some (o', f', es') else none) = some (o, f, es) := h
        split at h
        · rename_i hl
          cases h
          exact ⟨apos, pos, rfl, hl⟩
        · cases h
      | cons _ _ => cases h
    | _ => cases h
  | _ => cases h
theorem notSet_eq {e : Expr} {env : PySem.Env} (h : notSet e = true) : ∀ x, foldedSetIterable e env x = pure x := by
  intro x
  cases e <;> first | rfl | cases h
mutual
theorem snd_sE : ∀ (x : Xp) {k : Ck} {X : Cx} {W : WX}, CkE k X W c lv → ∀ {e : Expr}, mE k x e = true → PE X e (tE X.K W (ev c false x)) ∧ PT X e (tT X.K W (ev c true x))
  | .var i, k, X, W, C, e, h => by
    simp only [mE] at h
    split at h
    · rename_i y p
      simp only [Bool.and_eq_true, decide_eq_true_eq] at h
      obtain ⟨⟨h1, h2⟩, h3⟩ := h
      obtain ⟨d1, d2, d3⟩ := ok_dbg h3
      have P : PE X (.Name y p) (tE X.K W (ev c false (.var i))) := (pe_var (by rw [C.N]; exact h1) (C.vis h2) d1 d2).imp fun σ H Q ⟨cf, l, st, hH, hS, q⟩ => by
        simp only [ev] at q
        split at q
        · rename_i v ev'
          obtain ⟨x, e1, r⟩ := hS.2 i v ev'
          exact ⟨x, e1, q.here hH _ r⟩
        · exact q.elim
      refine ⟨P, pt_plain P rfl fun l st => ?_⟩
      simp only [ev]
      split <;> rfl
    · cases h
  | .num n, k, X, W, C, e, h => by
    simp only [mE] at h
    split at h
    · rename_i j a p
      have e1 : j = n := of_decide_eq_true h
      subst e1
      have P : PE X (.Constant (.int j) a p) (tE X.K W (ev c false (.num j))) := pe_int.imp fun σ H Q ⟨cf, l, st, hH, hS, q⟩ => by
        simp only [ev, fin_false] at q
        exact q.here hH _ (.int _)
      exact ⟨P, pt_plain P rfl fun l st => by simp only [ev, fin_false]⟩
    · cases h
  | .bol b, k, X, W, C, e, h => by
    simp only [mE] at h
    split at h
    · rename_i j a p
      have e1 : j = b := of_decide_eq_true h
      subst e1
      have P : PE X (.Constant (.bool j) a p) (tE X.K W (ev c false (.bol j))) := pe_bl.imp fun σ H Q ⟨cf, l, st, hH, hS, q⟩ => by
        simp only [ev] at q
        exact q.here hH _ (.bl _)
      exact ⟨P, pt_plain P rfl fun l st => by simp only [ev, fin_bl]⟩
    · cases h
  | .non, k, X, W, C, e, h => by
    simp only [mE] at h
    split at h
    · rename_i a p
      have P : PE X (.Constant .none a p) (tE X.K W (ev c false .non)) := pe_non.imp fun σ H Q ⟨cf, l, st, hH, hS, q⟩ => by
        simp only [ev, fin_false] at q
        exact q.here hH _ .non
      exact ⟨P, pt_plain P rfl fun l st => by simp only [ev, fin_false]⟩
    · cases h
  | .str s, k, X, W, C, e, h => by
    simp only [mE] at h
    split at h
    · rename_i j a p
      have e1 : j = s := of_decide_eq_true h
      subst e1
      have P : PE X (.Constant (.str j) a p) (tE X.K W (ev c false (.str j))) := pe_str.imp fun σ H Q ⟨cf, l, st, hH, hS, q⟩ => by
        simp only [ev, fin_false] at q
        exact q.here hH _ (.str _)
      exact ⟨P, pt_plain P rfl fun l st => by simp only [ev, fin_false]⟩
    · cases h
  | .glo n, k, X, W, C, e, h => by
    simp only [mE] at h
    split at h
    · rename_i y p
      simp only [Bool.and_eq_true, decide_eq_true_eq] at h
      obtain ⟨⟨h1, h2⟩, h3⟩ := h
      obtain ⟨d1, d2, d3⟩ := ok_dbg h3
      cases eG : k.G[n]? with
      | none => rw [eG] at h1; cases h1
      | some pr =>
        rw [eG] at h1
        have e1 : pr.1 = y := Option.some.inj h1
        subst e1
        obtain ⟨u, V, m1, m2, m3, m4⟩ := C.glo n pr eG
        have P : PE X (.Name pr.1 p) (tE X.K W (ev c false (.glo n))) := (pe_glob (C.gl h2) m1 m2 d1).imp fun σ H Q ⟨cf, l, st, hH, hS, q⟩ => by
          simp only [ev, C.G, eG, fin_false] at q
          exact q.here hH _ (m3 cf)
        refine ⟨P, pt_plain P rfl fun l st => ?_⟩
        simp only [ev, C.G, eG, fin_false]
    · cases h
  | .bin o a b, k, X, W, C, e, h => by
    simp only [mE] at h
    split at h
    · rename_i a' o' b' p
      simp only [Bool.and_eq_true, decide_eq_true_eq] at h
      obtain ⟨⟨rfl, h1⟩, h2⟩ := h
      have P : PE X (.BinOp a' (opM o) b' p) (tE X.K W (ev c false (.bin o a b))) := pe_eq (pe_op2 (binR o) (snd_sE a C h1).1 (snd_sE b C h2).1) fun l st => by simp only [ev, fin_false]
      exact ⟨P, pt_plain P rfl fun l st => by simp only [ev, fin_false, fin_bind]⟩
    · cases h
  | .neg a, k, X, W, C, e, h => by
    simp only [mE] at h
    split at h
    · rename_i a' p
      have P : PE X (.UnaryOp .USub a' p) (tE X.K W (ev c false (.neg a))) := (pe_un un_neg (snd_sE a C h).1).imp fun σ H Q ⟨cf, l, st, hH, hS, q⟩ => by
        simp only [ev] at q
        refine ⟨cf, l, st, hH, hS, q.bind.mono fun c1 H1 v st1 e1 h1 q1 x rx => ?_⟩
        split at q1
        · cases rx
          exact ⟨_, rfl, q1.here h1 _ (.int _)⟩
        · exact q1.elim
      refine ⟨P, pt_plain P rfl fun l st => ?_⟩
      simp only [ev, fin_bind]
      congr 1
      funext v st
      split <;> rfl
    · cases h
  | .cmp o a b, k, X, W, C, e, h => by
    simp only [mE] at h
    split at h
    · rename_i a' o' b' p
      simp only [Bool.and_eq_true, decide_eq_true_eq, Bool.not_eq_true'] at h
      obtain ⟨⟨⟨rfl, h0⟩, h1⟩, h2⟩ := h
      exact ⟨pe_eq (pe_cm2 (cmR o C.hu) h0 (snd_sE a C h1).1 (snd_sE b C h2).1) fun l st => by simp only [ev], pt_eq (pt_cm2 C.hu h0 (snd_sE a C h1).1 (snd_sE b C h2).1) fun l st => by simp only [ev]⟩
    · cases h
  | .chn o q a b d, k, X, W, C, e, h => by
    simp only [mE] at h
    split at h
    · rename_i a' o' p' b' c' p
      simp only [Bool.and_eq_true, decide_eq_true_eq, Bool.not_eq_true'] at h
      obtain ⟨⟨⟨⟨⟨⟨rfl, rfl⟩, h0⟩, h00⟩, h1⟩, h2⟩, h3⟩ := h
      exact ⟨pe_eq (pe_chn C.hu h00 (snd_sE a C h1).1 (snd_sE b C h2).1 (snd_sE d C h3).1) fun l st => by simp only [ev] <;> rfl, pt_eq (pt_chn C.hu h00 (snd_sE a C h1).1 (snd_sE b C h2).1 (snd_sE d C h3).1) fun l st => by simp only [ev]; rfl⟩
    · cases h
  | .and a b, k, X, W, C, e, h => by
    simp only [mE] at h
    split at h
    · rename_i a' b' p
      simp only [Bool.and_eq_true] at h
      obtain ⟨h1, h2⟩ := h
      exact ⟨pe_eq (pe_andG (snd_sE a C h1).1 (pe_one (snd_sE b C h2).1)) fun l st => by simp only [ev] <;> rfl, pt_eq (pw_andG (snd_sE a C h1).2 (pw_and1 (snd_sE b C h2).2)).pt fun l st => by simp only [ev]; rfl⟩
    · rename_i a' b' c' r p
      simp only [Bool.and_eq_true] at h
      obtain ⟨h1, h2⟩ := h
      obtain ⟨q1, q2⟩ := snd_sE b C h2
      refine ⟨pe_eq (pe_andG (snd_sE a C h1).1 q1) fun l st => by simp only [ev] <;> rfl, pt_eq (pw_andG (snd_sE a C h1).2 ⟨fun whole pins s σ H Q I hw => ?_⟩).pt fun l st => by simp only [ev]; rfl⟩
      exact q2.run pins s σ H Q I hw
    · cases h
  | .or a b, k, X, W, C, e, h => by
    simp only [mE] at h
    split at h
    · rename_i a' b' p
      simp only [Bool.and_eq_true] at h
      obtain ⟨h1, h2⟩ := h
      exact ⟨pe_eq (pe_orG (snd_sE a C h1).1 (pe_one (snd_sE b C h2).1)) fun l st => by simp only [ev] <;> rfl, pt_eq (pw_orG (snd_sE a C h1).2 (pw_or1 (snd_sE b C h2).2)).pt fun l st => by simp only [ev]; rfl⟩
    · rename_i a' b' c' r p
      simp only [Bool.and_eq_true] at h
      obtain ⟨h1, h2⟩ := h
      obtain ⟨q1, q2⟩ := snd_sE b C h2
      refine ⟨pe_eq (pe_orG (snd_sE a C h1).1 q1) fun l st => by simp only [ev] <;> rfl, pt_eq (pw_orG (snd_sE a C h1).2 ⟨fun whole pins s σ H Q I hw => ?_⟩).pt fun l st => by simp only [ev]; rfl⟩
      exact q2.run pins s σ H Q I hw
    · cases h
  | .not a, k, X, W, C, e, h => by
    simp only [mE] at h
    split at h
    · rename_i a' p
      exact ⟨pe_eq (pe_notG (snd_sE a C h).1) fun l st => by simp only [ev] <;> rfl, pt_eq (pt_notG (snd_sE a C h).2) fun l st => by simp only [ev]; rfl⟩
    · cases h
  | .ife d a b, k, X, W, C, e, h => by
    simp only [mE] at h
    split at h
    · rename_i d' a' b' p
      simp only [Bool.and_eq_true] at h
      obtain ⟨⟨h1, h2⟩, h3⟩ := h
      refine ⟨(pe_ifExp (snd_sE d C h1).2 (snd_sE a C h2).1 (snd_sE b C h3).1).imp fun σ H Q ⟨cf, l, st, hH, hS, q⟩ => ?_, ⟨fun pins s σ H Q I ⟨cf, l, st, hH, hS, q⟩ => ?_⟩⟩
      · simp only [ev] at q
        refine ⟨cf, l, st, hH, hS, q.bind.mono fun c1 H1 v st1 e1 h1 q1 => ?_⟩
        split at q1
        · exact ⟨true, rfl, iteT ⟨c1, l, st1, h1, hS.mono e1, q1⟩⟩
        · exact ⟨false, rfl, iteF ⟨c1, l, st1, h1, hS.mono e1, q1⟩⟩
        · exact q1.elim
      · simp only [ev] at q
        exact q.elim
    · cases h
  | .tup es, k, X, W, C, e, h => by
    simp only [mE] at h
    split at h
    · rename_i es' n p
      have P : PE X (.Tuple es' n p) (tE X.K W (ev c false (.tup es))) := (pe_tup (snd_sEs es C h)).imp fun σ H Q ⟨cf, l, st, hH, hS, q⟩ => by
        simp only [ev, fin_false] at q
        refine ⟨cf, l, st, hH, hS, q.bind.mono fun c1 H1 vs st1 e1 h1 q1 xs rx => ?_⟩
        split at q1
        · rename_i hz
          refine ⟨by rw [rx.length]; exact hz, fun pp n => ?_⟩
          obtain ⟨c', r, q'⟩ := run_tup h1 q1 n rx
          exact q' _ r
        · exact q1.elim
      refine ⟨P, pt_plain P rfl fun l st => ?_⟩
      simp only [ev, fin_false, fin_bind, fin_ite, fin_stuck]
    · cases h
  | .lst m es, k, X, W, C, e, h => by
    simp only [mE] at h
    split at h
    · rename_i es' p
      have P : PE X (.List es' p) (tE X.K W (ev c false (.lst m es))) := (pe_lst (snd_sEs es C h)).imp fun σ H Q ⟨cf, l, st, hH, hS, q⟩ => by
        simp only [ev, fin_false] at q
        refine ⟨cf, l, st, hH, hS, q.bind.mono fun c1 H1 vs st1 e1 h1 q1 xs rx => ?_⟩
        split at q1
        · rename_i hz
          refine ⟨by rw [rx.length]; exact hz, fun pp n => ?_⟩
          obtain ⟨c', v', st', r, q'⟩ := run_newL h1 q1 n rx
          exact q' _ r
        · exact q1.elim
      refine ⟨P, pt_plain P rfl fun l st => ?_⟩
      simp only [ev, fin_false, fin_bind, fin_ite, fin_stuck]
    · cases h
  | .idx a i, k, X, W, C, e, h => by
    simp only [mE] at h
    split at h
    · rename_i a' i' p
      simp only [Bool.and_eq_true] at h
      obtain ⟨⟨h0, h1⟩, h2⟩ := h
      have P : PE X (.Subscript a' i' p) (tE X.K W (ev c false (.idx a i))) := pe_eq (pe_idxG h0 (snd_sE a C h1).1 (snd_sE i C h2).1) fun l st => by simp only [ev, fin_false]
      exact ⟨P, pt_plain P rfl fun l st => by simp only [ev, fin_false, fin_bind]⟩
    · cases h
  | .slc m a lo hi, k, X, W, C, e, h => by
    simp only [mE] at h
    split at h
    · rename_i a' lo' hi' p2 p
      simp only [Bool.and_eq_true] at h
      obtain ⟨⟨h1, h2⟩, h3⟩ := h
      have P : PE X (.Subscript a' (.Slice lo' hi' none p2) p) (tE X.K W (ev c false (.slc m a lo hi))) := pe_eq (pe_slcG (m := m) (snd_sE a C h1).1 (snd_sEo lo C h2) (snd_sEo hi C h3)) fun l st => by simp only [ev, fin_false]
      exact ⟨P, pt_plain P rfl fun l st => by simp only [ev, fin_false, fin_bind]⟩
    · cases h
  | .isi a kc, k, X, W, C, e, h => by
    simp only [mE] at h
    split at h
    · rename_i f a' y p' eN
      obtain ⟨p, pos, rfl⟩ := callN_eq eN
      simp only [Bool.and_eq_true, decide_eq_true_eq] at h
      obtain ⟨⟨⟨⟨⟨rfl, h1⟩, h2⟩, rfl⟩, h4⟩, h5⟩ := h
      have P : PE X (.Call (.Name "isinstance" p) [a', .Name (clM kc) p'] [] pos) (tE X.K W (ev c false (.isi a kc))) := pe_eq (pe_isiG (C.gl h1) (C.bf _ (by decide +kernel)) (C.gl h4) (C.bf _ (by cases kc <;> decide +kernel)) h2 (snd_sE a C h5).1) fun l st => by simp only [ev] <;> rfl
      refine ⟨P, pt_plain P rfl fun l st => ?_⟩
      simp only [ev, fin_bind]
      congr 1
      funext v st
      split <;> rfl
    · cases h
  | .blt f es, k, X, W, C, e, h => by
    simp only [mE] at h
    split at h
    · rename_i x es' eN
      obtain ⟨p, pos, rfl⟩ := callN_eq eN
      simp only [Bool.and_eq_true, decide_eq_true_eq] at h
      obtain ⟨⟨⟨⟨⟨hcool, rfl⟩, h1⟩, h2⟩, h3⟩, h4⟩ := h
      have hcl : cool f = false → X.calm = true := fun z => C.calm (by simpa [z] using hcool)
      cases es' with
      | nil => cases f <;> exact absurd h1 (by decide)
      | cons e0 es0 =>
        have P : PE X (.Call (.Name (bfM f).1 p) (e0 :: es0) [] pos) (tE X.K W (ev c false (.blt f es))) := pe_eq (pe_bfG (bfR f hcl C.gd C.hu) (by cases f <;> first | exact .inl ⟨_, rfl⟩ | exact .inr ⟨_, rfl⟩) (by cases f <;> decide +kernel) (C.gl h2) (C.bf _ (by cases f <;> decide +kernel)) h3 (by cases f <;> decide +kernel) (snd_sEs es C h4)) fun l st => by simp only [ev, fin_false]
        exact ⟨P, pt_plain P rfl fun l st => by simp only [ev, fin_false, fin_bind]⟩
    · cases h
  | .mkl m a, k, X, W, C, e, h => by
    simp only [mE] at h
    split at h
    · rename_i x a' eN
      obtain ⟨p, pos, rfl⟩ := callN_eq eN
      simp only [Bool.and_eq_true, decide_eq_true_eq] at h
      obtain ⟨⟨⟨rfl, h2⟩, h3⟩, h4⟩ := h
      have P : PE X (.Call (.Name "list" p) [a'] [] pos) (tE X.K W (ev c false (.mkl m a))) := pe_eq (pe_bfG (mklR m) (.inr ⟨_, rfl⟩) (by decide +kernel) (C.gl h2) (C.bf _ (by decide +kernel)) (by simp [h3]) (by decide +kernel) (pa_consG h3 (snd_sE a C h4).1 pa_nilG)) fun l st => by
        simp only [ev, fin_false]
        cases ev c false a l st <;> rfl
      exact ⟨P, pt_plain P rfl fun l st => by simp only [ev, fin_false, fin_bind]⟩
    · cases h
  | .cat m a b, k, X, W, C, e, h => by
    simp only [mE] at h
    split at h
    · rename_i a' b' p
      simp only [Bool.and_eq_true] at h
      obtain ⟨h1, h2⟩ := h
      have P : PE X (.BinOp a' .Add b' p) (tE X.K W (ev c false (.cat m a b))) := pe_eq (pe_op2 (catR m) (snd_sE a C h1).1 (snd_sE b C h2).1) fun l st => by simp only [ev, fin_false]
      exact ⟨P, pt_plain P rfl fun l st => by simp only [ev, fin_false, fin_bind]⟩
    · cases h
  | .rep m a b, k, X, W, C, e, h => by
    simp only [mE] at h
    split at h
    · rename_i a' b' p
      simp only [Bool.and_eq_true] at h
      obtain ⟨h1, h2⟩ := h
      have P : PE X (.BinOp a' .Mult b' p) (tE X.K W (ev c false (.rep m a b))) := pe_eq (pe_op2 (repR m) (snd_sE a C h1).1 (snd_sE b C h2).1) fun l st => by simp only [ev, fin_false]
      exact ⟨P, pt_plain P rfl fun l st => by simp only [ev, fin_false, fin_bind]⟩
    · cases h
  | .cal f es ks, k, X, W, C, e, h => by
    simp only [mE] at h
    split at h
    · rename_i x es' ks' d eN eT
      obtain ⟨p, pos, rfl⟩ := callN_eq eN
      simp only [Bool.and_eq_true, decide_eq_true_eq] at h
      obtain ⟨⟨⟨⟨⟨⟨⟨⟨⟨⟨⟨⟨hcm, how⟩, rfl⟩, h1⟩, h2⟩, h3⟩, h4⟩, h5⟩, h6⟩, h7⟩, h8⟩, h9⟩, hok⟩ := h
      have hroom : RoomB (hotF d) (lv + 2) X.A := by
        rcases Bool.or_eq_true_iff.mp hcm with z | z
        · exact RoomB.of ((C.room z).mono (by omega))
        · rw [z]
          exact RoomB.hot (C.roomH.mono (by omega))
      obtain ⟨k1, k2, k3, k4, k5⟩ := snd_sKs ks C h4
      have hcov : ∀ i, i < d.ps → i < es'.length ∨ i ∈ ks.map (·.1) := fun i hi => by
        have q := List.all_eq_true.mp h7 i (List.mem_range.mpr hi)
        simp only [Bool.or_eq_true, decide_eq_true_eq, List.contains_iff_mem] at q
        exact q
      have P : PE X (.Call (.Name d.name p) es' ks' pos) (tE X.K W (ev c false (.cal f es ks))) := pe_eq (pe_calG how (C.fns f d eT) hroom C.gd C.tk (C.gl h1) hok h2 (snd_sEs es C h3) k1 k3 k2 k4 h6 hcov h5 (by rw [← mEs_len h3]; exact evs_len es) (by rw [← k5]; exact evkV_len ks) (fun z l st => by
          have z' : es = [] := by
            have := mEs_len h3
            rw [z] at this
            exact List.length_eq_zero_iff.mp this
          rw [z']
          simp only [evs])) fun l st => by
        simp only [ev, fin_false]
        congr 1
        funext xs st1
        rw [evk_eq]
        cases ez : evkV c ks l st1 with
        | ok ws st2 =>
          simp only [R.bind_ok]
          rw [putK_eq (by rw [List.length_map, evkV_len ks _ _ _ _ ez])]
        | exn x st2 => rfl
        | stuck => rfl
      refine ⟨P, pt_plain P rfl fun l st => by simp only [ev, fin_false, fin_bind]⟩
    · cases h
  | .lc m a tg it ifs, k, X, W, C, e, h => by
    simp only [mE] at h
    split at h
    · rename_i a' tg' it' ifs' z scope p
      simp only [Bool.and_eq_true, decide_eq_true_eq] at h
      obtain ⟨⟨⟨⟨⟨⟨⟨⟨⟨hcm, rfl⟩, h1⟩, h2⟩, h3⟩, h4⟩, h5⟩, h6⟩, h7⟩, h8⟩ := h
      have hcalm := C.calm hcm
      have hi : PI X tg' it' (tI X.K W (evi c it)) := snd_sI it C h3 h8
      have nd : X.N.Nodup := by rw [C.N]; exact C.nd
      have ok : BlkOk X.N X.env.scope scope (ownOf X.N tg.slots) := blkOk_by (by rw [C.N, C.sc]; exact h1)
      have P : PE X (.ListComp a' [⟨tg', it', ifs', 0⟩] scope p) (tE X.K W (ev c false (.lc m a tg it ifs))) := by
        refine pe_eq (pe_lcG (m := m) (F := evf c ifs) (A := ev c false a) (iter := it') (elt := a') (tgE := tg') (ifs := ifs') (scope := scope) (pos := p) hcalm nd hi ok (fun s H C' cl fp => mTg_ok (C.blk).N (C.blk).sc (C.blk).fn hcalm C.nd h2) (fun s H C' cl fp => ?_) (fun s H C' cl fp => (snd_sE a C.blk h7).1) h4 (fun t => PE X (.ListComp a' [⟨tg', it', ifs', 0⟩] scope p) t) (fun t ht t' i => ht.imp i)
          (pe_lc hcalm nd hi ok (fun s H C' cl fp => mTg_ok (C.blk).N (C.blk).sc (C.blk).fn hcalm C.nd h2) (fun s H C' cl fp => snd_sF ifs C.blk h5 h6) (fun s H C' cl fp => (snd_sE a C.blk h7).1) (notSet_eq h4))) fun l st => ?_
        · exact snd_sF ifs C.blk h5 h6
        · simp only [ev, fin_false]
          rfl
      exact ⟨P, pt_plain P rfl fun l st => by simp only [ev, fin_false, fin_bind]⟩
    · cases h
  | .app o a, k, X, W, C, e, h => by
    simp only [mE] at h
    split at h
    · rename_i o' f a' eN
      obtain ⟨apos, pos, rfl, hl⟩ := methN_eq eN
      simp only [Bool.and_eq_true, decide_eq_true_eq] at h
      obtain ⟨⟨⟨⟨rfl, h1⟩, h2⟩, h3⟩, h4⟩ := h
      have P : PE X (.Call (.Attribute o' "append" apos) [a'] [] pos) (tE X.K W (ev c false (.app o a))) := pe_eq (pe_mtG PySem.F.slot_list_append PySem.F.type_list_append appR h1 hl h2 (snd_sE o C h3).1 (snd_sE a C h4).1) fun l st => by simp only [ev, fin_false] <;> rfl
      refine ⟨P, pt_plain P rfl fun l st => ?_⟩
      simp only [ev, fin_false, fin_bind]
      congr 1
      funext v st
      split <;> simp only [fin_bind, fin_stuck]
    · cases h
  | .ext o a, k, X, W, C, e, h => by
    simp only [mE] at h
    split at h
    · rename_i o' f a' eN
      obtain ⟨apos, pos, rfl, hl⟩ := methN_eq eN
      simp only [Bool.and_eq_true, decide_eq_true_eq] at h
      obtain ⟨⟨⟨⟨rfl, h1⟩, h2⟩, h3⟩, h4⟩ := h
      have P : PE X (.Call (.Attribute o' "extend" apos) [a'] [] pos) (tE X.K W (ev c false (.ext o a))) := pe_eq (pe_mtG PySem.F.slot_list_extend PySem.F.type_list_extend extR h1 hl h2 (snd_sE o C h3).1 (snd_sE a C h4).1) fun l st => by simp only [ev, fin_false] <;> rfl
      refine ⟨P, pt_plain P rfl fun l st => ?_⟩
      simp only [ev, fin_false, fin_bind]
      congr 1
      funext v st
      split <;> simp only [fin_bind, fin_stuck]
    · cases h
  | .lc2 m a tg it tg1 it1, k, X, W, C, e, h => by
    simp only [mE] at h
    split at h
    · rename_i a' tg' it' z tg1' it1' z1 scope p
      simp only [Bool.and_eq_true, decide_eq_true_eq] at h
      obtain ⟨⟨⟨⟨⟨⟨⟨⟨⟨⟨⟨⟨hcm, rfl⟩, rfl⟩, h1⟩, h2⟩, h21⟩, h3⟩, h31⟩, h4⟩, h41⟩, h7⟩, h8⟩, h81⟩ := h
      have hcalm := C.calm hcm
      have nd : X.N.Nodup := by rw [C.N]; exact C.nd
      have ok : BlkOk X.N X.env.scope scope (ownOf X.N (tg.slots ++ tg1.slots)) := blkOk_by (by rw [C.N, C.sc]; exact h1)
      have hv : ∀ i ∈ tg1.slots, i ∈ (ownOf X.N (tg.slots ++ tg1.slots)).map (·.2) := fun i hi => by
        unfold ownOf
        rw [List.map_map]
        show i ∈ (tg.slots ++ tg1.slots).map id
        rw [List.map_id]
        exact List.mem_append_right _ hi
      have P : PE X (.ListComp a' [⟨tg', it', [], 0⟩, ⟨tg1', it1', [], 0⟩] scope p) (tE X.K W (ev c false (.lc2 m a tg it tg1 it1))) := by
        refine pe_eq (pe_lc2G (m := m) (I := evi c it) (I1 := evi c it1) (A := ev c false a) (tt := tYes) (fun σ H Q q => q) (pe_lc2 hcalm nd (snd_sI it C h3 h8) ok hv (fun s H C' cl fp => mTg_ok (C.blk).N (C.blk).sc (C.blk).fn hcalm C.nd h2) (fun s H C' cl fp => pts_nil)
          (fun s H C' cl fp => snd_sI it1 C.blk h31 h81) (fun s H C' cl fp => mTg_ok (C.blk).N (C.blk).sc (C.blk).fn hcalm C.nd h21) (fun s H C' cl fp => pts_nil) (fun s H C' cl fp => (snd_sE a C.blk h7).1) (notSet_eq h4) (fun env x => notSet_eq h41 x))) fun l st => ?_
        simp only [ev, fin_false]
        rfl
      exact ⟨P, pt_plain P rfl fun l st => by simp only [ev, fin_false, fin_bind]⟩
    · cases h
  | .att a f, k, X, W, C, e, h => by
    simp only [mE] at h
    split at h
    · rename_i a' f' p
      simp only [Bool.and_eq_true, decide_eq_true_eq] at h
      obtain ⟨⟨rfl, h1⟩, h2⟩ := h
      have P : PE X (.Attribute a' f' p) (tE X.K W (ev c false (.att a f'))) := pe_eq (pe_attG h1 (snd_sE a C h2).1) fun l st => by simp only [ev, fin_false]
      exact ⟨P, pt_plain P rfl fun l st => by simp only [ev, fin_false, fin_bind]⟩
    · cases h
  | .rev m a, k, X, W, C, e, h => by
    simp only [mE] at h
    split at h
    · rename_i a' j kk p1 p2 p3 p
      simp only [Bool.and_eq_true, decide_eq_true_eq] at h
      obtain ⟨rfl, h1⟩ := h
      have P : PE X (.Subscript a' (.Slice none none (some (.UnaryOp .USub (.Constant (.int 1) kk p1) p2)) p3) p) (tE X.K W (ev c false (.rev m a))) := pe_eq (pe_revG (m := m) (snd_sE a C h1).1) fun l st => by simp only [ev, fin_false]
      exact ⟨P, pt_plain P rfl fun l st => by simp only [ev, fin_false, fin_bind]⟩
    · cases h
  | .ixl o a, k, X, W, C, e, h => by
    simp only [mE] at h
    split at h
    · rename_i o' f a' eN
      obtain ⟨apos, pos, rfl, hl⟩ := methN_eq eN
      simp only [Bool.and_eq_true, decide_eq_true_eq] at h
      obtain ⟨⟨⟨⟨rfl, h1⟩, h2⟩, h3⟩, h4⟩ := h
      have P : PE X (.Call (.Attribute o' "index" apos) [a'] [] pos) (tE X.K W (ev c false (.ixl o a))) := pe_eq (pe_ixlG h1 hl h2 (snd_sE o C h3).1 (snd_sE a C h4).1) fun l st => by simp only [ev, fin_false] <;> rfl
      refine ⟨P, pt_plain P rfl fun l st => ?_⟩
      simp only [ev, fin_false, fin_bind]
      congr 1
      funext v st
      split <;> simp only [fin_bind, fin_stuck]
    · cases h
  | .jn o a, k, X, W, C, e, h => by
    simp only [mE] at h
    split at h
    · rename_i o' f a' eN
      obtain ⟨apos, pos, rfl, hl⟩ := methN_eq eN
      simp only [Bool.and_eq_true, decide_eq_true_eq] at h
      obtain ⟨⟨⟨⟨rfl, h1⟩, h2⟩, h3⟩, h4⟩ := h
      have P : PE X (.Call (.Attribute o' "join" apos) [a'] [] pos) (tE X.K W (ev c false (.jn o a))) := pe_eq (pe_smG PySem.F.slot_str_join PySem.F.type_str_join jnR h1 hl h2 (snd_sE o C h3).1 (snd_sE a C h4).1) fun l st => by simp only [ev, fin_false] <;> rfl
      refine ⟨P, pt_plain P rfl fun l st => ?_⟩
      simp only [ev, fin_false, fin_bind]
      congr 1
      funext v st
      split <;> simp only [fin_bind, fin_stuck]
    · cases h
  | .spl m o a, k, X, W, C, e, h => by
    simp only [mE] at h
    split at h
    · rename_i o' f a' eN
      obtain ⟨apos, pos, rfl, hl⟩ := methN_eq eN
      simp only [Bool.and_eq_true, decide_eq_true_eq] at h
      obtain ⟨⟨⟨⟨rfl, h1⟩, h2⟩, h3⟩, h4⟩ := h
      have P : PE X (.Call (.Attribute o' "split" apos) [a'] [] pos) (tE X.K W (ev c false (.spl m o a))) := pe_eq (pe_smG PySem.F.slot_str_split PySem.F.type_str_split (splR m) h1 hl h2 (snd_sE o C h3).1 (snd_sE a C h4).1) fun l st => by simp only [ev, fin_false] <;> rfl
      refine ⟨P, pt_plain P rfl fun l st => ?_⟩
      simp only [ev, fin_false, fin_bind]
      congr 1
      funext v st
      split <;> simp only [fin_bind, fin_stuck]
    · cases h
  | .mkx d es, k, X, W, C, e, h => by
    simp only [mE] at h
    split at h
    · rename_i x es' eN
      obtain ⟨p, pos, rfl⟩ := callN_eq eN
      simp only [Bool.and_eq_true, decide_eq_true_eq] at h
      obtain ⟨⟨⟨⟨⟨⟨⟨⟨⟨hcm, rfl⟩, h1⟩, h2⟩, h3⟩, h4⟩, h5⟩, h6⟩, h7⟩, h8⟩ := h
      cases es' with
      | nil => cases h7
      | cons e0 es0 =>
        have P : PE X (.Call (.Name d.name p) (e0 :: es0) [] pos) (tE X.K W (ev c false (.mkx d es))) := pe_eq (pe_mkxG (C.xcs d (by simpa using h3)) ((C.room hcm).mono (by omega)) C.tk (C.gl h1) h2 h4 h8 (snd_sEs es C h5)) fun l st => by simp only [ev, fin_false]
        refine ⟨P, pt_plain P rfl fun l st => ?_⟩
        simp only [ev, fin_false, fin_bind, fin_ite, fin_stuck]
    · cases h
  | .upr o, k, X, W, C, e, h => by
    simp only [mE] at h
    split at h
    · rename_i o' f eN
      obtain ⟨apos, pos, rfl, hl⟩ := methN_eq eN
      simp only [Bool.and_eq_true, decide_eq_true_eq] at h
      obtain ⟨⟨rfl, h1⟩, h3⟩ := h
      have P : PE X (.Call (.Attribute o' "upper" apos) [] [] pos) (tE X.K W (ev c false (.upr o))) := pe_eq (pe_uprG h1 hl (snd_sE o C h3).1) fun l st => by simp only [ev, fin_false]
      exact ⟨P, pt_plain P rfl fun l st => by simp only [ev, fin_false, fin_bind]⟩
    · cases h
  | .iss a k1 k2, k, X, W, C, e, h => by
    simp only [mE] at h
    split at h
    · rename_i f a' y p1 z p2 n tpos eN
      obtain ⟨p, pos, rfl⟩ := callN_eq eN
      simp only [Bool.and_eq_true, decide_eq_true_eq] at h
      obtain ⟨⟨⟨⟨⟨⟨⟨rfl, h1⟩, h2⟩, rfl⟩, h4⟩, rfl⟩, h5⟩, h6⟩ := h
      have P : PE X (.Call (.Name "isinstance" p) [a', .Tuple [.Name (clM k1) p1, .Name (clM k2) p2] n tpos] [] pos) (tE X.K W (ev c false (.iss a k1 k2))) := pe_eq (pe_issG (C.gl h1) (C.bf _ (by decide +kernel)) (C.gl h4) (C.bf _ (by cases k1 <;> decide +kernel)) (C.gl h5) (C.bf _ (by cases k2 <;> decide +kernel)) h2 (snd_sE a C h6).1) fun l st => by simp only [ev] <;> rfl
      refine ⟨P, pt_plain P rfl fun l st => ?_⟩
      simp only [ev, fin_bind]
      congr 1
      funext v st
      split <;> rfl
    · cases h
  | .ixs o a, k, X, W, C, e, h => by
    simp only [mE] at h
    split at h
    · rename_i o' f a' eN
      obtain ⟨apos, pos, rfl, hl⟩ := methN_eq eN
      simp only [Bool.and_eq_true, decide_eq_true_eq] at h
      obtain ⟨⟨⟨⟨rfl, h1⟩, h2⟩, h3⟩, h4⟩ := h
      have P : PE X (.Call (.Attribute o' "index" apos) [a'] [] pos) (tE X.K W (ev c false (.ixs o a))) := pe_eq (pe_ixsG h1 hl h2 (snd_sE o C h3).1 (snd_sE a C h4).1) fun l st => by simp only [ev, fin_false] <;> rfl
      refine ⟨P, pt_plain P rfl fun l st => ?_⟩
      simp only [ev, fin_false, fin_bind]
      congr 1
      funext v st
      split <;> simp only [fin_bind, fin_stuck]
    · cases h
  | .ixg n a, k, X, W, C, e, h => by
    simp only [mE] at h
    split at h
    · rename_i y npos f a' eN
      obtain ⟨apos, pos, rfl, hl⟩ := methN_eq eN
      simp only [Bool.and_eq_true, decide_eq_true_eq] at h
      obtain ⟨⟨⟨⟨⟨⟨rfl, h1⟩, h2⟩, h3⟩, h4⟩, h6⟩, h5⟩ := h
      obtain ⟨d1, d2, d3⟩ := ok_dbg h3
      cases eG : k.G[n]? with
      | none => rw [eG] at h1; cases h1
      | some pr =>
        rw [eG] at h1
        have e1 : pr.1 = y := Option.some.inj h1
        subst e1
        obtain ⟨u, V, m1, m2, m3, m4⟩ := C.glo n pr eG
        obtain ⟨gn, gv⟩ := pr
        have P : PE X (.Call (.Attribute (.Name gn npos) "index" apos) [a'] [] pos) (tE X.K W (ev c false (.ixg n a))) := by
          rw [eG] at h6
          split at h6
          · rename_i l' eq
            cases eq
            obtain ⟨p, ob, rfl, hK, hc, hd⟩ := m4 l' rfl
            exact pe_eq (pe_ixgG (C.gl h2) m1 m2 d1 rfl hK hc hd m3 hl h4 (snd_sE a C h5).1) fun l st => by simp only [ev, fin_false, C.G, eG]
          · cases h6
        refine ⟨P, pt_plain P rfl fun l st => ?_⟩
        simp only [ev, fin_false, fin_bind]
        congr 1
        funext v st
        split <;> simp only [fin_false, fin_stuck]
    · cases h
  | .fld a f, k, X, W, C, e, h => by
    simp only [mE] at h
    split at h
    · rename_i a' f' p
      simp only [Bool.and_eq_true, decide_eq_true_eq] at h
      obtain ⟨⟨rfl, h1⟩, h2⟩ := h
      have P : PE X (.Attribute a' f' p) (tE X.K W (ev c false (.fld a f'))) := pe_eq (pe_fldG h1 (snd_sE a C h2).1) fun l st => by simp only [ev, fin_false]
      exact ⟨P, pt_plain P rfl fun l st => by simp only [ev, fin_false, fin_bind]⟩
    · cases h
  | .dnw, k, X, W, C, e, h => by
    simp only [mE] at h
    split at h
    · rename_i p
      have P : PE X (.Dict [] [] p) (tE X.K W (ev c false .dnw)) := pe_eq pe_dnwG fun l st => by simp only [ev, fin_false]
      exact ⟨P, pt_plain P rfl fun l st => by simp only [ev, fin_false, fin_bind]⟩
    · cases h
  | .dix d a, k, X, W, C, e, h => by
    simp only [mE] at h
    split at h
    · rename_i d' a' p
      simp only [Bool.and_eq_true] at h
      obtain ⟨⟨h1, h2⟩, h3⟩ := h
      have P : PE X (.Subscript d' a' p) (tE X.K W (ev c false (.dix d a))) := pe_eq (pe_dixG C.hu h1 (snd_sE d C h2).1 (snd_sE a C h3).1) fun l st => by simp only [ev, fin_false]
      exact ⟨P, pt_plain P rfl fun l st => by simp only [ev, fin_false, fin_bind]⟩
    · cases h
  | .din a d, k, X, W, C, e, h => by
    simp only [mE] at h
    split at h
    · rename_i a' d' p
      simp only [Bool.and_eq_true, Bool.not_eq_true'] at h
      obtain ⟨⟨h1, h2⟩, h3⟩ := h
      exact ⟨pe_eq (pe_dinG C.hu h1 (snd_sE a C h2).1 (snd_sE d C h3).1) fun l st => by simp only [ev], pt_eq (pt_dinG C.hu h1 (snd_sE a C h2).1 (snd_sE d C h3).1) fun l st => by simp only [ev]⟩
    · cases h
  | .dgt d a b, k, X, W, C, e, h => by
    simp only [mE] at h
    split at h
    · rename_i o' f a' b' eN
      obtain ⟨apos, pos, rfl, hl⟩ := methN_eq eN
      simp only [Bool.and_eq_true, decide_eq_true_eq] at h
      obtain ⟨⟨⟨⟨⟨⟨rfl, h1⟩, h2⟩, h3⟩, h4⟩, h5⟩, h6⟩ := h
      have P : PE X (.Call (.Attribute o' "get" apos) [a', b'] [] pos) (tE X.K W (ev c false (.dgt d a b))) := pe_eq (pe_dgtG C.hu h1 hl h2 h3 (snd_sE d C h4).1 (snd_sE a C h5).1 (snd_sE b C h6).1) fun l st => by
        simp only [ev, fin_false]
        first | done | (congr 1; done) | (congr 1; funext x st1; cases dicOf st1 x <;> rfl)
      refine ⟨P, pt_plain P rfl fun l st => ?_⟩
      simp only [ev, fin_false, fin_bind]
      first | done | (congr 1; done) | (congr 1; funext x st1; cases dicOf st1 x <;> first | rfl | simp only [fin_bind])
    · cases h
  | .mth Cn m f o es ks, k, X, W, C, e, h => by
    simp only [mE] at h
    split at h
    · rename_i o' x es' ks' d eN eT
      obtain ⟨apos, pos, rfl, hl, h28⟩ := methK_eq eN
      simp only [Bool.and_eq_true, decide_eq_true_eq] at h
      obtain ⟨⟨⟨⟨⟨⟨⟨⟨⟨⟨⟨⟨⟨⟨hcm, rfl⟩, hnm⟩, how⟩, hkc⟩, hs⟩, ho⟩, h2⟩, h3⟩, h4⟩, h5⟩, h6⟩, h7⟩, h8⟩, h9⟩ := h
      obtain ⟨kd, hkd, ek⟩ := List.any_eq_true.mp hkc
      have kc : Cls X.K (He.ga X.K Cn) := by
        have := (C.kcs kd hkd).1.cls
        rw [of_decide_eq_true ek] at this
        exact this
      obtain ⟨k1, k2, k3, k4, k5⟩ := snd_sKs ks C h4
      have hcov : ∀ i, i < d.ps → i < es'.length + 1 ∨ i ∈ ks.map (·.1) := fun i hi => by
        have q := List.all_eq_true.mp h7 i (List.mem_range.mpr hi)
        simp only [Bool.or_eq_true, decide_eq_true_eq, List.contains_iff_mem] at q
        exact q
      have P : PE X (.Call (.Attribute o' x apos) es' ks' pos) (tE X.K W (ev c false (.mth Cn x f o es ks))) := pe_eq (pe_mthG how hnm kc (C.fns f d eT) ((C.room hcm).mono (by omega)) C.gd C.tk hs hl h28 h2 (snd_sE o C ho).1 (snd_sEs es C h3) k1 k3 k2 k4 h6 hcov h5 (by rw [← mEs_len h3]; exact evs_len es) (by rw [← k5]; exact evkV_len ks) (fun z l st => by
          have z' : es = [] := by
            have := mEs_len h3
            rw [z] at this
            exact List.length_eq_zero_iff.mp this
          rw [z']
          simp only [evs])) fun l st => by
        simp only [ev, fin_false]
        congr 1
        funext y st0
        split
        · congr 1
          funext xs st1
          rw [evk_eq]
          cases ez : evkV c ks l st1 with
          | ok ws st2 =>
            simp only [R.bind_ok]
            rw [putK_eq (by rw [List.length_map, evkV_len ks _ _ _ _ ez])]
          | exn x st2 => rfl
          | stuck => rfl
        · rfl
      refine ⟨P, pt_plain P rfl fun l st => by
        simp only [ev, fin_false, fin_bind]
        congr 1
        funext y st0
        split
        · simp only [fin_bind]
        · rfl⟩
    · cases h
  | .mak kc f es ks, k, X, W, C, e, h => by
    simp only [mE] at h
    split at h
    · rename_i x es' ks' d eN eT
      obtain ⟨p, pos, rfl⟩ := callN_eq eN
      simp only [Bool.and_eq_true, decide_eq_true_eq] at h
      obtain ⟨⟨⟨⟨⟨⟨⟨⟨⟨⟨⟨⟨⟨⟨hcm, hkc⟩, rfl⟩, h1⟩, hok⟩, hnm⟩, how⟩, h2⟩, h3⟩, h4⟩, h5⟩, h6⟩, h7⟩, h8⟩, h9⟩ := h
      obtain ⟨ko, hmc⟩ := C.kcs kc (by simpa using hkc)
      obtain ⟨k1, k2, k3, k4, k5⟩ := snd_sKs ks C h4
      have hcov : ∀ i, i < d.ps → i < es'.length + 1 ∨ i ∈ ks.map (·.1) := fun i hi => by
        have q := List.all_eq_true.mp h7 i (List.mem_range.mpr hi)
        simp only [Bool.or_eq_true, decide_eq_true_eq, List.contains_iff_mem] at q
        exact q
      have P : PE X (.Call (.Name kc.name p) es' ks' pos) (tE X.K W (ev c false (.mak kc f es ks))) := pe_eq (pe_makG how hnm ko hmc (C.gl h1) hok (C.fns f d eT) ((C.room hcm).mono (by omega)) C.gd C.tk h2 (snd_sEs es C h3) k1 k3 k2 k4 h6 hcov h5 (by rw [← mEs_len h3]; exact evs_len es) (by rw [← k5]; exact evkV_len ks) (fun z l st => by
          have z' : es = [] := by
            have := mEs_len h3
            rw [z] at this
            exact List.length_eq_zero_iff.mp this
          rw [z']
          simp only [evs])) fun l st => by
        simp only [ev, fin_false]
        congr 1
        funext xs st1
        rw [evk_eq]
        cases ez : evkV c ks l st1 with
        | ok ws st2 =>
          simp only [R.bind_ok]
          rw [putK_eq (by rw [List.length_map, evkV_len ks _ _ _ _ ez])]
        | exn x st2 => rfl
        | stuck => rfl
      refine ⟨P, pt_plain P rfl fun l st => by simp only [ev, fin_false, fin_bind]⟩
    · cases h
  | .isx a y, k, X, W, C, e, h => by
    simp only [mE] at h
    split at h
    · rename_i f a' y' p' eN
      obtain ⟨p, pos, rfl⟩ := callN_eq eN
      simp only [Bool.and_eq_true, decide_eq_true_eq] at h
      obtain ⟨⟨⟨⟨⟨⟨⟨rfl, h1⟩, h2⟩, rfl⟩, h4⟩, h6⟩, h7⟩, h5⟩ := h
      have P : PE X (.Call (.Name "isinstance" p) [a', .Name y' p'] [] pos) (tE X.K W (ev c false (.isx a y'))) := pe_eq (pe_isxG (C.gl h1) (C.bf _ (by decide +kernel)) (C.gl h4) h6 (C.knw h7) h2 (snd_sE a C h5).1) fun l st => by simp only [ev] <;> rfl
      refine ⟨P, pt_plain P rfl fun l st => ?_⟩
      simp only [ev, fin_bind]
      congr 1
      funext v st
      split <;> rfl
    · cases h
theorem snd_sEs : ∀ (xs : List Xp) {k : Ck} {X : Cx} {W : WX}, CkE k X W c lv → ∀ {es : List Expr}, mEs k xs es = true → PA X es (tA X.K W (evs c xs))
  | [], k, X, W, C, [], h => pa_eq pa_nilG fun l st => by simp only [evs]
  | [], k, X, W, C, _ :: _, h => by simp only [mEs] at h; cases h
  | x :: xs, k, X, W, C, [], h => by simp only [mEs] at h; cases h
  | x :: xs, k, X, W, C, e :: es, h => by
    simp only [mEs, Bool.and_eq_true] at h
    obtain ⟨⟨h1, h2⟩, h3⟩ := h
    exact pa_eq (pa_consG h1 (snd_sE x C h2).1 (snd_sEs xs C h3)) fun l st => by simp only [evs]
theorem snd_sEo : ∀ (x : Option Xp) {k : Ck} {X : Cx} {W : WX}, CkE k X W c lv → ∀ {e : Option Expr}, mEo k x e = true → PO X e (tOI X.K W (evo c x))
  | none, k, X, W, C, none, h => po_eq po_noneG fun l st => by simp only [evo]
  | none, k, X, W, C, some _, h => by simp only [mEo] at h; cases h
  | some x, k, X, W, C, none, h => by simp only [mEo] at h; cases h
  | some x, k, X, W, C, some e, h => by
    simp only [mEo] at h
    exact po_eq (po_someG (snd_sE x C h).1) fun l st => by simp only [evo] <;> rfl
theorem snd_sKs : ∀ (xs : List (Nat × Xp)) {k : Ck} {X : Cx} {W : WX}, CkE k X W c lv → ∀ {n : Nat} {d : Fd} {es : List Keyword}, mKs k n d xs es = true →
    PK X es (tA X.K W (evkV c xs)) ∧ Named d.N (xs.map (·.1)) (es.filterMap (·.arg)) ∧ (∀ kw ∈ es, kw.arg.isSome = true) ∧ (∀ i ∈ xs.map (·.1), n ≤ i ∧ i < d.ps) ∧ xs.length = es.length
  | [], k, X, W, C, n, d, [], h => ⟨⟨fun pos pins s σ H Q I hw => pk_nilG.run pos pins s σ H Q I (by
      obtain ⟨cf, l, st, hH, hS, q⟩ := hw
      simp only [evkV] at q
      exact ⟨cf, l, st, hH, hS, q⟩)⟩, .nil, fun _ m => by simp at m, fun _ m => by simp at m, rfl⟩
  | [], k, X, W, C, n, d, _ :: _, h => by simp only [mKs] at h; cases h
  | (i, x) :: xs, k, X, W, C, n, d, [], h => by simp only [mKs] at h; cases h
  | (i, x) :: xs, k, X, W, C, n, d, ⟨a, e, kp⟩ :: es, h => by
    cases a with
    | none => simp only [mKs] at h; cases h
    | some y =>
      simp only [mKs, Bool.and_eq_true, decide_eq_true_eq] at h
      obtain ⟨⟨⟨⟨h1, h2⟩, h3⟩, h4⟩, h5⟩ := h
      obtain ⟨k1, k2, k3, k4, k5⟩ := snd_sKs xs C h5
      refine ⟨⟨fun pos pins s σ H Q I hw => (pk_consG (snd_sE x C h4).1 k1).run pos pins s σ H Q I (by
        obtain ⟨cf, l, st, hH, hS, q⟩ := hw
        simp only [evkV] at q
        exact ⟨cf, l, st, hH, hS, q⟩)⟩, ?_, fun kw m => ?_, fun j m => ?_, by rw [List.length_cons, List.length_cons, k5]⟩
      · show Named d.N (i :: xs.map (·.1)) _
        rw [List.filterMap_cons]
        exact .cons h1 k2
      · rcases List.mem_cons.mp m with m | m
        · rw [m]; rfl
        · exact k3 kw m
      · rcases List.mem_cons.mp m with m | m
        · rw [m]; exact ⟨h2, h3⟩
        · exact k4 j m
theorem snd_sF : ∀ (xs : List Xp) {k : Ck} {X : Cx}, CkE k X W0 c lv → ∀ {es : List Expr}, es.length ≤ 1 → mEs k xs es = true → PTs X es (tF X.K (evf c xs))
  | [], k, X, C, [], _, h => ⟨fun pins s σ H Q I ⟨cf, l, st, hH, hS, q⟩ => pts_nil.run pins s σ H Q I (by
      simp only [evf] at q
      exact q.here hH)⟩
  | [], k, X, C, _ :: _, _, h => by simp only [mEs] at h; cases h
  | x :: xs, k, X, C, [], _, h => by simp only [mEs] at h; cases h
  | [x], k, X, C, [e], _, h => by
    simp only [mEs, Bool.and_eq_true] at h
    obtain ⟨⟨h1, h2⟩, h3⟩ := h
    exact ⟨fun pins s σ H Q I ⟨cf, l, st, hH, hS, q⟩ => (pts_one (snd_sE x C h2).2).run pins s σ H Q I (by
      simp only [evf] at q
      refine ⟨cf, l, st, hH, hS, q.bind.mono fun c1 H1 v st1 e1 h1 q1 => ?_⟩
      split at q1
      · exact ⟨true, rfl, q1.here h1⟩
      · exact ⟨false, rfl, q1.here h1⟩
      · exact q1.elim)⟩
  | x :: y :: xs, k, X, C, [e], _, h => by
    simp only [mEs, Bool.and_eq_true] at h
    exact absurd h.2 (by simp)
  | x :: xs, k, X, C, e :: e' :: es, h0, h => by simp at h0
theorem snd_sI : ∀ (x : It) {k : Ck} {X : Cx} {W : WX}, CkE k X W c lv → ∀ {tg e : Expr}, mI k x e = true → (match x with
      | .zip _ _ => isTupE tg
      | .enm _ => isTupE tg
      | _ => true) = true → PI X tg e (tI X.K W (evi c x))
  | .rng es, k, X, W, C, tg, e, h, _ => by
    simp only [mI] at h
    split at h
    · rename_i f es' eN
      obtain ⟨p, pos, rfl⟩ := callN_eq eN
      simp only [Bool.and_eq_true, decide_eq_true_eq] at h
      obtain ⟨⟨⟨⟨⟨rfl, h1⟩, h2⟩, h3⟩, h4⟩, h5⟩ := h
      exact pi_eq (pi_rngG (C.gl h1) (C.bf _ (by decide +kernel)) h2 h4 h5 (snd_sEs es C h3) (by rw [← mEs_len h3]; exact evs_len es)) fun l st => by simp only [evi] <;> rfl
    · cases h
  | .seq a, k, X, W, C, tg, e, h, _ => by
    simp only [mI] at h
    exact pi_eq (pi_seqG (snd_sE a C h).1) fun l st => by simp only [evi] <;> rfl
  | .zip a b, k, X, W, C, tg, e, h, ht => by
    simp only [mI] at h
    split at h
    · rename_i f a' b' eN
      obtain ⟨p, pos, rfl⟩ := callN_eq eN
      simp only [Bool.and_eq_true, decide_eq_true_eq] at h
      obtain ⟨⟨⟨⟨⟨rfl, h1⟩, h2⟩, h3⟩, h4⟩, h5⟩ := h
      cases tg with
      | Tuple elts kk tpos => exact pi_eq (pi_zipG (C.gl h1) (C.bf _ (by decide +kernel)) h2 h3 (snd_sE a C h4).1 (snd_sE b C h5).1) fun l st => by simp only [evi] <;> rfl
      | _ => cases ht
    · cases h
  | .enm a, k, X, W, C, tg, e, h, ht => by
    simp only [mI] at h
    split at h
    · rename_i f a' eN
      obtain ⟨p, pos, rfl⟩ := callN_eq eN
      simp only [Bool.and_eq_true, decide_eq_true_eq] at h
      obtain ⟨⟨⟨rfl, h1⟩, h2⟩, h4⟩ := h
      cases tg with
      | Tuple elts kk tpos => exact pi_eq (pi_enumG (C.gl h1) (C.bf _ (by decide +kernel)) h2 (snd_sE a C h4).1) fun l st => by simp only [evi] <;> rfl
      | _ => cases ht
    · cases h
end
end
end Pv

set_option Elab.async false
set_option linter.all false
set_option maxRecDepth 100000
set_option maxHeartbeats 2000000
namespace Pv
open PySem PySem.Spec PyProof.Rows L2 RZ
/-! ### errors: caught -/
section
variable {X : Cx} {pins : List (Addr × Obj)} {σ : L2.St} {H : Hp} {s s' sI : Shared} {B : Heap}
theorem suiteX (I : L2.Inv X pins σ H s) (a : Addr) : L2.Inv (X.suite a X.pn) pins σ H s := ⟨I.ok.suite _ _, I.os, I.bare, I.base, I.loc, I.cell, I.free, I.freeC, fun p hp => I.pin p hp, I.hok, I.len⟩
theorem unsuiteX {a : Addr} (I : L2.Inv (X.suite a X.pn) pins σ H s) (ok : X.Ok) : L2.Inv X pins σ H s := ⟨ok, I.os, I.bare, I.base, I.loc, I.cell, I.free, I.freeC, fun p hp => I.pin p hp, I.hok, I.len⟩
end
def setX (i : Option Nat) (a : Addr) (σ : L2.St) : L2.St := match i with
  | some i => σ.set i (some (.ref a))
  | none => σ
def endX (i : Option Nat) (D : Ends) : Ends := match i with
  | some i => { nx := fun σ' H' => D.nx (σ'.set i none) H', rt := D.rt, bk := fun σ' H' => D.bk (σ'.set i none) H', ct := fun σ' H' => D.ct (σ'.set i none) H' }
  | none => D
/-- what the clauses wish of an error of the body, one after the other -/
def wX (K : PySem.W.Frag) (Wout : WX) (D : Ends) : List (Value × Option Nat × TS) → WX
  | [] => Wout
  | (c, i, ts) :: r => fun cls d σ H => ∃ b, PySem.W.exmOne K cls c = some b ∧ (b = true → ∀ a, H a = none → ts (endX i D) (setX i a σ) (upd H a (.ext (excφ a cls d)))) ∧ (b = false → wX K Wout D r cls d σ H)
inductive HdX (X : Cx) : List ExceptHandler → List (Value × Option Nat × TS) → Prop
  | nil : HdX X [] []
  | one {x : Str} {c : Value} {ts : TS} {b₀ : Stmt} {suite : List Stmt} {np pos' : Pos} {hds : List ExceptHandler} {l : List (Value × Option Nat × TS)} (hc : Names X x c) (hsu : ∀ a : Addr, PSs (X.suite a X.pn) (b₀ :: suite) ts) (r : HdX X hds l) :
      HdX X (.ExceptHandler (some (.Name x np)) none (b₀ :: suite) pos' :: hds) ((c, none, ts) :: l)
  | as {x n : Str} {i : Nat} {c : Value} {ts : TS} {b₀ : Stmt} {suite : List Stmt} {np pos' : Pos} {hds : List ExceptHandler} {l : List (Value × Option Nat × TS)} (hc : Names X x c) (hi : X.N[i]? = some n) (hln : X.env.kindOf n = some .local) (hsu : ∀ a : Addr, PSs (X.suite a X.pn) (b₀ :: suite) ts) (r : HdX X hds l) :
      HdX X (.ExceptHandler (some (.Name x np)) (some n) (b₀ :: suite) pos' :: hds) ((c, some i, ts) :: l)
section
variable {X : Cx} {body : List Stmt} {h₀ : ExceptHandler} {hds : List ExceptHandler} {l : List (Value × Option Nat × TS)} {pos : Pos} {tb : WX → TS} {Wout : WX}
theorem ps_tryX (hs : X.stack = X.env :: X.outer) (hf : X.env.frame = some X.env.locals) (hN : X.N.Nodup) (tk : Takes X Wout)
    (hb : ∀ (W : WX) (pn : List (Addr × Obj)) (xe : Value → Shared → Prop), Takes (X.tr pn xe) W → PassesOwn (model X.prog X.w) X.A X.env xe → PSs (X.tr pn xe) body (tb W))
    (hh : HdX X (h₀ :: hds) l) : PS X (.Try body (h₀ :: hds) [] [] pos) (fun D σ H => tb (wX X.K Wout D l) D σ H) := by
  refine ⟨fun pins s σ H D I h => ?_⟩
  have ok := I.ok
  have hfr : X.A.frames = some (X.env :: X.outer) := by rw [ok.frames, hs]
  refine wpAny_Try_except ?_
  refine wpAny_mono ((hb (wX X.K Wout D l) (X.pn ++ pins) (fun e s₁ => wpAny (model X.prog X.w) X.A (noteFrame e X.env) (fun _ s₂ => wpAny (model X.prog X.w) X.A (setFlight e none) (fun _ s₃ =>
    wpAny (model X.prog X.w) X.A (handleBy e X.env (h₀ :: hds)) (SP X pins D) X.xe s₃) X.xe s₂) X.xe s₁) (fun u s' xx => ?_) PassesOwn.looking).run [] s σ H D (I.toTry _) h) (fun f s1 hsp => ?_) (fun e s1 he => he)
  · -- the catch
    obtain ⟨a, B, sI, pins', σ', H', cls, d, rfl, J', nb, up, sky, na, os, ag, w⟩ := xx
    have J : L2.Inv X pins σ' H' sI := J'.ofTry ok
    have sky' : Sky B (X.env :: X.outer) a (Zc cls d) X.env.locals s'.heap := by rw [← hs]; exact sky
    show wpAny (model X.prog X.w) X.A (noteFrame (.ref a) X.env) _ _ _
    refine Sky.land Zc.steady hfr hf sky' fun h3 fl3 up3 => ?_
    have J3 : L2.Inv X pins σ' H' { s' with heap := h3 } := J.landed nb fl3.1 (up.trans up3) os ag
    obtain ⟨oe3, vs3, he3, hz3, hd3⟩ := fl3.there
    have notFr : ∀ {h : Heap} {o : Obj} {vs : Array Value}, h.FunFrames B (X.env :: X.outer) → h.get? a = some o → o.data = .fields vs → a ∉ frs (X.env :: X.outer) := fun {h o vs} ff e dd hm => by
      obtain ⟨_, o', e', hnf⟩ := ff.mem hm
      rw [e] at e'; cases e'
      exact hnf _ dd
    have nfr := notFr fl3.2.2.1 he3 hd3
    have nL : a ≠ X.env.locals := fun z => nfr (List.mem_filterMap.mpr ⟨X.env, List.mem_cons_self, by rw [hf, z]⟩)
    have nF : a ∉ X.fs := fun hm => by
      obtain ⟨e, he, q⟩ := List.mem_filterMap.mp hm
      exact nfr (List.mem_filterMap.mpr ⟨e, List.mem_cons_of_mem _ he, q⟩)
    have S3 := J3.suite he3 hd3 na nL nF
    have go : ∀ {hds' : List ExceptHandler} {l' : List (Value × Option Nat × TS)}, HdX X hds' l' → wX X.K Wout D l' cls d σ' H' →
        wpAny (model X.prog X.w) X.A (handleBy (.ref a) X.env hds') (SP X pins D) X.xe { s' with heap := h3 } := by
      intro hds' l' hk
      have test : ∀ {x : Str} {c : Value} {np : Pos}, Names X x c → ∀ {Q : Value → Shared → Prop} {E : Value → Shared → Prop}, Q c { s' with heap := h3 } → wpAny (model X.prog X.w) (X.A.mark (some (.ref a))) (eval (.Name x np) X.env) Q E { s' with heap := h3 } := fun {x c np} hc {Q E} q => by
        obtain ⟨hg, hdbg, hm | ⟨hm, hv, hnn⟩⟩ := hc
        · exact ld_glob (X := X.suite a ((a, oe3) :: (X.pn ++ pins))) S3 hg hm q hdbg
        · exact ld_blt (X := X.suite a ((a, oe3) :: (X.pn ++ pins))) S3 hg hm hv q hnn hdbg
      have LT : PySem.W.Looks (model X.prog X.w) h3 (typeOf (.ref a)) cls := fun A Q E s k q => wpAny_typeOf_ref (k _ _ he3) (by rw [hz3.1]; exact q)
      induction hk with
      | nil =>
        intro w
        refine wpAny_handleBy_nil ?_
        obtain ⟨k1, k2, k3, oe, vs, T, oT, ts', he, hz, hd, h1, hr⟩ := id fl3
        unfold PySem.passOn
        refine wpAny_bind (wpAny_field he hd h1 ?_)
        rw [if_neg (show ¬ ((Value.ref T == Value.none) = true) from by simp)]
        have fin : wpAny (model X.prog X.w) X.A (setFlight (.ref a) X.env.frame) (fun _ s4 => wpAny (model X.prog X.w) X.A (throw (.ref a) : Sem Flow) (SP X pins D) X.xe s4) X.xe { s' with heap := h3 } := by
          rw [hf]
          refine HandSPX.setFlight_upZ fl3 fun h4 hh4 up4 => wpAny_throw (tk _ _ ?_)
          exact ⟨a, B, sI, pins, σ', H', cls, d, rfl, J, nb, (up.trans up3).trans up4, .inr (.inr (by rw [hs]; exact hh4)), na, os, ag, w⟩
        first
          | exact wpAny_bind (wpAny_pure (wpAny_bind fin))
          | exact wpAny_bind fin
      | @one x c ts b₀ suite np pos' hds2 l2 hc hsu r ih =>
        intro w
        obtain ⟨b, hb1, hyes, hno⟩ := w
        refine wpAny_handleBy_cons (codeAny_handlers_test ?_) (by intro q; cases q)
        have LM := PySem.W.exm_one (M := model X.prog X.w) (J3.kIn) LT hb1
        refine test hc (LM.here ?_)
        cases b with
        | true =>
          refine codeAny_handlers_suite ?_
          refine HandSPX.lands_againZ fl3 fun h4 fl4 up4 => ?_
          obtain ⟨oe4, vs4, he4, hz4, hd4⟩ := fl4.there
          have S4 : L2.Inv (X.suite a X.pn) pins σ' (upd H' a (.ext (excφ a cls d))) { s' with heap := h4 } := suiteX (tracked (s' := { s' with heap := h4 }) J nb fl4.1 ((up.trans up3).trans up4) os ag na fl4.2.1 he4 hz4.1 hz4.2 hd4) a
          refine wpAny_mono ((hsu a).run pins _ _ _ _ S4 (hyes rfl a na)) (fun f s6 hsp => ?_) (fun _ _ z => False.elim z)
          cases f with
          | next =>
            obtain ⟨σ6, H6, S6, q6⟩ := hsp
            exact ⟨_, _, unsuiteX S6 ok, q6⟩
          | brk =>
            obtain ⟨σ6, H6, S6, q6⟩ := hsp
            exact ⟨_, _, unsuiteX S6 ok, q6⟩
          | cont =>
            obtain ⟨σ6, H6, S6, q6⟩ := hsp
            exact ⟨_, _, unsuiteX S6 ok, q6⟩
          | ret u =>
            obtain ⟨v6, σ6, H6, S6, r6, q6⟩ := hsp
            exact ⟨_, _, _, unsuiteX S6 ok, r6, q6⟩
        | false =>
          show wpAny _ X.A (handleBy (.ref a) X.env hds2) _ _ _
          exact ih (hno rfl)
      | @as x n i c ts b₀ suite np pos' hds2 l2 hc hi hln hsu r ih =>
        intro w
        obtain ⟨b, hb1, hyes, hno⟩ := w
        refine wpAny_handleBy_cons (codeAny_handlers_test ?_) (by intro q; cases q)
        have LM := PySem.W.exm_one (M := model X.prog X.w) (J3.kIn) LT hb1
        refine test hc (LM.here ?_)
        cases b with
        | true =>
          refine codeAny_handlers_suite_as ?_
          refine HandSPX.lands_againZ fl3 fun h4 fl4 up4 => ?_
          obtain ⟨oe4, vs4, he4, hz4, hd4⟩ := fl4.there
          have S4 : L2.Inv (X.suite a X.pn) pins σ' (upd H' a (.ext (excφ a cls d))) { s' with heap := h4 } := suiteX (tracked (s' := { s' with heap := h4 }) J nb fl4.1 ((up.trans up3).trans up4) os ag na fl4.2.1 he4 hz4.1 hz4.2 hd4) a
          have hloc : Loc X.env.scope n := .inl hln
          refine store_ok (X := X.suite a X.pn) (v := .ref a) S4 hN hi hloc rfl (fun s5 S5 => ?_) (.inr hln)
          refine wpAny_mono ((hsu a).run pins s5 _ _ _ S5 (hyes rfl a na)) (fun f s6 hsp => ?_) (fun _ _ z => False.elim z)
          have end_ : ∀ {σ6 : L2.St} {H6 : Hp} {Q : Shared → Prop}, L2.Inv (X.suite a X.pn) pins σ6 H6 s6 → (∀ s7, L2.Inv X pins (σ6.set i none) H6 s7 → Q s7) →
              wpAny (model X.prog X.w) X.A (do bindName X.env n .none; unbindBehindTheSuite X.env n pos') (fun _ s7 => Q s7) X.xe s6 := fun {σ6 H6 Q} S6 hq => gone_ok (unsuiteX S6 ok) hN hi hln hq
          cases f with
          | next =>
            obtain ⟨σ6, H6, S6, q6⟩ := hsp
            exact end_ S6 fun s7 J7 => ⟨_, _, J7, q6⟩
          | brk =>
            obtain ⟨σ6, H6, S6, q6⟩ := hsp
            exact end_ S6 fun s7 J7 => ⟨_, _, J7, q6⟩
          | cont =>
            obtain ⟨σ6, H6, S6, q6⟩ := hsp
            exact end_ S6 fun s7 J7 => ⟨_, _, J7, q6⟩
          | ret u =>
            obtain ⟨v6, σ6, H6, S6, r6, q6⟩ := hsp
            exact end_ S6 fun s7 J7 => ⟨_, _, _, J7, r6, q6⟩
        | false =>
          show wpAny _ X.A (handleBy (.ref a) X.env hds2) _ _ _
          exact ih (hno rfl)
    exact go hh w
  · cases f with
    | next =>
      obtain ⟨σ', H', J', q⟩ := hsp
      exact wpAny_execs_nil ⟨σ', H', J'.ofTry ok, q⟩
    | brk =>
      obtain ⟨σ', H', J', q⟩ := hsp
      exact ⟨σ', H', J'.ofTry ok, q⟩
    | cont =>
      obtain ⟨σ', H', J', q⟩ := hsp
      exact ⟨σ', H', J'.ofTry ok, q⟩
    | ret u =>
      obtain ⟨v, σ', H', J', r, q⟩ := hsp
      exact ⟨v, σ', H', J'.ofTry ok, r, q⟩
end
/-! ### an own class's __init__ -/
def stI (f : Str) (b : Stmt) : Bool := match b with
  | .Assign [.Attribute (.Name z _) g _] (.Name y _) _ => decide (z = "self") && decide (g = f) && decide (y = f)
  | _ => false
def bodyI : List Str → List Stmt → Bool
  | [], [] => true
  | f :: fs, b :: r => stI f b && bodyI fs r
  | _, _ => false
def initB (d : Xc) (a : Arguments) (body : List Stmt) (sc : Scope) : Bool := scopeB ("self" :: d.fs) (d.fs.length + 1) sc && argsB ("self" :: d.fs) a && bodyI d.fs body && ((("self" : Str) :: d.fs).all fun x => visB sc x && okName x) && decide (d.fs.length ≤ 100) && decide (0 < d.fs.length)
def tIn (K : PySem.W.Frag) : List Str → Nat → TS
  | [], _ => tNext
  | f :: fs, i => tSeq (tOst K f (tVar 0) (tVar i)) (tIn K fs (i + 1))
theorem init_pss {X : Cx} (h0 : X.N[0]? = some ("self" : Str)) (hv0 : Vis X.env.scope "self") : ∀ (fs : List Str) (i : Nat) (body : List Stmt), bodyI fs body = true → (∀ (j : Nat) (f : Str), fs[j]? = some f → X.N[i + j]? = some f ∧ Vis X.env.scope f ∧ okName f = true) → PSs X body (tIn X.K fs i)
  | [], i, [], _, _ => pss_nil
  | [], i, _ :: _, h, _ => by simp [bodyI] at h
  | f :: fs, i, [], h, _ => by simp [bodyI] at h
  | f :: fs, i, b :: r, h, hN => by
    simp only [bodyI, Bool.and_eq_true] at h
    obtain ⟨h1, hr⟩ := h
    unfold stI at h1
    split at h1
    · rename_i z p1 g p2 y p3 p4
      simp only [Bool.and_eq_true, decide_eq_true_eq] at h1
      obtain ⟨⟨rfl, rfl⟩, rfl⟩ := h1
      obtain ⟨n1, n2, n3⟩ := hN 0 _ rfl
      obtain ⟨d1, d2, d3⟩ := ok_dbg n3
      exact pss_cons (ps_ost (pe_var h0 hv0) (pe_var (by simpa using n1) n2 d1 d2)) (init_pss h0 hv0 fs (i + 1) r hr fun j f e => by
        have := hN (j + 1) f (by simpa using e)
        rw [show i + (j + 1) = i + 1 + j by omega] at this
        exact this)
    · cases h1
theorem lookup_same {f : Str} {y : V} {fvs : List (Str × V)} : ((f, y) :: fvs).lookup f = some y := by rw [lookup_put, if_pos rfl]
theorem lookup_other {f g : Str} {y : V} {fvs : List (Str × V)} (h : g ≠ f) : ((f, y) :: fvs).lookup g = fvs.lookup g := by rw [lookup_put, if_neg h]
/-- the further fields -/
theorem init_rest {K : PySem.W.Frag} {C a dx : Addr} (T : OexC K C) {all : List Str} {us : List V} (hnd : all.Nodup) (hl : all.length = us.length) (h100 : all.length ≤ 100) (hno : ∀ f ∈ all, PySem.W.findIn K (.ref C) f = some none) {D : Ends} {σ : L2.St} (h0 : σ[0]? = some (some (.ref a))) (hσ : ∀ (i : Nat) (u : V), us[i]? = some u → σ[i + 1]? = some (some u)) (hda : dx ≠ a) :
    ∀ (fs : List Str) (n : Nat) (fvs : List (Str × V)) (H : Hp), fs = all.drop n → fvs.length = n → H a = some (exo a C (some dx)) → H dx = some (exd dx fvs) → (∀ (i : Nat) (f : Str) (u : V), i < n → all[i]? = some f → us[i]? = some u → fvs.lookup f = some u) →
      (∀ (fvs : List (Str × V)) (H' : Hp), Flds fvs all us → H' dx = some (exd dx fvs) → H' a = some (exo a C (some dx)) → (∀ b, b ≠ a → b ≠ dx → H' b = H b) → D.nx σ H') → tIn K fs (n + 1) D σ H
  | [], n, fvs, H, hfs, hln, ha, hd, hlk, k => by
    refine k fvs H ⟨hl, fun i f u e1 e2 => hlk i f u ?_ e1 e2⟩ hd ha fun _ _ _ => rfl
    have := (List.getElem?_eq_some_iff.mp e1).1
    have h2 := congrArg List.length hfs
    rw [List.length_drop, List.length_nil] at h2
    omega
  | f :: fs, n, fvs, H, hfs, hln, ha, hd, hlk, k => by
    have hn : n < all.length := by
      have h2 := congrArg List.length hfs
      rw [List.length_drop, List.length_cons] at h2
      omega
    have ef : all[n]? = some f := by
      have := congrArg (fun l => l[0]?) hfs
      simp only [List.getElem?_cons_zero, List.getElem?_drop, Nat.add_zero] at this
      exact this.symm
    obtain ⟨u, eu⟩ : ∃ u, us[n]? = some u := ⟨_, List.getElem?_eq_getElem (by omega)⟩
    refine ⟨u, hσ n u eu, .ref a, h0, a, C, rfl, T, hno f (List.mem_of_getElem? ef), .inr ⟨dx, fvs, ha, hd, by omega, ?_⟩⟩
    refine init_rest T hnd hl h100 hno h0 hσ hda fs (n + 1) ((f, u) :: fvs) _ ?_ (by simp [hln]) (by rw [upd_ne (Ne.symm hda)]; exact ha) upd_same (fun i g w hi e1 e2 => ?_) fun fvs' H' q1 q2 q3 q4 => k fvs' H' q1 q2 q3 fun b n1 n2 => by rw [q4 b n1 n2, upd_ne n2]
    · have := congrArg (List.drop 1) hfs
      simp only [List.drop_one, List.tail_cons, List.drop_drop] at this
      exact this
    · by_cases hi2 : i = n
      · subst hi2
        rw [ef] at e1
        rw [eu] at e2
        cases e1
        cases e2
        exact lookup_same
      · have hg : g ≠ f := fun z => hi2 (nodup_at hnd e1 (z ▸ ef))
        rw [lookup_other hg]
        exact hlk i g w (by omega) e1 e2
theorem init_ok {P : Program} {w : World} {K : PySem.W.Frag} {mg : Str → Option Value} {base : Heap} {qual : Str} {params : Arguments} {body : List Stmt} {scope : Scope} {fI : Addr} {fd : FuncData} {d : Xc} {C : Addr} (F : FunD K "__init__" qual params body scope [] [] fI fd) (hB : initB d params body scope = true) (T : OexC K C)
    (hno : ∀ f ∈ d.fs, PySem.W.findIn K (.ref C) f = some none) : FnOk P w K mg base (L2.CX P w) 1 fI fd (("self" : Str) :: d.fs) (spI C d.fs) := by
  simp only [initB, Bool.and_eq_true, decide_eq_true_eq] at hB
  obtain ⟨⟨⟨⟨⟨b1, b2⟩, b3⟩, b4⟩, b5⟩, b6⟩ := hB
  have S0 : FnScope (("self" : Str) :: d.fs) ((("self" : Str) :: d.fs).take (d.fs.length + 1)) scope := by
    simp only [scopeB, Bool.and_eq_true, decide_eq_true_eq, Bool.not_eq_true'] at b1
    obtain ⟨⟨⟨⟨⟨⟨h1, h2⟩, h3⟩, h4⟩, h5⟩, h6⟩, h7⟩ := b1
    refine ⟨?_, h2, h3, h4, ?_, fun x m => ?_, fun y m => ?_⟩
    · split at h1
      · assumption
      · cases h1
    · rw [List.length_take, Nat.min_eq_left h5]
    · have := List.all_eq_true.mp h6 x m
      simp only [locB, Bool.or_eq_true, decide_eq_true_eq] at this
      exact this
    · have := List.all_eq_true.mp h7 y m
      intro z
      rw [z] at this
      cases this
  have et : (("self" : Str) :: d.fs).take (d.fs.length + 1) = ("self" : Str) :: d.fs := List.take_of_length_le (by simp)
  rw [et] at S0
  have vis : ∀ x ∈ (("self" : Str) :: d.fs), Vis scope x ∧ okName x = true := fun x m => by
    have := List.all_eq_true.mp b4 x m
    simp only [Bool.and_eq_true, visB, Bool.or_eq_true, decide_eq_true_eq] at this
    obtain ⟨(h | h) | h, h2⟩ := this
    · exact ⟨.inl h, h2⟩
    · exact ⟨.inr (.inl h), h2⟩
    · exact ⟨.inr (.inr h), h2⟩
  have nd : d.fs.Nodup := (List.nodup_cons.mp S0.nd).2
  refine FunD.ok F S0 (fun vs H Q E q => ?_) fun cdv A outer s H vs Q E hr q => ⟨tIn K d.fs 1, ?_, ?_⟩
  · obtain ⟨a, xs, rfl, hl, _⟩ := q
    rw [List.length_cons, List.length_cons, hl]
  · refine init_pss rfl (vis _ List.mem_cons_self).1 d.fs 1 body b3 fun j f e => ?_
    obtain ⟨v1, v2⟩ := vis f (List.mem_cons_of_mem _ (List.mem_of_getElem? e))
    exact ⟨by rw [Nat.add_comm]; exact e, v1, v2⟩
  · obtain ⟨a, xs, rfl, hl, ha, k⟩ := q
    obtain ⟨f0, fs0, ef⟩ : ∃ f0 fs0, d.fs = f0 :: fs0 := by
      cases e : d.fs with
      | nil => rw [e] at b6; simp at b6
      | cons f0 fs0 => exact ⟨f0, fs0, rfl⟩
    obtain ⟨x0, xs0, ex⟩ : ∃ x0 xs0, xs = x0 :: xs0 := by
      cases xs with
      | nil => rw [ef] at hl; simp at hl
      | cons x0 xs0 => exact ⟨x0, xs0, rfl⟩
    have hs0 : ∀ (i : Nat) (u : V), xs[i]? = some u → (L2.start (("self" : Str) :: d.fs) (.ref a :: xs))[i + 1]? = some (some u) := fun i u e => by
      unfold L2.start
      rw [List.map_cons, List.cons_append, List.getElem?_cons_succ, List.getElem?_append_left (by rw [List.length_map]; exact (List.getElem?_eq_some_iff.mp e).1), List.getElem?_map, e]
      rfl
    have h00 : (L2.start (("self" : Str) :: d.fs) (.ref a :: xs))[0]? = some (some (.ref a)) := rfl
    have hgo := fun dx => init_rest (K := K) (C := C) (a := a) (dx := dx) T nd hl b5 hno (D := { nx := fun _ H' => Q .non H', rt := Q }) h00 hs0
    rw [ef]
    show tSeq (tOst K f0 (tVar 0) (tVar 1)) (tIn K fs0 2) _ _ _
    refine ⟨x0, ?_, .ref a, ?_, a, C, rfl, T, hno f0 (by rw [ef]; exact List.mem_cons_self), .inl ⟨ha, fun dx hdx hda => ?_⟩⟩
    · have := hs0 0 x0 (by rw [ex]; rfl)
      rw [ef] at this
      exact this
    · rw [← ef]
      exact h00
    · have := hgo dx hda fs0 1 [(f0, x0)] (upd (upd H dx (exd dx [(f0, x0)])) a (exo a C (some dx))) (by rw [ef]; rfl) rfl upd_same (by rw [upd_ne hda, upd_same]) (fun i f u hi e1 e2 => ?_) (fun fvs H' q1 q2 q3 q4 => k dx fvs H' hdx hda q1 q2 q3 fun b n1 n2 => by rw [q4 b n1 n2, upd_ne n1, upd_ne n2])
      · rw [ef] at this
        exact this
      · have : i = 0 := by omega
        subst this
        rw [ef] at e1
        rw [ex] at e2
        cases e1
        cases e2
        exact lookup_same
end Pv

set_option Elab.async false
set_option linter.all false
set_option maxRecDepth 100000
set_option maxHeartbeats 1000000
namespace Pv
open PySem PySem.Spec PyProof.Rows L2 RZ
/-! ### statements -/
def RunF (K : PySem.W.Frag) (W : WX) (c : Cf) (H : Hp) (r : Fl) (D : Ends) : Prop := match r with
  | .nx l st => ∀ c' H' σ', Ext c H c' H' → RelH K c' H' st → RelS K c' σ' l → D.nx σ' H'
  | .ret v st => ∀ c' H' x, Ext c H c' H' → RelH K c' H' st → Rep K c' x v → D.rt x H'
  | .brk l st => ∀ c' H' σ', Ext c H c' H' → RelH K c' H' st → RelS K c' σ' l → D.bk σ' H'
  | .cnt l st => ∀ c' H' σ', Ext c H c' H' → RelH K c' H' st → RelS K c' σ' l → D.ct σ' H'
  | .exn x l st => ∀ c' H' σ' cls d, Ext c H c' H' → RelH K c' H' st → RelS K c' σ' l → RepX K c' H' cls d x → W cls d σ' H'
  | .stuck => False
def tS (K : PySem.W.Frag) (W : WX) (f : Env → Sto → Fl) : TS := fun D σ H => ∃ c l st, RelH K c H st ∧ RelS K c σ l ∧ RunF K W c H (f l st) D
theorem _root_.L2.PS.imp {X : Cx} {e : Stmt} {t t' : TS} (h : PS X e t) (i : ∀ D σ H, t' D σ H → t D σ H) : PS X e t' := ⟨fun pins s σ H Q I q => h.run pins s σ H Q I (i Q σ H q)⟩
theorem _root_.L2.PSs.imp {X : Cx} {e : List Stmt} {t t' : TS} (h : PSs X e t) (i : ∀ D σ H, t' D σ H → t D σ H) : PSs X e t' := ⟨fun pins s σ H Q I q => h.run pins s σ H Q I (i Q σ H q)⟩
theorem ps_eq {X : Cx} {W : WX} {e : Stmt} {f g : Env → Sto → Fl} (h : PS X e (tS X.K W g)) (q : ∀ l st, f l st = g l st) : PS X e (tS X.K W f) := by
  have z : f = g := funext fun l => funext fun st => q l st
  rw [z]
  exact h
section
variable {K : PySem.W.Frag} {W : WX} {c c1 : Cf} {H H1 : Hp} {σ : L2.St} {l : Env} {st : Sto} {D : Ends}
theorem RunF.from {r : Fl} (e : Ext c H c1 H1) (h : RunF K W c H r D) : RunF K W c1 H1 r D := by
  cases r with
  | nx l st => exact fun c' H' σ' e' q s => h c' H' σ' (e.trans e') q s
  | ret v st => exact fun c' H' x e' q s => h c' H' x (e.trans e') q s
  | brk l st => exact fun c' H' σ' e' q s => h c' H' σ' (e.trans e') q s
  | cnt l st => exact fun c' H' σ' e' q s => h c' H' σ' (e.trans e') q s
  | exn x l st => exact fun c' H' σ' cls d e' q s => h c' H' σ' cls d (e.trans e') q s
  | stuck => exact h
theorem RunF.fl {α : Type} {r : R α} {f : α → Sto → Fl} (hS : RelS K c σ l) (h : RunF K W c H (r.fl l f) D) : Run K W c σ H r (fun c1 H1 a st1 => RunF K W c1 H1 (f a st1) D) := by
  cases r with
  | ok a st => exact fun c' H' e q => RunF.from e h
  | exn x st => exact fun c' H' cls d e q rx => h c' H' σ cls d e q (hS.mono e) rx
  | stuck => exact h
theorem RunF.nxt (h : RunF K W c H (.nx l st) D) (hH : RelH K c H st) (hS : RelS K c σ l) : D.nx σ H := h c H σ Ext.refl hH hS
end
structure CkS (k : Ck) (X : Cx) (W : WX) (c : Cn) (lv : Nat) : Prop where
  E : CkE k X W c lv
  own : k.cm = true → PassesOwn (model X.prog X.w) X.A X.env X.xe
  stk : X.stack = X.env :: X.outer
  frm : X.env.frame = some X.env.locals
  kind : k.sc.kind = .function
section
variable {k : Ck} {X : Cx} {W : WX} {c : Cn} {lv : Nat}
theorem CkE.nox (C : CkE k X W c lv) : CkE k X.nox W0 c lv where
  N := C.N
  sc := C.sc
  fn := C.fn
  calm := C.calm
  nd := C.nd
  tk := takes0
  room := C.room
  roomH := C.roomH
  hu := C.hu
  xcs := C.xcs
  kcs := C.kcs
  gd := C.gd
  blt := C.blt
  G := C.G
  glo := C.glo
  fns := fun i d h => by
    obtain ⟨e, n, l⟩ := C.fns i d h
    exact ⟨e, n, l⟩
theorem CkS.nox (C : CkS k X W c lv) : CkS k X.nox W0 c lv := ⟨C.E.nox, fun _ => PassesOwn.never, C.stk, C.frm, C.kind⟩
/-- in a try's body -/
theorem CkS.tr (C : CkS k X W c lv) {W' : WX} {pn : List (Addr × Obj)} {xe : Value → Shared → Prop} (tk : Takes (X.tr pn xe) W') (own : PassesOwn (model X.prog X.w) X.A X.env xe) : CkS k (X.tr pn xe) W' c lv :=
  ⟨{ N := C.E.N, sc := C.E.sc, fn := C.E.fn, calm := C.E.calm, nd := C.E.nd, tk := tk, room := C.E.room, roomH := C.E.roomH, hu := C.E.hu, xcs := C.E.xcs, kcs := C.E.kcs, gd := C.E.gd, blt := C.E.blt, G := C.E.G, glo := C.E.glo, fns := fun i d h => by
      obtain ⟨e, n, l⟩ := C.E.fns i d h
      exact ⟨e, n, l⟩ }, fun _ => own, C.stk, C.frm, C.kind⟩
/-- in an except suite -/
theorem CkS.suite (C : CkS k X W c lv) (a : Addr) : CkS k.hot (X.suite a X.pn) W0 c lv :=
  ⟨{ N := C.E.N, sc := C.E.sc, fn := C.E.fn, calm := (fun z => by cases z), nd := C.E.nd, tk := takes0, room := (fun z => by cases z), roomH := ⟨C.E.roomH.dp, C.E.roomH.un⟩, hu := C.E.hu, xcs := C.E.xcs, kcs := C.E.kcs, gd := C.E.gd, blt := C.E.blt, G := C.E.G, glo := C.E.glo, fns := fun i d h => by
      obtain ⟨e, n, l⟩ := C.E.fns i d h
      exact ⟨e, n, l⟩ }, (fun z => by cases z), C.stk, C.frm, C.kind⟩
/-- raise C(e, ..) -/
theorem ps_raiseG {d : Xc} {e : Expr} {es : List Expr} {A : Env → Sto → R (List Val)} {p pos pos2 : Pos} (hc : X.calm = true) (T : XcAt X.prog X.w X.K X.mg X.base d) (hr : Room 2 X.A) (tk : Takes X W) (hg : Gl X d.name) (hok : okName d.name = true) (hn : (e :: es).all nst = true) (hz : d.fs.length ≤ 100) (ha : PA X (e :: es) (tA X.K W A)) :
    PS X (.Raise (some (.Call (.Name d.name p) (e :: es) [] pos)) none pos2) (tS X.K W fun l st => (A l st).fl l fun xs st => if xs.length = d.fs.length then .exn ⟨d, xs⟩ l st else .stuck) := by
  rw [List.all_cons, Bool.and_eq_true] at hn
  obtain ⟨d1, d2, d3⟩ := ok_dbg hok
  obtain ⟨fI, fd, ps, iC, tI, F1, hb⟩ := T.ini
  refine (ps_raise hc tk (pmk_oex (dvs := []) T.T iC tI F1 hr hb .nil (passes_call tk (E := fun _ _ _ => False) (fun _ _ _ _ h => h.elim)) hg T.gC ha d1 (nst_eq hn.1) (stars_eq hn.2))).imp fun D σ H ⟨cf, l, st, hH, hS, q⟩ => ?_
  refine ⟨cf, l, st, hH, hS, (q.fl hS).mono fun c1 H1 xs st1 e1 h1 q1 vs rvs => ?_⟩
  split at q1
  · rename_i hlen
    have hl : vs.length = d.fs.length := by rw [rvs.length]; exact hlen
    refine ⟨by omega, fun a na => ⟨a, vs, by rw [List.append_nil], hl.symm, upd_same, fun dx fvs H' ndx nda hfl e1' e2' hrest => ⟨rfl, dx, fvs, e2', e1', ?_, ?_⟩⟩⟩
    · rw [upd_ne nda] at ndx
      exact ndx
    · rw [upd_ne nda] at ndx
      have eH : upd (del H' a) dx (.xd fvs) = upd H1 dx (.xd fvs) := by
        funext b
        by_cases hb1 : b = dx
        · rw [hb1, upd_same, upd_same]
        · rw [upd_ne hb1, upd_ne hb1]
          by_cases hb2 : b = a
          · rw [hb2, del_same, na]
          · rw [del_ne hb2, hrest b hb2 hb1, upd_ne hb2]
      rw [eH]
      obtain ⟨e2, h2⟩ := h1.new ndx (.xd fvs)
      exact q1 _ _ σ _ _ e2 h2 ((hS.mono e1).mono e2) ⟨dx, vs, fvs, rfl, rfl, by exact upd_same, hfl, rvs.mono e2, T.ok⟩
  · exact q1.elim
/-- the clauses, one after the other -/
theorem hs_ok {K : PySem.W.Frag} {x : Xn} {l : Env} {st : Sto} {D : Ends} {cf : Cf} {H : Hp} {σ : L2.St} {cls : Value} {dd : Option Addr} (hH : RelH K cf H st) (hS : RelS K cf σ l) (rx : RepX K cf H cls dd x) : ∀ (hs : List Hd), RunF K W cf H (evHs c hs x l st) D →
    wX K W D (hs.map fun h => match h with | .mk C i b => (xcls K C, i, tS K W0 (evSs c b))) cls dd σ H
  | [], q => by
    simp only [evHs] at q
    exact q cf H σ cls dd Ext.refl hH hS rx
  | .mk C i b :: hs, q => by
    simp only [evHs] at q
    obtain ⟨d, us, fvs, rfl, rfl, r1, r2, r3, r4⟩ := rx
    cases ea : x.d.all.contains C with
    | false => rw [ea] at q; exact q.elim
    | true =>
      have hC : C ∈ x.d.all := by simpa using ea
      refine ⟨_, r4.exm C hC, fun eb a na => ?_, fun eb => ?_⟩
      · rw [ea, eb] at q
        simp only at q
        obtain ⟨e2, h2⟩ := hH.new na (.ext (excφ a (.ref (He.ga K x.d.name)) (some d)))
        have nd : d ≠ a := ne_of_none (hH.sub _ _ r1) na
        have rp : Rep K ⟨upd cf.F a (.ext (excφ a (.ref (He.ga K x.d.name)) (some d))), cf.φ⟩ (.ref a) x.v := .exc (by exact upd_same) (by show upd cf.F a _ d = _; rw [upd_ne nd]; exact r1) r2 (r3.mono e2) r4
        have s2 : RelS K ⟨upd cf.F a (.ext (excφ a (.ref (He.ga K x.d.name)) (some d))), cf.φ⟩ (setX i a σ) (bindX i x l) := by
          cases i with
          | none => exact hS.mono e2
          | some i => exact (hS.mono e2).set rp
        refine ⟨_, _, _, h2, s2, ?_⟩
        cases eE : evSs c b (bindX i x l) st with
        | nx l2 st2 =>
          rw [eE] at q
          intro c3 H3 σ3 e3 h3 s3
          cases i with
          | none => exact q c3 H3 σ3 (e2.trans e3) h3 s3
          | some i => exact q c3 H3 _ (e2.trans e3) h3 s3.unset
        | ret v st2 =>
          rw [eE] at q
          intro c3 H3 y e3 h3 ry
          cases i with
          | none => exact q c3 H3 y (e2.trans e3) h3 ry
          | some i => exact q c3 H3 y (e2.trans e3) h3 ry
        | brk l2 st2 =>
          rw [eE] at q
          intro c3 H3 σ3 e3 h3 s3
          cases i with
          | none => exact q c3 H3 σ3 (e2.trans e3) h3 s3
          | some i => exact q c3 H3 _ (e2.trans e3) h3 s3.unset
        | cnt l2 st2 =>
          rw [eE] at q
          intro c3 H3 σ3 e3 h3 s3
          cases i with
          | none => exact q c3 H3 σ3 (e2.trans e3) h3 s3
          | some i => exact q c3 H3 _ (e2.trans e3) h3 s3.unset
        | exn y l2 st2 =>
          rw [eE] at q
          exact q.elim
        | stuck =>
          rw [eE] at q
          exact q.elim
      · rw [ea, eb] at q
        exact hs_ok hH hS ⟨d, us, fvs, rfl, rfl, r1, r2, r3, r4⟩ hs q
theorem CkE.nms {k : Ck} {X : Cx} {W : WX} {c : Cn} {lv : Nat} (C : CkE k X W c lv) {y : Str} (hg : glB k.sc y = true) (ho : okName y = true) (h : k.knows y = true) : Names X y (xcls X.K y) := by
  obtain ⟨d1, d2, d3⟩ := ok_dbg ho
  refine ⟨C.gl hg, d1, ?_⟩
  rcases C.knw h with q | ⟨q1, q2⟩
  · exact .inl q
  · exact .inr ⟨q1, q2, d3⟩
/-! in-place operations -/
theorem iop_mulW : OpR X (inplaceOp .Mult) (rI CMulW fun i j => .int (i * j)) := L2.opI fun _ _ _ _ _ _ _ hc q => imul_int q hc.ok
theorem augR {o : Op} (ho : augB o = true) {H : Hp} {i j k : Int} (e : opI o i j = some k) {pins : List (Addr × Obj)} {s : Shared} {σ : L2.St} {Q : VK} {u v : Value} (I : Inv X pins σ H s) (ru : RelV (.int i) u) (rv : RelV (.int j) v) (q : Q (.int k) H) :
    wpAny (model X.prog X.w) X.A (inplaceOp (opM o) u v) (EP X pins σ Q) X.xe s := by
  cases o with
  | add =>
    cases e
    exact iop_add pins s σ H _ _ _ _ Q I ru rv ⟨i, j, rfl, rfl, q⟩
  | sub =>
    cases e
    exact iop_sub pins s σ H _ _ _ _ Q I ru rv ⟨i, j, rfl, rfl, q⟩
  | mul =>
    simp only [opI] at e
    split at e
    · rename_i hm
      cases e
      rcases hm with hm | hm | hm
      · exact iop_mul pins s σ H _ _ _ _ Q I ru rv ⟨i, j, rfl, rfl, .inl hm, q⟩
      · exact iop_mul pins s σ H _ _ _ _ Q I ru rv ⟨i, j, rfl, rfl, .inr hm, q⟩
      · exact iop_mulW pins s σ H _ _ _ _ Q I ru rv ⟨i, j, rfl, rfl, hm, q⟩
    · cases e
  | fdiv =>
    simp only [opI] at e
    split at e
    · rename_i hm
      cases e
      exact iop_fdivX pins s σ H _ _ _ _ Q I ru rv ⟨i, j, rfl, rfl, hm, q⟩
    · cases e
  | mod =>
    simp only [opI] at e
    split at e
    · rename_i hm
      cases e
      exact iop_mod pins s σ H _ _ _ _ Q I ru rv ⟨i, j, rfl, rfl, hm, q⟩
    · cases e
  | pow => cases ho
  | shl =>
    simp only [opI] at e
    split at e
    · rename_i hm
      cases e
      exact iop_shl pins s σ H _ _ _ _ Q I ru rv ⟨i, j, rfl, rfl, hm, q⟩
    · cases e
  | shr =>
    simp only [opI] at e
    split at e
    · rename_i hm
      cases e
      exact iop_shr pins s σ H _ _ _ _ Q I ru rv ⟨i, j, rfl, rfl, hm, q⟩
    · cases e
  | band =>
    cases e
    exact iop_and pins s σ H _ _ _ _ Q I ru rv ⟨i, j, rfl, rfl, q⟩
/-! for, while -/
theorem ps_forG {tgE iter : Expr} {body : List Stmt} {pos : Pos} {tg : Tg} {I : Env → Sto → R Its} {B : Env → Sto → Fl} (hp : PassesOwn (model X.prog X.w) X.A X.env X.xe) (hc : X.calm = true) (hi : PI X tgE iter (tI X.K W I)) (hg : PG X tgE (gTg X.K tg))
    (hb : PSs X body (tS X.K W B)) (hs : notSet iter = true) : PS X (.For tgE iter body [] pos) (tS X.K W fun l st => (I l st).fl l fun J st => forL B tg J.2 J.1 l st) := by
  refine (ps_for hp hc hi hg hb (notSet_eq hs)).imp fun D σ H ⟨cf, l, st, hH, hS, q⟩ => ?_
  refine ⟨cf, l, st, hH, hS, (q.fl hS).mono fun c1 H1 P st1 e1 h1 q1 It hW => ?_⟩
  refine ⟨fun i mm σ' H' => mm = P.1.length - i ∧ i ≤ P.1.length ∧ ∃ c2 l2 st2, Ext c1 H1 c2 H' ∧ RelH X.K c2 H' st2 ∧ RelS X.K c2 σ' l2 ∧ RunF X.K W c2 H' (forL B tg P.2 (P.1.drop i) l2 st2) D,
    ⟨P.1.length, by simp, Nat.zero_le _, c1, l, st1, Ext.refl, h1, hS.mono e1, by rw [List.drop_zero]; exact q1⟩, ?_⟩
  rintro i mm σ2 H2 ⟨rfl, hi, c2, l2, st2, e2, h2, s2, q2⟩
  by_cases hlt : i < P.1.length
  · obtain ⟨v, ev⟩ := get_some hlt
    have ed : P.1.drop i = v :: P.1.drop (i + 1) := by
      rw [List.drop_eq_getElem_cons hlt]
      rw [List.getElem?_eq_getElem hlt] at ev
      rw [Option.some.inj ev]
    rw [ed] at q2
    by_cases hgd : guardOk st2 P.2
    · rw [forL, if_pos hgd] at q2
      obtain ⟨_, wk⟩ := hW c2 H2 st2 e2.to0 h2 hgd
      obtain ⟨go, yl⟩ := wk i hlt
      refine .inr ⟨go, fun σ' H' => ∃ c2 l2 st2, Ext c1 H1 c2 H' ∧ RelH X.K c2 H' st2 ∧ RelS X.K c2 σ' l2 ∧ RunF X.K W c2 H' (forL B tg P.2 (P.1.drop (i + 1)) l2 st2) D, fun σ' H' hx => ⟨P.1.length - (i + 1), by omega, rfl, hlt, hx⟩, fun x H3 hy => ?_⟩
      obtain ⟨c3, v', e3, h3, ev', r3⟩ := yl x H3 hy
      have z : v' = v := Option.some.inj (ev'.symm.trans ev)
      subst z
      cases et : tgSet tg v' l2 with
      | none =>
        rw [et] at q2
        exact q2.elim
      | some l3 =>
        rw [et] at q2
        refine gTg_ok h3 (s2.mono e3) r3 et fun σ' hS' _ => ⟨c3, l3, st2, h3, hS', ?_⟩
        cases eB : B l3 st2 with
        | nx l4 st4 =>
          simp only [eB] at q2
          exact fun c4 H4 σ4 e4 h4 s4 => ⟨c4, l4, st4, (e2.trans e3).trans e4, h4, s4, RunF.from (e3.trans e4) q2⟩
        | cnt l4 st4 =>
          simp only [eB] at q2
          exact fun c4 H4 σ4 e4 h4 s4 => ⟨c4, l4, st4, (e2.trans e3).trans e4, h4, s4, RunF.from (e3.trans e4) q2⟩
        | brk l4 st4 =>
          simp only [eB] at q2
          exact fun c4 H4 σ4 e4 h4 s4 => q2 c4 H4 σ4 (e3.trans e4) h4 s4
        | ret v4 st4 =>
          simp only [eB] at q2
          exact fun c4 H4 x4 e4 h4 r4 => q2 c4 H4 x4 (e3.trans e4) h4 r4
        | exn x4 l4 st4 =>
          simp only [eB] at q2
          exact fun c4 H4 σ4 cls d e4 h4 s4 r4 => q2 c4 H4 σ4 cls d (e3.trans e4) h4 s4 r4
        | stuck =>
          simp only [eB] at q2
          exact q2.elim
    · rw [forL, if_neg hgd] at q2
      exact q2.elim
  · have e : i = P.1.length := by omega
    subst e
    rw [List.drop_length] at q2
    by_cases hgd : guardOk st2 P.2
    · rw [forL, if_pos hgd] at q2
      obtain ⟨stop, _⟩ := hW c2 H2 st2 e2.to0 h2 hgd
      exact .inl ⟨stop _ (Nat.le_refl _), q2.nxt h2 s2⟩
    · rw [forL, if_neg hgd] at q2
      exact q2.elim
theorem ps_whG {cond : Expr} {body : List Stmt} {pos : Pos} {A : Env → Sto → R Val} {B : Env → Sto → Fl} (n : Nat) (hp : PassesOwn (model X.prog X.w) X.A X.env X.xe) (hc : PT X cond (tT X.K W A)) (hb : PSs X body (tS X.K W B)) : PS X (.While cond body [] pos) (tS X.K W fun l st => whL A B n l st) := by
  refine (ps_while hp hc hb).imp fun D σ H ⟨cf, l, st, hH, hS, q⟩ => ?_
  refine ⟨fun m σ' H' => ∃ c2 l2 st2, RelH X.K c2 H' st2 ∧ RelS X.K c2 σ' l2 ∧ RunF X.K W c2 H' (whL A B m l2 st2) D, ⟨n, cf, l, st, hH, hS, q⟩, ?_⟩
  rintro m σ2 H2 ⟨c2, l2, st2, h2, s2, q2⟩
  cases m with
  | zero =>
    rw [whL] at q2
    exact q2.elim
  | succ m =>
    rw [whL] at q2
    refine ⟨c2, l2, st2, h2, s2, ?_⟩
    cases eA : A l2 st2 with
    | stuck =>
      simp only [eA] at q2
      exact q2.elim
    | exn x st3 =>
      simp only [eA] at q2
      exact fun c' H' cls d e h rx => q2 c' H' σ2 cls d e h (s2.mono e) rx
    | ok v st3 =>
      intro c3 H3 e3 h3
      cases v with
      | bl b =>
        cases b with
        | true =>
          simp only [eA] at q2
          refine ⟨true, rfl, iteT ⟨fun σ' H' => ∃ c2 l2 st2, RelH X.K c2 H' st2 ∧ RelS X.K c2 σ' l2 ∧ RunF X.K W c2 H' (whL A B m l2 st2) D, fun σ' H' hx => ⟨m, Nat.lt_succ_self m, hx⟩, c3, l2, st3, h3, s2.mono e3, ?_⟩⟩
          cases eB : B l2 st3 with
          | nx l4 st4 =>
            simp only [eB] at q2
            exact fun c4 H4 σ4 e4 h4 s4 => ⟨c4, l4, st4, h4, s4, RunF.from (e3.trans e4) q2⟩
          | cnt l4 st4 =>
            simp only [eB] at q2
            exact fun c4 H4 σ4 e4 h4 s4 => ⟨c4, l4, st4, h4, s4, RunF.from (e3.trans e4) q2⟩
          | brk l4 st4 =>
            simp only [eB] at q2
            exact fun c4 H4 σ4 e4 h4 s4 => q2 c4 H4 σ4 (e3.trans e4) h4 s4
          | ret v4 st4 =>
            simp only [eB] at q2
            exact fun c4 H4 x4 e4 h4 r4 => q2 c4 H4 x4 (e3.trans e4) h4 r4
          | exn x4 l4 st4 =>
            simp only [eB] at q2
            exact fun c4 H4 σ4 cls d e4 h4 s4 r4 => q2 c4 H4 σ4 cls d (e3.trans e4) h4 s4 r4
          | stuck =>
            simp only [eB] at q2
            exact q2.elim
        | false =>
          simp only [eA] at q2
          exact ⟨false, rfl, iteF (q2 c3 H3 σ2 e3 h3 (s2.mono e3))⟩
      | _ =>
        simp only [eA] at q2
        exact q2.elim
end
/-! ### the ghost: a list of one's own stands from now on -/
section
variable {K : PySem.W.Frag} {c : Cf} {H : Hp} {st : Sto}
mutual
theorem Rep.pure {v : V} {d : Val} {F : Hp} {φ : List Addr} (hF : Same c.F F) (p : pureV d = true) (h : Rep K c v d) : Rep K ⟨F, φ⟩ v d := by
  cases h with
  | non => exact .non
  | bl b => exact .bl b
  | int i => exact .int i
  | str s => exact .str s
  | tup h1 h2 =>
    simp only [pureV] at p
    exact .tup (hF _ _ h1) (Reps.pure hF p h2)
  | gtp h1 h2 =>
    simp only [pureV] at p
    exact .gtp (SqT.mono hF h1) (Reps.pure hF p h2)
  | lst h1 h2 =>
    simp only [pureV] at p
    exact .lst (hF _ _ h1) (Reps.pure hF p h2)
  | scr h1 => exact .scr (Same.seq hF h1)
  | ref h1 => simp only [pureV] at p; cases p
  | rng h1 => exact .rng (hF _ _ h1)
  | exc h1 h2 h3 h4 h5 =>
    simp only [pureV] at p
    exact .exc (hF _ _ h1) (hF _ _ h2) h3 (Reps.pure hF p h4) h5
termination_by sizeOf d
theorem Reps.pure {vs : List V} {l : List Val} {F : Hp} {φ : List Addr} (hF : Same c.F F) (p : pureVs l = true) (h : Reps K c vs l) : Reps K ⟨F, φ⟩ vs l := by
  cases h with
  | nil => exact .nil
  | cons h1 h2 =>
    simp only [pureVs, Bool.and_eq_true] at p
    exact .cons (Rep.pure hF p.1 h1) (Reps.pure hF p.2 h2)
termination_by sizeOf l
end
/-- what the addresses at ns hold stands from now on -/
def frzF (c : Cf) (H : Hp) (ns : List Nat) : Hp := fun a => if ∃ n ∈ ns, c.φ[n]? = some a then H a else c.F a
theorem frz_same (h : RelH K c H st) (ns : List Nat) : Same c.F (frzF c H ns) := fun a o e => by
  unfold frzF
  split
  · exact h.sub a o e
  · exact e
theorem kill_len : ∀ (ns : List Nat) (st : Sto), (killAll ns st).length = st.length
  | [], _ => rfl
  | n :: ns, st => by rw [killAll, kill_len ns, List.length_set]
theorem kill_get : ∀ (ns : List Nat) (st : Sto) {i : Nat} {l : Ob}, live l = true → (killAll ns st)[i]? = some l → i ∉ ns ∧ st[i]? = some l
  | [], _, _, _, _, h => ⟨by simp, h⟩
  | n :: ns, st, i, l, lv, h => by
    obtain ⟨h1, h2⟩ := kill_get ns _ lv h
    by_cases e : n = i
    · subst e
      rw [List.getElem?_set] at h2
      split at h2
      · split at h2
        · cases h2
          cases lv
        · cases h2
      · rename_i z
        exact absurd rfl z
    · rw [List.getElem?_set_ne e] at h2
      exact ⟨fun m => (List.mem_cons.mp m).elim (fun z => e z.symm) h1, h2⟩
theorem frz_ext (h : RelH K c H st) (ns : List Nat) : Ext c H ⟨frzF c H ns, c.φ⟩ H ∧ RelH K ⟨frzF c H ns, c.φ⟩ H (killAll ns st) := by
  refine ⟨⟨frz_same h ns, List.prefix_refl _, fun a o e n => ⟨e, n⟩, fun a o e n z => ?_⟩, ⟨fun a o e => ?_, by rw [kill_len]; exact h.len, h.nd, h.all, fun n l e lv => ?_⟩⟩
  · show frzF c H ns a = none
    unfold frzF
    rw [if_neg (fun ⟨i, _, q⟩ => n (List.mem_of_getElem? q))]
    exact z
  · have e : frzF c H ns a = some o := e
    unfold frzF at e
    split at e
    · exact e
    · exact h.sub a o e
  · obtain ⟨e1, e2⟩ := kill_get ns st lv e
    obtain ⟨a, vs, q1, q2, q3, q4⟩ := h.obo n l e2 lv
    refine ⟨a, vs, q1, ?_, q3, ObS.mono' (c := c) (c' := ⟨frzF c H ns, c.φ⟩) (frz_same h ns) (List.prefix_refl _) q4⟩
    show frzF c H ns a = none
    unfold frzF
    rw [if_neg]
    · exact q2
    · rintro ⟨j, hj, q⟩
      exact e1 (nodup_at h.nd q1 q ▸ hj)
theorem thaw1_ok (h : RelH K c H st) {v u : Val} {a : List Nat} {x : V} (e : thaw1 st v = some (u, a)) (r : Rep K c x v) (ns : List Nat) (hn : ∀ n ∈ a, n ∈ ns) : Rep K ⟨frzF c H ns, c.φ⟩ x u := by
  unfold thaw1 at e
  split at e
  · rename_i n
    split at e
    · rename_i l el
      split at e
      · rename_i hp
        cases e
        cases r with
        | ref hφ =>
          obtain ⟨b, vs, q1, q2, q3, q4⟩ := h.obs n l el
          have z := Option.some.inj (q1.symm.trans hφ)
          subst z
          refine .lst (vs := vs) ?_ (Reps.pure (frz_same h ns) hp q4)
          show frzF c H ns b = _
          unfold frzF
          rw [if_pos ⟨n, hn n (by simp), q1⟩]
          exact q3
      · cases e
    · cases e
  · split at e
    · rename_i hp
      cases e
      exact Rep.pure (frz_same h ns) hp r
    · cases e
theorem thawL_ok (h : RelH K c H st) (ns : List Nat) : ∀ {vs us : List Val} {a : List Nat} {xs : List V}, thawL st vs = some (us, a) → Reps K c xs vs → (∀ n ∈ a, n ∈ ns) → Reps K ⟨frzF c H ns, c.φ⟩ xs us
  | [], us, a, xs, e, r, hn => by
    cases e
    cases r
    exact .nil
  | v :: vs, us, a, xs, e, r, hn => by
    cases r with
    | cons r1 r2 =>
      rw [thawL] at e
      split at e
      · rename_i y a1 ys a2 e1 e2
        cases e
        exact .cons (thaw1_ok h e1 r1 ns fun n m => hn n (List.mem_append_left _ m)) (thawL_ok h ns e2 r2 fun n m => hn n (List.mem_append_right _ m))
      · cases e
theorem frz_ok {i : Nat} {l : Env} {σ : L2.St} {l' : Env} {st' : Sto} (h : RelH K c H st) (hS : RelS K c σ l) (e : frzEv i l st = .nx l' st') : ∃ c', Ext c H c' H ∧ RelH K c' H st' ∧ RelS K c' σ l' := by
  unfold frzEv at e
  split at e
  · rename_i n en
    split at e
    · rename_i xs ex
      split at e
      · rename_i ys ns et
        cases e
        obtain ⟨e1, h1⟩ := frz_ext h (n :: ns)
        refine ⟨_, e1, h1, ?_⟩
        obtain ⟨x, q1, q2⟩ := hS.2 i _ en
        cases q2 with
        | @ref b _ hφ =>
          obtain ⟨b', vs, p1, p2, p3, p4⟩ := h.obs n xs ex
          have z := Option.some.inj (p1.symm.trans hφ)
          subst z
          have r : Rep K ⟨frzF c H (n :: ns), c.φ⟩ (.ref b') (.lst ys) := by
            refine .lst (vs := vs) ?_ (thawL_ok h (n :: ns) et p4 fun m hm => List.mem_cons_of_mem _ hm)
            show frzF c H (n :: ns) b' = _
            unfold frzF
            rw [if_pos ⟨n, by simp, p1⟩]
            exact p3
          have z := (hS.mono e1).set (i := i) r
          have w : σ.set i (some (V.ref b')) = σ := by
            apply List.ext_getElem?
            intro j
            by_cases hj : i = j
            · subst hj
              rw [List.getElem?_set_self (List.getElem?_eq_some_iff.mp q1).1, q1]
            · rw [List.getElem?_set_ne hj]
          rw [w] at z
          exact z
      · cases e
    · cases e
  · cases e
end
section
variable {k : Ck} {X : Cx} {W : WX} {c : Cn} {lv : Nat}
theorem notComp_sw {e : Expr} {t : Option Expr} {n : Nat} {env : PySem.Env} (h : notComp e = true) : swapsWith e t n env = pure false := by
  cases e <;> first | rfl | cases h
theorem notLoc_sw {e : Expr} {x : Str} {p : Pos} {n : Nat} {env : PySem.Env} (h : env.scope.names.lookup x ≠ some .local) : swapsWith e (some (.Name x p)) n env = pure false := by
  have ky : (env.kindOf x == some NameKind.local) = false := by
    have e1 : env.kindOf x = env.scope.names.lookup x := rfl
    rw [e1]
    cases q : env.scope.names.lookup x with
    | none => rfl
    | some k =>
      cases k with
      | «local» => exact absurd q h
      | _ => rfl
  cases e <;> first | rfl | (unfold swapsWith; simp only [ky, Bool.and_false, Bool.false_and] <;> rfl)
theorem notComp_sole {e t : Expr} {n : Nat} {env : PySem.Env} (h : notComp e = true) : swapsWithSole [t] e n env = pure false := by
  show swapsWith e (some t) n env = pure false
  exact notComp_sw h
theorem notTup_sw {es : List Expr} {k : Nat} {p : Pos} {e : Expr} {env : PySem.Env} (h : notTup e = true) : swappedStores [.Tuple es k p] e env = pure none := by
  cases e <;> first | rfl | cases h
theorem swN_ok {ts vs : List Expr} {kt k2 : Nat} {pt p2 : Pos} {env : PySem.Env} {r : Option (List Str)} (h : swN env.scope ts vs = some r) : swappedStores [.Tuple ts kt pt] (.Tuple vs k2 p2) env = pure r := by
  unfold swN at h
  unfold swappedStores
  simp only [pure_bind]
  show (if (!(ts.length == 2 || ts.length == 3) || vs.length != ts.length || bkOf env.scope != .function) = true then _ else _) = _
  split at h
  · rename_i c
    cases h
    exact if_pos c
  · rename_i c
    refine (if_neg c).trans ?_
    split at h
    · rename_i c2
      cases h
      exact if_pos c2
    · rename_i c2
      refine (if_neg c2).trans ?_
      simp only at h
      split at h
      · rename_i c3
        cases h
        exact if_pos c3
      · rename_i c3
        refine (if_neg c3).trans ?_
        split at h
        · rename_i c4
          cases h
          exact if_pos c4
        · rename_i c4
          refine (if_neg c4).trans ?_
          split at h
          · cases h
          · rename_i c5
            cases h
            exact if_neg c5
theorem notSl_assign {o i : Expr} {pos : Pos} {env : PySem.Env} (h : notSl i = true) : ∀ v, assign (.Subscript o i pos) env v = (do
      let ov ← holding [v] (eval o env)
      let iv ← holding [v, ov] (eval i env)
      standAt pos
      holding [v, ov, iv] (setItem ov iv v)
      release [v, ov, iv] []) := by
  intro v
  cases i <;> first | rfl | cases h
/-- o[i:j] = .. -/
def gSlc (to ti tj : TE) : TG := fun v σ H Q => to σ H fun o H1 => ti σ H1 fun x H2 => tj σ H2 fun y H3 => ∃ p b xs ys i j, o = .ref p ∧ v = .ref b ∧ H3 p = some (.lst xs) ∧ H3 b = some (.lst ys) ∧ p ≠ b ∧ x = .int i ∧ y = .int j ∧ 0 ≤ i ∧ i ≤ j ∧ j ≤ xs.length ∧ xs.length + ys.length ≤ sizeLine ∧ Q σ (upd H3 p (.lst (xs.take i.toNat ++ ys ++ xs.drop j.toNat)))
theorem pg_slc {X : Cx} {o lo hi : Expr} {to ti tj : TE} {p2 pos : Pos} (ho : PE X o to) (hi' : PE X lo ti) (hj : PE X hi tj) : PG X (.Subscript o (.Slice (some lo) (some hi) none p2) pos) (gSlc to ti tj) := by
  refine ⟨fun pins s σ H v u Q I r h => ?_⟩
  rw [arm_assign_Subscript]
  refine wpAny_bind (wpAny_holding (thn (ho.run pins s σ H _ I h) fun ov s1 ⟨x, H1, I1, r1, q1⟩ => ?_))
  refine wpAny_bind (wpAny_holding (wpAny_Slice ?_))
  rw [evalPart_some, evalPart_some, evalPart_none]
  refine thn (hi'.run pins s1 σ H1 _ I1 q1) fun vl s2 ⟨y, H2, I2, r2, q2⟩ => thn (hj.run pins s2 σ H2 _ I2 q2) fun vu s3 ⟨z, H3, I3, r3, q3⟩ => wpAny_pure ?_
  obtain ⟨p, b, xs, ys, i, j, rfl, rfl, e1, e2, hne, rfl, rfl, h0, h1, h2, hz, q⟩ := q3
  have I4 : Inv X pins σ H3 { s3 with heap := s3.heap.push { cls := .type "slice", data := .fields #[vl, vu, .none] } } := I3.kept (t' := s3.toks) fun b ob q => Heap.get?_push_of_some _ q
  cases r1
  cases r
  refine wpAny_bind (wpAny_standAt (wpAny_bind (wpAny_holding (set_slice I4 e1 e2 hne (Heap.IsSliceOf.new ..) r2 r3 h0 h1 h2 hz fun s5 I5 => ?_))))
  exact wpAny_release ⟨σ, _, I5, q⟩
theorem swB_ok {X : Cx} {sc : Scope} {x : Str} {p : Pos} {e : Expr} {n : Nat} (hs : X.env.scope = sc) (hk : sc.kind = .function) (h : swB sc x p e = true) : X.env.scope.names.lookup x = some .local ∧ swapsWith e (some (.Name x p)) n X.env = pure true := by
  cases e with
  | ListComp a g s q =>
    simp only [swB, Bool.and_eq_true, Bool.not_eq_true', decide_eq_true_eq] at h
    obtain ⟨⟨h1, h2⟩, h3⟩ := h
    subst hs
    exact ⟨h1, sw_true hk h1 h2 h3⟩
  | _ => cases h
theorem hfn {X : Cx} {k : Ck} {x : Str} (hf : X.fn = k.fn) (hs : X.env.scope = k.sc) (h : (k.fn x || decide (k.sc.names.lookup x = some .local)) = true) : X.fn x = true ∨ X.env.scope.names.lookup x = some .local := by
  simp only [Bool.or_eq_true, decide_eq_true_eq] at h
  rw [hf, hs]
  exact h
/-- x = [..] that takes its name's place -/
theorem ps_setLcG {i : Nat} {y : Str} {py spos : Pos} {k : Ck} {X : Cx} {W : WX} {c : Cn} {lv : Nat} (C : CkS k X W c lv) (hy : k.N[i]? = some y) {m : Bool} {a : Xp} {tg : Tg} {it : It} {ifs : List Xp} {e : Expr} (h : mE k (.lc m a tg it ifs) e = true) (hw : swB k.sc y py e = true) :
    PS X (.Assign [.Name y py] e spos) (tAsg (tE X.K W (ev c false (.lc m a tg it ifs))) (gName i)) := by
  obtain ⟨hyl, hsw⟩ := swB_ok (n := spos.line) C.E.sc C.kind hw
  have C0 := C
  obtain ⟨C, hp, _, _, hk⟩ := C
  simp only [mE] at h
  split at h
  · rename_i a' tg' it' ifs' z scope p
    simp only [Bool.and_eq_true, decide_eq_true_eq] at h
    obtain ⟨⟨⟨⟨⟨⟨⟨⟨⟨hcm, rfl⟩, h1⟩, h2⟩, h3⟩, h4⟩, h5⟩, h6⟩, h7⟩, h8⟩ := h
    have hcalm := C.calm hcm
    have hi : PI X tg' it' (tI X.K W (evi c it)) := snd_sI it C h3 h8
    have nd : X.N.Nodup := by rw [C.N]; exact C.nd
    have ok : BlkOk X.N X.env.scope scope (ownOf X.N tg.slots) := blkOk_by (by rw [C.N, C.sc]; exact h1)
    have q : PS X (.Assign [.Name y py] (.ListComp a' [⟨tg', it', ifs', 0⟩] scope p) spos) (tAsg (tE X.K W (lcEv (evi c it) (lcB tg (evf c ifs) (ev c false a)) m)) (gName i)) := by
      refine pe_lcG (m := m) (F := evf c ifs) (A := ev c false a) (iter := it') (elt := a') (tgE := tg') (ifs := ifs') (scope := scope) (pos := p) hcalm nd hi ok (fun s H C' cl fp => mTg_ok (C.blk).N (C.blk).sc (C.blk).fn hcalm C.nd h2) (fun s H C' cl fp => snd_sF ifs C.blk h5 h6) (fun s H C' cl fp => (snd_sE a C.blk h7).1) h4
        (fun t => PS X (.Assign [.Name y py] (.ListComp a' [⟨tg', it', ifs', 0⟩] scope p) spos) (tAsg t (gName i))) (fun t ht t' i => ht.imp fun D σ H q => i _ _ _ q)
        (ps_setLc hcalm nd (by rw [C.N]; exact hy) hyl hsw hi ok (fun s H C' cl fp => mTg_ok (C.blk).N (C.blk).sc (C.blk).fn hcalm C.nd h2) (fun s H C' cl fp => snd_sF ifs C.blk h5 h6) (fun s H C' cl fp => (snd_sE a C.blk h7).1) (notSet_eq h4))
    have z : lcEv (evi c it) (lcB tg (evf c ifs) (ev c false a)) m = ev c false (.lc m a tg it ifs) := by
      funext l st
      simp only [ev, fin_false]
      rfl
    rw [z] at q
    exact q
  · cases h
theorem sSet {K : PySem.W.Frag} {i : Nat} {A : Env → Sto → R Val} {D : Ends} {σ : L2.St} {H : Hp} {W : WX} (h : tS K W (fun l st => (A l st).fl l fun x st => .nx (l.set i (some x)) st) D σ H) : tAsg (tE K W A) (gName i) D σ H := by
  obtain ⟨cf, l, st, hH, hS, q⟩ := h
  exact ⟨cf, l, st, hH, hS, (q.fl hS).mono fun c1 H1 v st1 e1 h1 q1 x rx => q1 c1 H1 _ Ext.refl h1 ((hS.mono e1).set rx)⟩
end
section
variable {c : Cn} {lv : Nat}
mutual
theorem snd_sS : ∀ (s : Sm) {k : Ck} {X : Cx} {W : WX}, CkS k X W c lv → ∀ {p : Stmt}, mS k s p = true → PS X p (tS X.K W (evS c s))
  | .set i e, k, X, W, C, p, h => by
    simp only [mS] at h
    split at h
    · rename_i x px e' pos
      simp only [Bool.and_eq_true, Bool.or_eq_true, decide_eq_true_eq] at h
      obtain ⟨⟨⟨⟨⟨hn2, h1⟩, h2⟩, h3⟩, h4⟩, h5⟩ := h
      have fnx := hfn C.E.fn C.E.sc (by simpa using h5 : (k.fn x || decide (k.sc.names.lookup x = some .local)) = true)
      refine ps_eq (g := fun l st => (ev c false e l st).fl l fun x st => .nx (l.set i (some x)) st) ?_ fun l st => by simp only [evS]
      rcases h4 with (h4 | h4) | h4
      · exact (ps_set (by rw [C.E.N]; exact C.E.nd) (by rw [C.E.N]; exact h1) (C.E.loc h2) (snd_sE e C.E h3).1 (notComp_sw h4) fnx).imp fun D σ H q => sSet q
      · cases e' with
        | ListComp a' g' s' q' =>
          cases e with
          | lc m a tg it ifs => exact (ps_setLcG C h1 h3 h4).imp fun D σ H q => sSet q
          | lc2 _ _ _ _ _ _ => cases hn2
          | isx a kc => simp only [mE, callN] at h3; cases h3
          | isi a kc => simp only [mE, callN] at h3; cases h3
          | blt f es => simp only [mE, callN] at h3; cases h3
          | mkl f es => simp only [mE, callN] at h3; cases h3
          | cal f es ks => simp only [mE, callN] at h3; cases h3
          | app f es => simp only [mE, methN] at h3; cases h3
          | ext f es => simp only [mE, methN] at h3; cases h3
          | _ => simp only [mE] at h3; cases h3
        | _ => cases h4
      · exact (ps_set (by rw [C.E.N]; exact C.E.nd) (by rw [C.E.N]; exact h1) (C.E.loc h2) (snd_sE e C.E h3).1 (notLoc_sw (by rw [C.E.sc]; exact h4)) fnx).imp fun D σ H q => sSet q
    · cases h
  | .asg tg e, k, X, W, C, p, h => by
    simp only [mS] at h
    split at h
    · rename_i tg' e' pos
      simp only [Bool.and_eq_true] at h
      obtain ⟨⟨⟨⟨⟨hcm, h1⟩, h2⟩, h3⟩, h4⟩, h5⟩ := h
      cases tg' with
      | Tuple elts kk tpos =>
        have hsw : swappedStores [.Tuple elts kk tpos] e' X.env = pure none := by
          rcases Bool.or_eq_true_iff.mp h3 with h3 | h3
          · exact notTup_sw h3
          · cases e' with
            | Tuple vs k2 p2 => exact swN_ok (by rw [C.E.sc]; exact of_decide_eq_true h3)
            | _ => cases h3
        refine (ps_asg (snd_sE e C.E h5).1 (mTg_ok C.E.N C.E.sc C.E.fn (C.E.calm hcm) C.E.nd h2) (notComp_sole h4) hsw).imp fun D σ H ⟨cf, l, st, hH, hS, q⟩ => ?_
        simp only [evS] at q
        refine ⟨cf, l, st, hH, hS, (q.fl hS).mono fun c1 H1 v st1 e1 h1' q1 x rx => ?_⟩
        split at q1
        · rename_i l1 et
          exact gTg_ok h1' (hS.mono e1) rx et fun σ' hS' _ => q1 c1 H1 _ Ext.refl h1' hS'
        · exact q1.elim
      | _ => cases h1
    · cases h
  | .par is es, k, X, W, C, p, h => by
    simp only [mS] at h
    split at h
    · rename_i ts kt pt vs k2 p2 pos
      simp only [Bool.and_eq_true] at h
      obtain ⟨⟨hcm, h1⟩, h2⟩ := h
      have hA := snd_sEs es C.E h1
      split at h2
      · rename_i i j x px y py e1 e2
        simp only [Bool.and_eq_true, decide_eq_true_eq] at h2
        obtain ⟨⟨⟨⟨⟨n1, n2⟩, d1⟩, l1⟩, l2⟩, hsw⟩ := h2
        refine (ps_par (i := i) (j := j) (C.E.calm hcm) (by rw [C.E.N]; exact C.E.nd) (by rw [C.E.N]; exact n1) (by rw [C.E.N]; exact n2) d1 (by rw [C.E.sc]; exact l1) (by rw [C.E.sc]; exact l2) hA (swN_ok (by rw [C.E.sc]; exact hsw))).imp fun D σ H ⟨cf, l, st, hH, hS, q⟩ => ?_
        simp only [evS] at q
        refine ⟨cf, l, st, hH, hS, (q.fl hS).mono fun c1 H1 us st1 e1 h1' q1 xs rx => ?_⟩
        split at q1
        · rename_i i' j' u v ei
          cases ei
          obtain ⟨a, b, rfl, ra, rb⟩ := Reps.two rx
          exact ⟨a, b, rfl, q1 c1 H1 _ Ext.refl h1' (((hS.mono e1).set ra).set rb)⟩
        · rename_i ei
          cases ei
        · exact q1.elim
      · rename_i i j l x px y py z pz e1 e2 e3
        simp only [Bool.and_eq_true, decide_eq_true_eq] at h2
        obtain ⟨⟨⟨⟨⟨⟨⟨⟨⟨n1, n2⟩, n3⟩, d1⟩, d2⟩, d3⟩, l1⟩, l2⟩, l3⟩, hsw⟩ := h2
        refine (ps_par3 (i := i) (j := j) (l := l) (C.E.calm hcm) (by rw [C.E.N]; exact C.E.nd) (by rw [C.E.N]; exact n1) (by rw [C.E.N]; exact n2) (by rw [C.E.N]; exact n3) d1 d2 d3 (by rw [C.E.sc]; exact l1) (by rw [C.E.sc]; exact l2) (by rw [C.E.sc]; exact l3) hA (swN_ok (by rw [C.E.sc]; exact hsw))).imp fun D σ H ⟨cf, lc, st, hH, hS, q⟩ => ?_
        simp only [evS] at q
        refine ⟨cf, lc, st, hH, hS, (q.fl hS).mono fun c1 H1 us st1 e1 h1' q1 xs rx => ?_⟩
        split at q1
        · rename_i ei
          cases ei
        · rename_i i' j' l' u v w ei
          cases ei
          obtain ⟨a, b, d, rfl, ra, rb, rd⟩ : ∃ a b d, xs = [a, b, d] ∧ Rep X.K c1 a u ∧ Rep X.K c1 b v ∧ Rep X.K c1 d w := by
            cases rx with
            | cons r t =>
              obtain ⟨b, d, rfl, rb, rd⟩ := Reps.two t
              exact ⟨_, _, _, rfl, r, rb, rd⟩
          exact ⟨a, b, d, rfl, q1 c1 H1 _ Ext.refl h1' ((((hS.mono e1).set ra).set rb).set rd)⟩
        · exact q1.elim
      · cases h2
    · cases h
  | .aug i o e, k, X, W, C, p, h => by
    simp only [mS] at h
    split at h
    · rename_i x px o' e' pos
      simp only [Bool.and_eq_true, Bool.or_eq_true, decide_eq_true_eq] at h
      obtain ⟨⟨⟨⟨⟨h1, h2⟩, rfl⟩, h3⟩, h4⟩, h5⟩ := h
      have fnx := hfn C.E.fn C.E.sc (by simpa using h5 : (k.fn x || decide (k.sc.names.lookup x = some .local)) = true)
      refine (ps_aug (ti := fun x y H Q => ∃ i j n, x = .int i ∧ y = .int j ∧ opI o i j = some n ∧ Q (.int n) H) (by rw [C.E.N]; exact C.E.nd) (by rw [C.E.N]; exact h1) (C.E.loc h2) (snd_sE e C.E h3).1 (fun pins s σ H x y v u Q I rx ry ⟨i, j, n, e1, e2, e3, q⟩ => ?_) fnx).imp fun D σ H ⟨cf, l, st, hH, hS, q⟩ => ?_
      · subst e1
        subst e2
        exact augR h4 e3 I rx ry q
      · simp only [evS] at q
        split at q
        · rename_i v ev'
          obtain ⟨x', q1, q2⟩ := hS.2 i v ev'
          refine ⟨x', q1, cf, l, st, hH, hS, (q.fl hS).mono fun c1 H1 w st1 e1 h1' q3 y ry => ?_⟩
          split at q3
          · rename_i a b
            split at q3
            · rename_i n en
              cases q2
              cases ry
              exact ⟨a, b, n, rfl, rfl, en, q3 c1 H1 _ Ext.refl h1' ((hS.mono e1).set (.int _))⟩
            · exact q3.elim
          · exact q3.elim
        · exact q.elim
    · cases h
  | .setI a i e, k, X, W, C, p, h => by
    simp only [mS] at h
    split at h
    · rename_i a' i' ipos e' pos
      simp only [Bool.and_eq_true] at h
      obtain ⟨⟨⟨⟨h1, h2⟩, h3⟩, h4⟩, h5⟩ := h
      refine (ps_asg (snd_sE e C.E h3).1 (pg_sub (snd_sE a C.E h4).1 (snd_sE i C.E h5).1 set_list (notSl_assign h1)) (notComp_sole h2) (by cases e' <;> rfl)).imp fun D σ H ⟨cf, l, st, hH, hS, q⟩ => ?_
      simp only [evS] at q
      refine ⟨cf, l, st, hH, hS, (q.fl hS).mono fun c1 H1 v st1 e1 h1' q1 x rx => ?_⟩
      have hS1 := hS.mono e1
      refine ⟨c1, l, st1, h1', hS1, (q1.fl hS1).mono fun c2 H2 o st2 e2 h2' q2 y ry => ?_⟩
      have hS2 := hS1.mono e2
      refine ⟨c2, l, st2, h2', hS2, (q2.fl hS2).mono fun c3 H3 j st3 e3 h3' q3 z rz => ?_⟩
      split at q3
      · rename_i st' es
        unfold setIEv at es
        split at es
        · rename_i n lo jj em
          split at es
          · rename_i ix ei
            cases es
            obtain ⟨b, vs, z1, z2, z3, z4, z5⟩ := h3'.mlist (ry.mono e3) em
            cases rz
            subst z1
            have rx3 := (rx.mono e2).mono e3
            obtain ⟨e4, h4'⟩ := h3'.put z2 z3 (z5.set rx3 ix)
            exact ⟨b, vs, jj, ix, rfl, rfl, z4, by rw [z5.length]; exact ei, q3 c3 _ _ e4 h4' ((hS2.mono e3).mono e4)⟩
          · cases es
        · cases es
      · exact q3.elim
    · cases h
  | .setS a i j e, k, X, W, C, p, h => by
    simp only [mS] at h
    split at h
    · rename_i a' i' j' spos ipos e' pos
      simp only [Bool.and_eq_true] at h
      obtain ⟨⟨⟨⟨h2, h3⟩, h4⟩, h5⟩, h6⟩ := h
      refine (ps_asg (snd_sE e C.E h3).1 (pg_slc (snd_sE a C.E h4).1 (snd_sE i C.E h5).1 (snd_sE j C.E h6).1) (notComp_sole h2) (by cases e' <;> rfl)).imp fun D σ H ⟨cf, l, st, hH, hS, q⟩ => ?_
      simp only [evS] at q
      refine ⟨cf, l, st, hH, hS, (q.fl hS).mono fun c1 H1 v st1 e1 h1' q1 x rx => ?_⟩
      have hS1 := hS.mono e1
      refine ⟨c1, l, st1, h1', hS1, (q1.fl hS1).mono fun c2 H2 o st2 e2 h2' q2 y ry => ?_⟩
      have hS2 := hS1.mono e2
      refine ⟨c2, l, st2, h2', hS2, (q2.fl hS2).mono fun c3 H3 u st3 e3 h3' q3 z rz => ?_⟩
      have hS3 := hS2.mono e3
      refine ⟨c3, l, st3, h3', hS3, (q3.fl hS3).mono fun c4 H4 w st4 e4 h4' q4 z2 rz2 => ?_⟩
      split at q4
      · rename_i st' es
        unfold setSEv at es
        split at es
        · rename_i n lo ys ii jj em
          split at es
          · rename_i hc
            cases es
            obtain ⟨b, vs, z1, z2', z3, z4, z5⟩ := h4'.mlist ((ry.mono e3).mono e4) em
            have rz4 := rz.mono e4
            cases rz4
            cases rz2
            subst z1
            have rx3 := ((rx.mono e2).mono e3).mono e4
            cases rx3 with
            | @lst d us _ k1 k2 =>
              have hne : b ≠ d := fun e => by
                obtain ⟨_, _, y1, y2, _, _⟩ := h4'.obs n lo z2'
                rw [z3] at y1
                cases y1
                rw [e, k1] at y2
                cases y2
              obtain ⟨e5, h5'⟩ := h4'.put z2' z3 (((z5.take ii.toNat).append k2).append (z5.drop jj.toNat))
              exact ⟨b, d, vs, us, ii, jj, rfl, rfl, z4, h4'.sub _ _ k1, hne, rfl, rfl, hc.1, hc.2.1, by rw [z5.length]; exact hc.2.2.1, by rw [z5.length, k2.length]; exact hc.2.2.2, q4 c4 _ _ e5 h5' ((hS3.mono e4).mono e5)⟩
          · cases es
        · cases es
      · exact q4.elim
    · cases h
  | .setF a f e, k, X, W, C, p, h => by
    simp only [mS] at h
    split at h
    · rename_i a' f' ipos e' pos
      simp only [Bool.and_eq_true, decide_eq_true_eq] at h
      obtain ⟨⟨⟨rfl, h2⟩, h3⟩, h4⟩ := h
      refine (ps_fld (snd_sE a C.E h4).1 (snd_sE e C.E h3).1 (notComp_sw h2)).imp fun D σ H ⟨cf, l, st, hH, hS, q⟩ => ?_
      simp only [evS] at q
      refine ⟨cf, l, st, hH, hS, (q.fl hS).mono fun c1 H1 v st1 e1 h1' q1 x rx => ?_⟩
      have hS1 := hS.mono e1
      refine ⟨c1, l, st1, h1', hS1, (q1.fl hS1).mono fun c2 H2 o st2 e2 h2' q2 y ry => ?_⟩
      have hS2 := hS1.mono e2
      split at q2
      · rename_i st' es
        obtain ⟨a, dx, d, vfs, rfl, ea, ko, hc, hl, pt⟩ := setF_ok h2' ry es
        obtain ⟨e4, h4'⟩ := pt _ (rx.mono e2)
        exact ⟨a, _, dx, vfs, rfl, ea, ko.cls, ko.noa _ hc, hl, q2 c2 _ _ e4 h4' (hS2.mono e4)⟩
      · exact q2.elim
    · cases h
  | .augF a f o e, k, X, W, C, p, h => by
    simp only [mS] at h
    split at h
    · rename_i a' f' ipos o' e' pos
      simp only [Bool.and_eq_true, decide_eq_true_eq] at h
      obtain ⟨⟨⟨⟨rfl, rfl⟩, h2⟩, h3⟩, h4⟩ := h
      refine (ps_fldaug (rd := fun x y H Q => ∃ i j n, x = .int i ∧ y = .int j ∧ opI o i j = some n ∧ Q (.int n) H) (snd_sE a C.E h4).1 (snd_sE e C.E h3).1 (fun pins s σ H x y v u Q I rx ry ⟨i, j, n, e1, e2, e3, q⟩ => by
        subst e1
        subst e2
        exact augR h2 e3 I rx ry q)).imp fun D σ H ⟨cf, l, st, hH, hS, q⟩ => ?_
      simp only [evS] at q
      refine ⟨cf, l, st, hH, hS, (q.fl hS).mono fun c1 H1 v st1 e1 h1' q1 x rx => ?_⟩
      have hS1 := hS.mono e1
      unfold fldEv at q1
      split at q1
      rotate_left
      · exact q1.elim
      rename_i n
      split at q1
      rotate_left
      · exact q1.elim
      rename_i d fs en
      split at q1
      rotate_left
      · exact q1.elim
      rename_i v' ev
      split at q1
      rotate_left
      · exact q1.elim
      rename_i hc
      obtain ⟨a, dx, vfs, rfl, _, ea, ko, r⟩ := h1'.insAt rx en
      rcases r.lookup (f := f') with ⟨_, z⟩ | ⟨u, w, eu, ew, ru⟩
      · rw [ev] at z
        cases z
      rw [ev] at ew
      cases ew
      simp only [R.fl_ok] at q1
      refine ⟨a, _, dx, vfs, u, rfl, ea, ko.cls, ko.noa _ (by simpa using hc), eu, c1, l, st1, h1', hS1, (q1.fl hS1).mono fun c2 H2 o2 st2 e2 h2' q2 y ry => ?_⟩
      have hS2 := hS1.mono e2
      split at q2
      rotate_left
      · exact q2.elim
      rename_i i j
      split at q2
      rotate_left
      · exact q2.elim
      rename_i m em
      split at q2
      rotate_left
      · exact q2.elim
      rename_i hcl
      split at q2
      rotate_left
      · exact q2.elim
      rename_i st' es
      cases ru
      cases ry
      refine ⟨i, j, m, rfl, rfl, em, ?_⟩
      have ecl : clsOf (.ref n) st2 = some d := by
        rw [hcl]
        unfold clsOf
        simp only [en]
      obtain ⟨a2, dx2, vfs2, ea2', ea2, hl2, pt⟩ := setF_okC h2' (rx.mono e2) es ecl
      cases ea2'
      obtain ⟨e4, h4'⟩ := pt _ (.int m)
      exact ⟨dx2, vfs2, ea2, hl2, q2 c2 _ _ e4 h4' (hS2.mono e4)⟩
    · cases h
  | .setD a i e, k, X, W, C, p, h => by
    simp only [mS] at h
    split at h
    · rename_i a' i' ipos e' pos
      simp only [Bool.and_eq_true] at h
      obtain ⟨⟨⟨⟨h1, h2⟩, h3⟩, h4⟩, h5⟩ := h
      have hu := C.E.hu
      refine (ps_dput (by omega) (snd_sE a C.E h4).1 (snd_sE i C.E h5).1 (snd_sE e C.E h3).1 (notComp_sw h2)).imp fun D σ H ⟨cf, l, st, hH, hS, q⟩ => ?_
      simp only [evS] at q
      refine ⟨cf, l, st, hH, hS, (q.fl hS).mono fun c1 H1 v st1 e1 h1' q1 x rx => ?_⟩
      have hS1 := hS.mono e1
      refine ⟨c1, l, st1, h1', hS1, (q1.fl hS1).mono fun c2 H2 o st2 e2 h2' q2 y ry => ?_⟩
      have hS2 := hS1.mono e2
      refine ⟨c2, l, st2, h2', hS2, (q2.fl hS2).mono fun c3 H3 j st3 e3 h3' q3 z rz => ?_⟩
      split at q3
      · rename_i st' es
        unfold setDEv at es
        split at es
        · rename_i n lo kk em ek
          split at es
          · rename_i hl
            cases es
            obtain ⟨b, ks, rfl, z2, z3, z4, z5⟩ := h3'.dicAt (ry.mono e3) em
            obtain ⟨bb, rfl, eb⟩ := key_V rz ek
            have rx3 := (rx.mono e2).mono e3
            obtain ⟨e4, h4'⟩ := h3'.putO z5 rfl z2 (u := .dT (L2.putK ks kk x)) (o := .dic (dput lo kk v)) (FR.dput rx3 z4)
            exact ⟨b, _, rfl, .t z3 (h3'.sub _ _ eb) (by rw [z4.len]; exact hl), q3 c3 _ _ e4 h4' ((hS2.mono e3).mono e4)⟩
          · cases es
        · cases es
      · exact q3.elim
    · cases h
  | .exp e, k, X, W, C, p, h => by
    simp only [mS] at h
    split at h
    · rename_i e' pos
      simp only [Bool.and_eq_true] at h
      refine (ps_expr (snd_sE e C.E h.2).1 (notComp_sw h.1)).imp fun D σ H ⟨cf, l, st, hH, hS, q⟩ => ?_
      simp only [evS] at q
      exact ⟨cf, l, st, hH, hS, (q.fl hS).mono fun c1 H1 v st1 e1 h1' q1 x rx => q1 c1 H1 _ Ext.refl h1' (hS.mono e1)⟩
    · cases h
  | .ret e, k, X, W, C, p, h => by
    simp only [mS] at h
    split at h
    · rename_i e' pos
      refine (ps_ret (snd_sE e C.E h).1).imp fun D σ H ⟨cf, l, st, hH, hS, q⟩ => ?_
      simp only [evS] at q
      exact ⟨cf, l, st, hH, hS, (q.fl hS).mono fun c1 H1 v st1 e1 h1' q1 x rx => q1 c1 H1 _ Ext.refl h1' rx⟩
    · cases h
  | .retN, k, X, W, C, p, h => by
    simp only [mS] at h
    split at h
    · refine ps_retN.imp fun D σ H ⟨cf, l, st, hH, hS, q⟩ => ?_
      simp only [evS] at q
      exact q cf H _ Ext.refl hH .non
    · cases h
  | .ife d a b, k, X, W, C, p, h => by
    simp only [mS] at h
    split at h
    · rename_i d' a' b' pos
      simp only [Bool.and_eq_true] at h
      obtain ⟨⟨h1, h2⟩, h3⟩ := h
      refine (ps_if (snd_sE d C.E h1).2 (snd_sSs a C h2) (snd_sSs b C h3)).imp fun D σ H ⟨cf, l, st, hH, hS, q⟩ => ?_
      simp only [evS] at q
      refine ⟨cf, l, st, hH, hS, (q.fl hS).mono fun c1 H1 v st1 e1 h1' q1 => ?_⟩
      split at q1
      · exact ⟨true, rfl, iteT ⟨c1, l, st1, h1', hS.mono e1, q1⟩⟩
      · exact ⟨false, rfl, iteF ⟨c1, l, st1, h1', hS.mono e1, q1⟩⟩
      · exact q1.elim
    · cases h
  | .for' tg it b, k, X, W, C, p, h => by
    simp only [mS] at h
    split at h
    · rename_i tg' it' b' pos
      simp only [Bool.and_eq_true] at h
      obtain ⟨⟨⟨⟨⟨hcm, h1⟩, h2⟩, h3⟩, h4⟩, h5⟩ := h
      exact ps_eq (ps_forG (C.own hcm) (C.E.calm hcm) (snd_sI it C.E h2 h5) (mTg_ok C.E.N C.E.sc C.E.fn (C.E.calm hcm) C.E.nd h1) (snd_sSs b C h4) h3) fun l st => by simp only [evS]
    · cases h
  | .whl d b, k, X, W, C, p, h => by
    simp only [mS] at h
    split at h
    · rename_i d' b' pos
      simp only [Bool.and_eq_true] at h
      exact ps_eq (ps_whG wfuel (C.own h.1.1) (snd_sE d C.E h.1.2).2 (snd_sSs b C h.2)) fun l st => by simp only [evS]
    · cases h
  | .brk, k, X, W, C, p, h => by
    simp only [mS] at h
    split at h
    · exact ps_break.imp fun D σ H ⟨cf, l, st, hH, hS, q⟩ => by
        simp only [evS] at q
        exact q cf H σ Ext.refl hH hS
    · cases h
  | .cnt, k, X, W, C, p, h => by
    simp only [mS] at h
    split at h
    · exact ps_continue.imp fun D σ H ⟨cf, l, st, hH, hS, q⟩ => by
        simp only [evS] at q
        exact q cf H σ Ext.refl hH hS
    · cases h
  | .pas, k, X, W, C, p, h => by
    simp only [mS] at h
    split at h
    · exact ps_pass.imp fun D σ H ⟨cf, l, st, hH, hS, q⟩ => by
        simp only [evS] at q
        exact q cf H σ Ext.refl hH hS
    · cases h
  | .try' b, k, X, W, C, p, h => by
    simp only [mS] at h
    split at h
    · rename_i b' h0 hs pos
      refine (ps_try_thru0 (snd_sSs b C.nox h)).imp fun D σ H ⟨cf, l, st, hH, hS, q⟩ => ?_
      simp only [evS] at q
      refine ⟨cf, l, st, hH, hS, ?_⟩
      cases eB : evSs c b l st with
      | exn x l' st' =>
        rw [eB] at q
        exact q.elim
      | _ =>
        rw [eB] at q
        exact q
    · cases h
  | .frz i, k, X, W, C, p, h => by
    simp only [mS] at h
    cases h
  | .raise d es, k, X, W, C, p, h => by
    simp only [mS] at h
    split at h
    · rename_i e' pos
      split at h
      · rename_i x es' eN
        obtain ⟨p1, p2, rfl⟩ := callN_eq eN
        simp only [Bool.and_eq_true, decide_eq_true_eq] at h
        obtain ⟨⟨⟨⟨⟨⟨⟨⟨⟨hcm, rfl⟩, h1⟩, h2⟩, h3⟩, h4⟩, h5⟩, h6⟩, h7⟩, h8⟩ := h
        cases es' with
        | nil => simp at h7
        | cons e0 es0 =>
          exact ps_eq (ps_raiseG (C.E.calm hcm) (C.E.xcs d (by simpa using h3)) ((C.E.room hcm).mono (by omega)) C.E.tk (C.E.gl h1) h2 h4 h8 (snd_sEs es C.E h5)) fun l st => by simp only [evS]
      · cases h
    · cases h
  | .tryx b hs, k, X, W, C, p, h => by
    simp only [mS] at h
    split at h
    · rename_i b' h' hs' pos
      simp only [Bool.and_eq_true] at h
      obtain ⟨⟨hcm, h1⟩, h2⟩ := h
      have nd : X.N.Nodup := by rw [C.E.N]; exact C.E.nd
      refine (ps_tryX (l := hs.map fun h => match h with | .mk C i b => (xcls X.K C, i, tS X.K W0 (evSs c b))) (tb := fun W' => tS X.K W' (evSs c b)) C.stk C.frm nd C.E.tk (fun W' pn xe tk own => snd_sSs b (C.tr tk own) h1) (snd_hs hs C h2)).imp fun D σ H ⟨cf, l, st, hH, hS, q⟩ => ?_
      simp only [evS] at q
      refine ⟨cf, l, st, hH, hS, ?_⟩
      cases eB : evSs c b l st with
      | exn x l1 st1 =>
        rw [eB] at q
        exact fun c' H' σ' cls d e1 h1' s1 rx => hs_ok h1' s1 rx hs (RunF.from e1 q)
      | _ =>
        rw [eB] at q
        exact q
    · cases h
theorem snd_hs : ∀ (hs : List Hd) {k : Ck} {X : Cx} {W : WX}, CkS k X W c lv → ∀ {ps : List ExceptHandler}, mHs k hs ps = true → HdX X ps (hs.map fun h => match h with | .mk C i b => (xcls X.K C, i, tS X.K W0 (evSs c b)))
  | [], k, X, W, C, ps, h => by
    simp only [mHs] at h
    cases ps with
    | nil => exact .nil
    | cons _ _ => cases h
  | .mk Cn i b :: hs, k, X, W, C, ps, h => by
    simp only [mHs] at h
    split at h
    · rename_i x np nm b0 suite pp ps'
      simp only [Bool.and_eq_true, decide_eq_true_eq] at h
      obtain ⟨⟨⟨⟨⟨⟨rfl, h1⟩, h2⟩, h3⟩, h4⟩, h5⟩, h6⟩ := h
      have hsu : ∀ a : Addr, PSs (X.suite a X.pn) (b0 :: suite) (tS X.K W0 (evSs c b)) := fun a => snd_sSs b (C.suite a) h5
      split at h4
      · exact .one (C.E.nms h1 h2 h3) hsu (snd_hs hs C h6)
      · rename_i j n
        simp only [Bool.and_eq_true, decide_eq_true_eq] at h4
        exact .as (C.E.nms h1 h2 h3) (by rw [C.E.N]; exact h4.1) (by show X.env.scope.names.lookup n = _; rw [C.E.sc]; exact h4.2) hsu (snd_hs hs C h6)
      · cases h4
    · cases h
theorem snd_sSs : ∀ (ss : List Sm) {k : Ck} {X : Cx} {W : WX}, CkS k X W c lv → ∀ {ps : List Stmt}, mSs k ss ps = true → PSs X ps (tS X.K W (evSs c ss))
  | [], k, X, W, C, ps, h => by
    simp only [mSs] at h
    cases ps with
    | nil =>
      exact pss_nil.imp fun D σ H ⟨cf, l, st, hH, hS, q⟩ => by
        simp only [evSs] at q
        exact q cf H σ Ext.refl hH hS
    | cons _ _ => cases h
  | s :: ss, k, X, W, C, ps, h => by
    by_cases hz : ∃ i, s = .frz i
    · obtain ⟨i, rfl⟩ := hz
      simp only [mSs] at h
      refine (snd_sSs ss C h).imp fun D σ H ⟨cf, l, st, hH, hS, q⟩ => ?_
      simp only [evSs, evS] at q
      cases eF : frzEv i l st with
      | nx l' st' =>
        rw [eF] at q
        obtain ⟨c', e1, h1, s1⟩ := frz_ok hH hS eF
        exact ⟨c', l', st', h1, s1, RunF.from e1 q⟩
      | stuck =>
        rw [eF] at q
        exact q.elim
      | _ =>
        unfold frzEv at eF
        split at eF
        · split at eF
          · split at eF <;> cases eF
          · cases eF
        · cases eF
    · cases ps with
      | nil =>
        exfalso
        cases s with
        | frz i => exact hz ⟨i, rfl⟩
        | _ =>
          simp only [mSs] at h
          cases h
      | cons p ps =>
        have h2 : mS k s p = true ∧ mSs k ss ps = true := by
          cases s with
          | frz i => exact absurd ⟨i, rfl⟩ hz
          | _ =>
            simp only [mSs, Bool.and_eq_true] at h
            exact h
        refine (pss_cons (snd_sS s C h2.1) (snd_sSs ss C h2.2)).imp fun D σ H ⟨cf, l, st, hH, hS, q⟩ => ?_
        simp only [evSs] at q
        refine ⟨cf, l, st, hH, hS, ?_⟩
        cases eS : evS c s l st with
        | nx l1 st1 =>
          rw [eS] at q
          exact fun c1 H1 σ1 e1 h1 s1 => ⟨c1, l1, st1, h1, s1, RunF.from e1 q⟩
        | _ =>
          rw [eS] at q
          exact q
end
end
end Pv

set_option Elab.async false
set_option linter.all false
set_option maxRecDepth 100000
set_option maxHeartbeats 1000000
namespace Pv
open PySem PySem.Spec PyProof.Rows L2 RZ
/-! ### defs -/
section
variable {K : PySem.W.Frag} {c : Cf} {H : Hp} {st : Sto}
mutual
theorem Rep.blw {v : V} {d : Val} (h : Rep K c v d) : belowV c.φ.length d = true := by
  cases h with
  | tup h1 h2 =>
    simp only [belowV]
    exact Reps.blw h2
  | lst h1 h2 =>
    simp only [belowV]
    exact Reps.blw h2
  | exc h1 h2 h3 h4 h5 =>
    simp only [belowV]
    exact Reps.blw h4
  | gtp h1 h2 =>
    simp only [belowV]
    exact Reps.blw h2
  | ref h1 =>
    simp only [belowV, decide_eq_true_eq]
    exact (List.getElem?_eq_some_iff.mp h1).1
  | _ => simp only [belowV]
termination_by sizeOf d
theorem Reps.blw {vs : List V} {l : List Val} (h : Reps K c vs l) : belowVs c.φ.length l = true := by
  cases h with
  | nil => simp only [belowVs]
  | cons h1 h2 =>
    simp only [belowVs, Bool.and_eq_true]
    exact ⟨Rep.blw h1, Reps.blw h2⟩
termination_by sizeOf l
end
theorem take_get {α : Type} {l : List α} {n k : Nat} (h : k < n) : (l.take n)[k]? = l[k]? := by rw [List.getElem?_take, if_pos h]
mutual
theorem Rep.cut {v : V} {d : Val} (n : Nat) (hb : belowV n d = true) (h : Rep K c v d) : Rep K ⟨c.F, c.φ.take n⟩ v d := by
  cases h with
  | non => exact .non
  | bl b => exact .bl b
  | int i => exact .int i
  | str s => exact .str s
  | tup h1 h2 =>
    simp only [belowV] at hb
    exact .tup h1 (Reps.cut n hb h2)
  | lst h1 h2 =>
    simp only [belowV] at hb
    exact .lst h1 (Reps.cut n hb h2)
  | scr h1 => exact .scr h1
  | rng h1 => exact .rng h1
  | gtp h1 h2 =>
    simp only [belowV] at hb
    exact .gtp h1 (Reps.cut n hb h2)
  | exc h1 h2 h3 h4 h5 =>
    simp only [belowV] at hb
    exact .exc h1 h2 h3 (Reps.cut n hb h4) h5
  | ref h1 =>
    simp only [belowV, decide_eq_true_eq] at hb
    exact .ref (by show (c.φ.take n)[_]? = _; rw [take_get hb]; exact h1)
termination_by sizeOf d
theorem Reps.cut {vs : List V} {l : List Val} (n : Nat) (hb : belowVs n l = true) (h : Reps K c vs l) : Reps K ⟨c.F, c.φ.take n⟩ vs l := by
  cases h with
  | nil => exact .nil
  | cons h1 h2 =>
    simp only [belowVs, Bool.and_eq_true] at hb
    exact .cons (Rep.cut n hb.1 h1) (Reps.cut n hb.2 h2)
termination_by sizeOf l
end
theorem ObS.blw {u : HO} {o : Ob} (h : ObS K c u o) : belowO c.φ.length o = true := by
  cases o with
  | lst l =>
    obtain ⟨vs, rfl, r⟩ := h.lst
    exact r.blw
  | gone => rfl
  | ins d gs =>
    obtain ⟨dx, fs, rfl, _, _, r⟩ := h.ins
    exact r.blw
  | dic l =>
    obtain ⟨ks, rfl, _, r⟩ := h.dic
    exact r.blw
theorem ObS.cut {u : HO} {o : Ob} (n : Nat) (hb : belowO n o = true) (h : ObS K c u o) : ObS K ⟨c.F, c.φ.take n⟩ u o := by
  cases o with
  | lst l =>
    obtain ⟨vs, rfl, r⟩ := h.lst
    exact Reps.cut n hb r
  | gone =>
    unfold ObS at h
    split at h <;> first | exact h.elim | (rename_i e; cases e)
  | ins d gs =>
    obtain ⟨dx, fs, rfl, k, e, r⟩ := h.ins
    exact ⟨rfl, k, e, Reps.cut n hb r⟩
  | dic l =>
    obtain ⟨ks, rfl, e, r⟩ := h.dic
    exact ⟨e, Reps.cut n hb r⟩
theorem take_prefix {α : Type} {l m : List α} (h : l <+: m) : m.take l.length = l := by
  obtain ⟨t, rfl⟩ := h
  simp
/-- a call is left: its own lists are forgotten -/
theorem leave_ok {W : WX} {σ : L2.St} {v : Val} {st' : Sto} {Q : VK} (hH : RelH K c H st) (q : Run K W c σ H (leave st v st') (fun c' H' v _ => ∀ x, Rep K c' x v → Q x H')) {c' : Cf} {H' : Hp} {x : V} (e : Ext c H c' H') (h : RelH K c' H' st') (r : Rep K c' x v) : Q x H' := by
  unfold leave at q
  split at q
  · rename_i hb
    obtain ⟨hb, ho⟩ := hb
    have hl : c'.φ.take st.length = c.φ := by rw [← hH.len]; exact take_prefix e.φ
    have hn : st.length ≤ st'.length := by
      have h1 := e.φ.length_le
      rw [hH.len, h.len] at h1
      exact h1
    have r' : Rep K ⟨c'.F, c'.φ.take st.length⟩ x v := r.cut _ hb
    rw [hl] at r'
    refine q ⟨c'.F, c.φ⟩ H' ⟨e.F, List.prefix_refl _, fun a o z n => ⟨(e.fr a o z n).1, n⟩, e.nf⟩ ⟨h.sub, by show c.φ.length = _; rw [List.length_take, hH.len]; omega, hH.nd, fun a m => h.all a (e.φ.subset m), fun k l z lv => ?_⟩ x r'
    have hk : k < st.length := by
      have := (List.getElem?_eq_some_iff.mp z).1
      rw [List.length_take] at this
      omega
    rw [take_get hk] at z
    obtain ⟨a, vs, q1, q2, q3, q4⟩ := h.obo k l z lv
    have bl : belowO st.length l = true := by
      rcases ho k hk with z' | ⟨o, z', zb⟩
      · rw [z] at z'
        obtain ⟨_, _, _, _, _, p4⟩ := hH.obo k l z'.symm lv
        have := p4.blw
        rw [hH.len] at this
        exact this
      · rw [z] at z'
        cases z'
        exact zb
    have q4' := q4.cut _ bl
    rw [hl] at q4'
    refine ⟨a, vs, ?_, q2, q3, q4'⟩
    rw [← hl]
    show (c'.φ.take st.length)[k]? = _
    rw [take_get hk]
    exact q1
  · exact q c' H' e h x r
theorem start_ok {N : List Str} {d : Fd} (hN : N = d.N) {vs : List V} {args : List Val} (r : Reps K c vs args) : RelS K c (L2.start N vs) (frameOf d args) := by
  have hl := r.length
  subst hN
  refine ⟨by unfold L2.start frameOf; rw [List.length_append, List.length_append, List.length_map, List.length_map, List.length_replicate, List.length_replicate, hl], fun i v e => ?_⟩
  unfold frameOf at e
  by_cases hi : i < args.length
  · rw [List.getElem?_append_left (by simpa using hi), List.getElem?_map] at e
    cases ea : args[i]? with
    | none => rw [ea] at e; cases e
    | some a =>
      rw [ea] at e
      cases e
      obtain ⟨x, e1, e2⟩ := r.get ea
      refine ⟨x, ?_, e2⟩
      unfold L2.start
      rw [List.getElem?_append_left (by rw [List.length_map, hl]; exact hi), List.getElem?_map, e1]
      rfl
  · rw [List.getElem?_append_right (by simpa using hi), List.getElem?_replicate] at e
    split at e <;> cases e
end
/-- the module stands: each def of T is the text's, the built-in names are free, the globals are told -/
structure ModOk (K : PySem.W.Frag) (mg : Str → Option Value) (T : List Fd) (G : List (Str × Val)) (X : List Xc) (KC : List Kc) : Prop where
  blt : ∀ x ∈ bnames, mg x = none
  glo : ∀ (i : Nat) (p : Str × Val), G[i]? = some p → ∃ u V, mg p.1 = some u ∧ RelV V u ∧ (∀ cf, Rep K cf V p.2) ∧ ∀ l, p.2 = .gtp l → ∃ a o, V = .ref a ∧ K.lookup a = some o ∧ o.cls = .type "tuple" ∧ o.dict = none
  fns : ∀ (i : Nat) (d : Fd), T[i]? = some d → ∃ a fd qual params body scope kws, AdrOk K mg d a ∧ FunD K d.name qual params body scope [] kws a fd ∧ mF T G X KC d params body scope = true
  kcs : ∀ d ∈ KC, KcOk K d ∧ mg d.name = some (.ref (He.ga K d.name))
structure FnAt0 (P : Program) (w : World) (K : PySem.W.Frag) (mg : Str → Option Value) (base : Heap) (lv : Nat) (call : CallT) (i : Nat) (d : Fd) : Prop where
  ex : ∃ a fd, AdrOk K mg d a ∧ (∃ oc od osl, K.lookup a = some ⟨oc, od, .func fd, osl⟩) ∧ PySem.W.keepIn K (.ref a) = true ∧ FnOkG P w K mg base (L2.CX P w) (hotF d) lv a fd (d.N.take d.ps) (spC K call i (d.N.take d.ps).length) ∧
    ∀ (s : Shared) (us vs : List Value) (l : List (Str × Value)), us.length ≤ (d.N.take d.ps).length → (∀ p ∈ l, p.1 ∈ d.N.take d.ps) → (l.map (·.1)).Nodup → (∀ p ∈ l, ((d.N.take d.ps).zip us).lookup p.1 = none) → vs.length = (d.N.take d.ps).length →
      (∀ p ∈ (d.N.take d.ps).zip vs, ((d.N.take d.ps).zip us ++ l).lookup p.1 = some p.2) → BindsTo s fd ⟨us, l⟩ ((d.N.take d.ps).zip vs)
  nd : d.N.Nodup
  le : d.ps ≤ d.N.length
theorem FnOkG.zero {b0 : Bool} {P : Program} {w : World} {K : PySem.W.Frag} {mg : Str → Option Value} {base : Heap} {CX : CXT} {k : Nat} {f : Addr} {fd : FuncData} {ps : List Str} {sp : Sp} (h : ∀ vs H Q E, ¬ sp vs H Q E) : FnOkG P w K mg base CX b0 k f fd ps sp :=
  ⟨fun vs H Q E q => absurd q (h _ _ _ _), fun A outer s H args us vs Q E _ _ _ _ _ q => absurd q (h _ _ _ _)⟩
theorem scopeB_ok {N : List Str} {n : Nat} {sc : Scope} (h : scopeB N n sc = true) : FnScope N (N.take n) sc ∧ n ≤ N.length := by
  simp only [scopeB, Bool.and_eq_true, decide_eq_true_eq, Bool.not_eq_true'] at h
  obtain ⟨⟨⟨⟨⟨⟨h1, h2⟩, h3⟩, h4⟩, h5⟩, h6⟩, h7⟩ := h
  refine ⟨⟨?_, h2, h3, h4, ?_, fun x m => ?_, fun y m => ?_⟩, h5⟩
  · split at h1
    · assumption
    · cases h1
  · rw [List.length_take, Nat.min_eq_left h5]
  · have := List.all_eq_true.mp h6 x m
    simp only [locB, Bool.or_eq_true, decide_eq_true_eq] at this
    exact this
  · have := List.all_eq_true.mp h7 y m
    intro z
    rw [z] at this
    cases this
/-- a def by its body, where no repr is under way -/
theorem defG {P : Program} {w : World} {K : PySem.W.Frag} {mg : Str → Option Value} {base : Heap} {x qual : Str} {params : Arguments} {body : List Stmt} {scope : Scope} {kws : List (Str × V)} {f : Addr} {fd : FuncData} {N ps : List Str} {k : Nat} {sp : Sp}
    (F : FunD K x qual params body scope [] kws f fd) (S : FnScope N ps scope) (len : ∀ vs H Q E, sp vs H Q E → vs.length = ps.length)
    (hbody : ∀ (cdv : Value) (A : Around) (outer : List PySem.Env) (s : Shared) (H : Hp) (vs : List V) (Q : VK) (E : XK), Room k (A.deeper (envOfC qual scope s.heap.objs.size f cdv)) → A.guards = some [] → sp vs H Q E →
      ∃ t, PSs (cxOf (L2.CX P w) P w K mg base N qual scope f cdv A outer s H E) body t ∧ t { nx := fun _ H' => Q .non H', rt := Q } (L2.start N vs) H) : FnOkG P w K mg base (L2.CX P w) false (k + 1) f fd ps sp := by
  obtain ⟨oc, od, dV, kV, doc, pm, an, cdv, ct, osl, rfl, look, recd, _, _⟩ := F.ex
  refine ⟨len, fun A outer s H args us vs Q E room0 gd en binds rel wish => ?_⟩
  have room : Room (k + 1) A := room0
  have inK : K.In s.heap := en.mod.kin.keeps fun b o q => (en.bs b o q).1
  have par : ∀ y ∈ ps.zip us, scope.names.lookup y.1 = some .local ∨ (scope.names.lookup y.1 = some .cell ∧ ((cellsFrom (s.heap.objs.size + 1) scope.names []).lookup y.1).isSome = true) := by
    rintro ⟨y, u⟩ my
    rcases S.par y (List.of_mem_zip my).1 with z | z
    · exact Or.inl z
    · exact Or.inr ⟨z, PySem.W.cellsFrom_some _ _ _ (Or.inl z)⟩
  refine codeAny_call_function room.depth (inK _ _ look) rfl S.co S.gen rfl (PySem.W.codeRec_of inK recd) (binds _ _ _ _ ?_)
  refine wpAny_newFunctionEnv_cells S.kind par fun env envEq s1 inC => ?_
  subst envEq
  have lim : s.heap.NoLimit := en.mod.nolimit.keeps fun b o q => (en.bs b o q).1
  refine ⟨lim.keeps inC.toInCall.keep, codeAny_func ?_⟩
  obtain ⟨t, hrun, hgo⟩ := hbody cdv A outer s H vs Q E (room.deeper _) gd wish
  have I0 := inv_start (CX := L2.CX P w) (N := N) (E := E) S room.hd en (len _ _ _ _ wish) rel inC
  refine wpAny_mono (hrun.run [] s1 (L2.start N vs) H _ I0 hgo) (fun fl s' z => ?_) fun e s' z => z
  cases fl with
  | next =>
    obtain ⟨σ', H', J, q⟩ := z
    exact ⟨V.non, H', J.os, J.bare, J.base, J.hok, rfl, q⟩
  | ret u =>
    obtain ⟨v, σ', H', J, rv, q⟩ := z
    exact ⟨v, H', J.os, J.bare, J.base, J.hok, rv, q⟩
  | brk =>
    obtain ⟨_, _, _, q⟩ := z
    exact q.elim
  | cont =>
    obtain ⟨_, _, _, q⟩ := z
    exact q.elim
/-- the same while an exception is handled -/
theorem defH {P : Program} {w : World} {K : PySem.W.Frag} {mg : Str → Option Value} {base : Heap} {x qual : Str} {params : Arguments} {body : List Stmt} {scope : Scope} {kws : List (Str × V)} {f : Addr} {fd : FuncData} {N ps : List Str} {k : Nat} {sp : Sp}
    (F : FunD K x qual params body scope [] kws f fd) (S : FnScope N ps scope) (len : ∀ vs H Q E, sp vs H Q E → vs.length = ps.length)
    (hbody : ∀ (cdv : Value) (A : Around) (outer : List PySem.Env) (s : Shared) (H : Hp) (vs : List V) (Q : VK) (E : XK) (p : Addr × Obj), L2H.RoomH k (A.deeper (envOfC qual scope s.heap.objs.size f cdv)) → A.guards = some [] → sp vs H Q E →
      ∃ t, PSs (L2H.cxH (L2.CX P w) P w K mg base N qual scope f cdv A outer s H E p) body t ∧ t { nx := fun _ H' => Q .non H', rt := Q } (L2.start N vs) H) : FnOkG P w K mg base (L2.CX P w) true (k + 1) f fd ps sp := by
  obtain ⟨oc, od, dV, kV, doc, pm, an, cdv, ct, osl, rfl, look, recd, _, _⟩ := F.ex
  refine ⟨len, fun A outer s H args us vs Q E rm0 gd en binds rel wish => ?_⟩
  have rm : L2H.RoomH (k + 1) A := rm0
  have inK : K.In s.heap := en.mod.kin.keeps fun b o q => (en.bs b o q).1
  have par : ∀ y ∈ ps.zip us, scope.names.lookup y.1 = some .local ∨ (scope.names.lookup y.1 = some .cell ∧ ((cellsFrom (s.heap.objs.size + 1) scope.names []).lookup y.1).isSome = true) := by
    rintro ⟨y, u⟩ my
    rcases S.par y (List.of_mem_zip my).1 with z | z
    · exact Or.inl z
    · exact Or.inr ⟨z, PySem.W.cellsFrom_some _ _ _ (Or.inl z)⟩
  refine codeAny_call_function rm.depth (inK _ _ look) rfl S.co S.gen rfl (PySem.W.codeRec_of inK recd) (binds _ _ _ _ ?_)
  refine wpAny_newFunctionEnv_cells S.kind par fun env envEq s1 inC => ?_
  subst envEq
  have lim : s.heap.NoLimit := en.mod.nolimit.keeps fun b o q => (en.bs b o q).1
  refine ⟨lim.keeps inC.toInCall.keep, codeAny_func ?_⟩
  have inB := en.mod.kin _ _ look
  have pin : L2H.PinOk outer H s (f, _) := ⟨inK _ _ look, (en.bs _ _ inB).2, (fun z => by
    have q := (en.funs.mem z).1
    rw [inB] at q
    cases q), (fun v z => by cases z)⟩
  obtain ⟨t, hrun, hgo⟩ := hbody cdv A outer s H vs Q E _ (rm.deeper _) gd wish
  have I0 := L2H.inv_startH (CX := L2.CX P w) (N := N) (E := E) S pin en (len _ _ _ _ wish) rel inC
  refine wpAny_mono (hrun.run [] s1 (L2.start N vs) H _ I0 hgo) (fun fl s' z => ?_) fun e s' z => z
  cases fl with
  | next =>
    obtain ⟨σ', H', J, q⟩ := z
    exact ⟨V.non, H', J.os, J.bare, J.base, J.hok, rfl, q⟩
  | ret u =>
    obtain ⟨v, σ', H', J, rv, q⟩ := z
    exact ⟨v, H', J.os, J.bare, J.base, J.hok, rv, q⟩
  | brk =>
    obtain ⟨_, _, _, q⟩ := z
    exact q.elim
  | cont =>
    obtain ⟨_, _, _, q⟩ := z
    exact q.elim
/-- a def's body says what callF says -/
theorem body_says {T : List Fd} {G : List (Str × Val)} {n i lv : Nat} {d : Fd} {k : Ck} {X : Cx} {body : List Stmt} {vs : List V} {H : Hp} {Q : VK} {E : XK} (C : CkS k X (fun cls d _ H => E cls d H) ⟨runF T G n, G⟩ lv) (h3 : mSs k d.body body = true) (hd : T[i]? = some d)
    (hsp : spC X.K (runF T G (n + 1)) i (d.N.take d.ps).length vs H Q E) : ∃ t, PSs X body t ∧ t { nx := fun _ H' => Q .non H', rt := Q } (L2.start d.N vs) H := by
  obtain ⟨hlen, c, args, st, σ, hH, hR, q⟩ := hsp
  refine ⟨_, snd_sSs d.body C h3, c, frameOf d args, st, hH, start_ok rfl hR, ?_⟩
  have q : Run X.K (fun cls d _ H' => E cls d H') c σ H (callF T ⟨runF T G n, G⟩ i args st) (fun c' H' v _ => ∀ x, Rep X.K c' x v → Q x H') := q
  unfold callF at q
  simp only [hd] at q
  by_cases hp : args.length = d.ps
  · rw [if_pos hp] at q
    cases eB : evSs ⟨runF T G n, G⟩ d.body (frameOf d args) st with
    | nx l' st' =>
      simp only [eB] at q
      exact fun c' H' σ' e h s => leave_ok hH q e h .non
    | ret v st' =>
      simp only [eB] at q
      exact fun c' H' x e h r => leave_ok hH q e h r
    | exn x l' st' =>
      simp only [eB] at q
      exact fun c' H' σ' cls dd e h s rx => q c' H' cls dd e h rx
    | brk l' st' =>
      simp only [eB] at q
      exact q.elim
    | cnt l' st' =>
      simp only [eB] at q
      exact q.elim
    | stuck =>
      simp only [eB] at q
      exact q.elim
  · rw [if_neg hp] at q
    exact q.elim
theorem fnAt_all {P : Program} {w : World} {K : PySem.W.Frag} {mg : Str → Option Value} {base : Heap} {T : List Fd} {G : List (Str × Val)} {X : List Xc} {KC : List Kc} (M : ModOk K mg T G X KC) (MX : ∀ d ∈ X, XcAt P w K mg base d) : ∀ (n i : Nat) (d : Fd), T[i]? = some d → FnAt0 P w K mg base (2 * n + 2) (runF T G n) i d := by
  intro n
  induction n with
  | zero =>
    intro i d hd
    obtain ⟨a, fd, qual, params, body, scope, kws, e1, F, hm⟩ := M.fns i d hd
    simp only [mF, Bool.and_eq_true] at hm
    obtain ⟨⟨⟨h1, h2⟩, h3⟩, h4⟩ := hm
    obtain ⟨S, hle⟩ := scopeB_ok h1
    have lkF : ∃ oc od osl, K.lookup a = some ⟨oc, od, .func fd, osl⟩ := by
      obtain ⟨oc, od, dV, kV, doc, pm, an, cdv, ct, osl, _, lk, _, _, _⟩ := F.ex
      exact ⟨oc, od, osl, lk⟩
    refine ⟨⟨a, fd, e1, lkF, F.kp, FnOkG.zero fun vs H Q E q => ?_, ?_⟩, S.nd, hle⟩
    · obtain ⟨_, c, args, st, σ, _, _, q⟩ := q
      exact q
    · obtain ⟨as, rfl, ha⟩ := argsB_ok h2
      obtain ⟨oc, od, dV, kV, doc, pm, an, cdv, ct, osl, rfl, lk, hcd, hD, hK⟩ := F.ex
      rcases hD with ⟨_, rfl⟩ | ⟨e, _⟩
      · exact fun s us vs l p1 p2 p3 p4 p5 p6 => .of_eq (bind_gen ha p1 p2 p3 p4 p5 p6)
      · exact absurd rfl e
  | succ n ih =>
    intro i d hd
    obtain ⟨a, fd, qual, params, body, scope, kws, e1, F, hm⟩ := M.fns i d hd
    simp only [mF, Bool.and_eq_true] at hm
    obtain ⟨⟨⟨h1, h2⟩, h3⟩, h4⟩ := hm
    obtain ⟨S, hle⟩ := scopeB_ok h1
    have lkF : ∃ oc od osl, K.lookup a = some ⟨oc, od, .func fd, osl⟩ := by
      obtain ⟨oc, od, dV, kV, doc, pm, an, cdv, ct, osl, _, lk, _, _, _⟩ := F.ex
      exact ⟨oc, od, osl, lk⟩
    have fns : ∀ {X0 : Cx}, X0.prog = P → X0.w = w → X0.K = K → X0.mg = mg → X0.base = base → ∀ (j : Nat) (dj : Fd), T[j]? = some dj → FnAt X0 (2 * n + 2) (runF T G n) j dj := by
      rintro X0 rfl rfl rfl rfl rfl j dj hj
      obtain ⟨⟨a', fd', y1, _, y2, y3, y4⟩, x2, x3⟩ := ih j dj hj
      exact ⟨⟨a', fd', y1, y2, y3, y4⟩, x2, x3⟩
    refine ⟨⟨a, fd, e1, lkF, F.kp, ?_, ?_⟩, S.nd, hle⟩
    · cases eh : hotF d with
      | false =>
        refine defG F S (fun vs H Q E q => q.1) fun cdv A outer s H vs Q E hr gd hsp => ?_
        have C : CkS ⟨d.N, scope, fun _ => true, T, G, true, X, KC⟩ (cxOf (L2.CX P w) P w K mg base d.N qual scope a cdv A outer s H E) (fun cls d _ H => E cls d H) ⟨runF T G n, G⟩ (2 * n) :=
          ⟨{ N := rfl, sc := rfl, fn := rfl, calm := fun _ => rfl, nd := S.nd, tk := takes_of rfl rfl rfl rfl, room := fun _ => hr, roomH := L2H.roomH_of hr, hu := hr.units, gd := gd, blt := M.blt, G := rfl, glo := M.glo, xcs := MX, kcs := M.kcs, fns := fns rfl rfl rfl rfl rfl }, fun _ => passes_of rfl, rfl, rfl, S.kind⟩
        exact body_says C h3 hd hsp
      | true =>
        have h5 : mSs ⟨d.N, scope, fun _ => true, T, G, false, X, KC⟩ d.body body = true := by
          rw [eh] at h4
          simpa using h4
        refine defH F S (fun vs H Q E q => q.1) fun cdv A outer s H vs Q E p hr gd hsp => ?_
        have C : CkS ⟨d.N, scope, fun _ => true, T, G, false, X, KC⟩ (L2H.cxH (L2.CX P w) P w K mg base d.N qual scope a cdv A outer s H E p) (fun cls d _ H => E cls d H) ⟨runF T G n, G⟩ (2 * n) :=
          ⟨{ N := rfl, sc := rfl, fn := rfl, calm := (fun z => by cases z), nd := S.nd, tk := takes_of rfl rfl rfl rfl, room := (fun z => by cases z), roomH := hr, hu := (by have := hr.un; show (A.deeper (envOfC qual scope s.heap.objs.size a cdv)).units + 64 < cLine; omega), gd := gd, blt := M.blt, G := rfl, glo := M.glo, xcs := MX, kcs := M.kcs, fns := fns rfl rfl rfl rfl rfl }, (fun z => by cases z), rfl, rfl, S.kind⟩
        exact body_says C h5 hd hsp
    · obtain ⟨as, rfl, ha⟩ := argsB_ok h2
      obtain ⟨oc, od, dV, kV, doc, pm, an, cdv, ct, osl, rfl, lk, hcd, hD, hK⟩ := F.ex
      rcases hD with ⟨_, rfl⟩ | ⟨e, _⟩
      · exact fun s us vs l p1 p2 p3 p4 p5 p6 => .of_eq (bind_gen ha p1 p2 p3 p4 p5 p6)
      · exact absurd rfl e
end Pv

set_option Elab.async false
set_option linter.all false
set_option maxRecDepth 100000
set_option maxHeartbeats 1000000
namespace Pv
open PySem PySem.Spec PyProof.Rows L2 RZ
/-! ### the head -/
/-- the top's defs by name -/
def defIn : List Stmt → Str → Option (Arguments × List Stmt × Scope)
  | [], _ => none
  | .FunctionDef n a b _ _ _ sc _ _ _ :: r, x => if n = x then some (a, b, sc) else defIn r x
  | _ :: r, x => defIn r x
/-- a class's methods by name -/
def methIn : List Stmt → Str → Str → Option (Arguments × List Stmt × Scope)
  | [], _, _ => none
  | .ClassDef n _ _ b _ _ _ _ _ _ _ :: r, x, m => if n = x then defIn b m else methIn r x m
  | _ :: r, x, m => methIn r x m
def dAt (d : Fd) : Str × Option Str := match d.own with
  | none => (d.name, none)
  | some C => (C, some d.name)
def dQual (d : Fd) : Str := match d.own with
  | none => d.name
  | some C => C ++ "." ++ d.name
def dText (body : List Stmt) (d : Fd) : Option (Arguments × List Stmt × Scope) := match d.own with
  | none => defIn body d.name
  | some C => methIn body C d.name
def dOf (body : List Stmt) (d : Fd) : He.DefD := match dText body d with
  | some (a, b, sc) => ⟨dAt d, d.name, dQual d, a, b, sc, [], []⟩
  | none => ⟨dAt d, d.name, dQual d, ⟨[], [], none, [], [], none, []⟩, [], ⟨.function, [], false, false, []⟩, [], []⟩
def boundOf : List Stmt → List Str
  | [] => []
  | .FunctionDef n _ _ _ _ _ _ _ _ _ :: r => n :: boundOf r
  | .ClassDef n _ _ _ _ _ _ _ _ _ _ :: r => n :: boundOf r
  | .Assign [.Name x _] _ _ :: r => x :: boundOf r
  | _ :: r => boundOf r
def looseOf (body : List Stmt) : List Str := (boundOf body).filter fun x => !(x == ("law" : Str)) && !(x == ("__name__" : Str))
/-- the text is T's -/
def clsIn : List Stmt → Str → Option (Arguments × List Stmt × Scope)
  | [], _ => none
  | .ClassDef n _ _ b _ _ _ _ _ _ _ :: r, x => if n = x then defIn b "__init__" else clsIn r x
  | _ :: r, x => clsIn r x
/-- an own class's __init__ -/
def xOf (body : List Stmt) (d : Xc) : He.DefD := match clsIn body d.name with
  | some (a, b, sc) => ⟨(d.name, some "__init__"), "__init__", d.name ++ ".__init__", a, b, sc, [], []⟩
  | none => ⟨(d.name, some "__init__"), "__init__", d.name ++ ".__init__", ⟨[], [], none, [], [], none, []⟩, [], ⟨.function, [], false, false, []⟩, [], []⟩
def textB (T : List Fd) (G : List (Str × Val)) (X : List Xc) (KC : List Kc) (body : List Stmt) : Bool := (T.all fun d => mF T G X KC d (dOf body d).params (dOf body d).body (dOf body d).scope) && X.all fun d => initB d (xOf body d).params (xOf body d).body (xOf body d).scope
def fnOf (T : List Fd) (X : List Xc) (body : List Stmt) : List He.DefD := T.map (dOf body) ++ X.map (xOf body)
/-- the globals that are read: ints, strs, tuples of such -/
def gFa (p : Str × Val) : He.Fa := match p.2 with
  | .int i => .int p.1 i
  | .str s => .str p.1 s
  | .gtp _ => .glo p.1
  | _ => .free p.1
def dvOf : Val → Option He.Dv
  | .non => some .non
  | .bl b => some (.bl b)
  | .int i => some (.int i)
  | .str s => some (.str s)
  | _ => none
def gloB (G : List (Str × Val)) : Bool := G.all fun p => match p.2 with
  | .int _ => true
  | .str _ => true
  | .gtp l => l.all fun v => (dvOf v).isSome
  | _ => false
def gtB (K : PySem.W.Frag) (p : Str × Val) : Bool := match p.2 with
  | .gtp l => He.tupB K p.1 (l.filterMap dvOf) && (match K.lookup (He.ga K p.1) with
    | some o => decide (o.cls = .type "tuple") && o.dict.isNone
    | none => false)
  | _ => true
def isVE (C : Str) : Bool := decide (C = "ValueError") || decide (C = "Exception")
def nmFa (C : Str) : He.Fa := if isVE C = true then .free C else .glo C
def excB (K : PySem.W.Frag) (C : Addr) : Bool := match K.lookup C with
  | some ⟨.type "type", _, .cls cd, sl⟩ => (match cd.mro, sl.toList with
    | .ref C' :: bm, [_, _, _, _, some (.builtin n), _] => C' == C && n == "ValueError.__new__" && cd.hasDict && !cd.hasDel && PySem.HandSPX.refsVE bm
    | _, _ => false)
  | _ => false
def xcB (K : PySem.W.Frag) (d : Xc) : Bool :=
  (d.all.all fun C => decide (PySem.W.exmOne K (.ref (He.ga K d.name)) (xcls K C) = some (d.anc.contains C)) && decide (PySem.W.kitOne K (.ref (He.ga K d.name)) (xcls K C) = some (d.anc.contains C))) &&
  He.eqO (PySem.W.findIn K (.ref (He.ga K d.name)) "__getattribute__") (some (some (.builtin "BaseException.__getattribute__"))) &&
  He.eqO (PySem.W.findIn K (.ref (He.ga K d.name)) "__getattr__") (some none) &&
  (d.fs.all fun f => He.eqO (PySem.W.findIn K (.ref (He.ga K d.name)) f) (some none)) &&
  decide (PySem.W.subIn K (.ref (He.ga K d.name)) (.type "BaseException") = some true) && PySem.W.hasDictIn K (He.ga K d.name) &&
  (PySem.W.clsIn K (He.ga K d.name)).isSome && He.eqO (PySem.W.findIn K (.ref (He.ga K d.name)) "__class__") (some (some (.builtin "object.__class__"))) &&
  He.eqO (PySem.W.specialIn K (.builtin "object.__class__") "__get__") (some (some (.builtin "getset_descriptor.__get__"))) && decide (PySem.W.takesIn K (.builtin "object.__class__") = some true) && decide (PySem.W.mroIn K (He.ga K d.name) (.type "object") = some true) &&
  excB K (He.ga K d.name) && He.eqO (PySem.W.findIn K (.ref (He.ga K d.name)) "__setattr__") (some (some (.builtin "object.__setattr__"))) && decide (PySem.W.typeIn K (.ref (He.ga K d.name)) = some (.type "type")) && PySem.W.keepIn K (.ref (He.ga K d.name)) &&
  He.eqO (PySem.W.findIn K (.ref (He.ga K d.name)) "__init__") (some (some (.ref (He.ma K (He.ga K d.name) "__init__")))) && decide (PySem.W.typeIn K (.ref (He.ma K (He.ga K d.name) "__init__")) = some (.type "function")) &&
  (d.all.all fun C => (isVE C || decide (xcls K C = .ref (He.ga K C))) && (!isVE C || decide (bootBuiltins C = some (xcls K C))))
def dFa (d : Fd) : He.Fa := match d.own with
  | none => .glo d.name
  | some C => .meth C d.name
def xFa (d : Xc) : List He.Fa := .glo d.name :: d.all.map nmFa
def kFa (d : Kc) : List He.Fa := .glo d.name :: .cls d.name :: .mkr d.name :: d.fs.map (.noat d.name)
def faOf (T : List Fd) (G : List (Str × Val)) (X : List Xc) (KC : List Kc) : List He.Fa := T.map dFa ++ (bnames.map .free ++ (G.map gFa ++ (X.flatMap xFa ++ KC.flatMap kFa)))
/-- the further tests of the head -/
def ckOf (G : List (Str × Val)) (X : List Xc) (K : PySem.W.Frag) : Bool := G.all (gtB K) && X.all (xcB K)
/-- HandS.HeadHook2's hook with a further test -/
def obsP (n : Nat) (fa : List He.Fa) (fn : List He.DefD) (ck : PySem.W.Frag → Bool) (g : Addr → Option Obj) : He.AlD × Bool := (He.obsDG n fa fn g, ck (He.frG g (He.asD g n)))
def hookP (n : Nat) (fa : List He.Fa) (fn : List He.DefD) (ck : PySem.W.Frag → Bool) : PySem.W.Hook where
  α := He.AlD × Bool
  obs := fun s => obsP n fa fn ck s.heap.get?
  val := fun _ => (He.valD fn, true)
  says := fun _ h => ∃ K : PySem.W.Frag, K.In h ∧ He.SaysD fa fn K ∧ ck K = true
  of := fun _ _ e => ⟨_, He.frG_in, congrArg (fun z : He.AlD × Bool => z.1) e, congrArg (fun z : He.AlD × Bool => z.2) e⟩
  keeps := fun _ _ _ ⟨K, hK, c⟩ k => ⟨K, PySem.W.Frag.In.keeps hK k, c⟩
theorem obsP_eq {n : Nat} {fa : List He.Fa} {fn : List He.DefD} {ck : PySem.W.Frag → Bool} {g : Addr → Option Obj} {s : Shared} (h : ∀ a, g a = s.heap.get? a) : obsP n fa fn ck g = (hookP n fa fn ck).obs s := by
  have e : g = s.heap.get? := funext h
  rw [e] <;> rfl
theorem excB_ok {K : PySem.W.Frag} {C : Addr} (h : excB K C = true) : ∃ nm q N bs bm sn sub ab col dd k0 k1 k2 k3 k5, K.lookup C = some (excClassObj nm q C N bs bm true sn sub ab col dd k0 k1 k2 k3 k5 "ValueError.__new__") ∧ PySem.HandSPX.refsVE bm = true := by
  unfold excB at h
  split at h
  · rename_i dd cd sl ho
    split at h
    · rename_i C' bm k0 k1 k2 k3 n k5 hm hs
      simp only [Bool.and_eq_true, beq_iff_eq, Bool.not_eq_true'] at h
      obtain ⟨⟨⟨⟨rfl, rfl⟩, hdct⟩, hdel⟩, hve⟩ := h
      obtain ⟨nm, bs, mro, ns, qn, hd, sn, sub, ab, col, del⟩ := cd
      dsimp only at hm hdel hdct
      subst hm hdel hdct
      have hsl : sl = #[k0, k1, k2, k3, some (.builtin "ValueError.__new__"), k5] := by
        obtain ⟨l⟩ := sl
        simp only at hs
        rw [hs]
      subst hsl
      exact ⟨nm, qn, ns, bs, bm, sn, sub, ab, col, dd, k0, k1, k2, k3, k5, ho, hve⟩
    · cases h
  · cases h
theorem dvs_rep {K : PySem.W.Frag} {c : Cf} : ∀ {l : List Val}, (l.all fun v => (dvOf v).isSome) = true → Reps K c ((l.filterMap dvOf).map (He.Dv.v K)) l
  | [], _ => .nil
  | v :: l, h => by
    rw [List.all_cons, Bool.and_eq_true] at h
    have t := dvs_rep (K := K) (c := c) h.2
    have h1 := h.1
    cases v with
    | non => exact .cons .non t
    | bl b => exact .cons (.bl b) t
    | int i => exact .cons (.int i) t
    | str s => exact .cons (.str s) t
    | _ => cases h1
theorem dOf_at {body : List Stmt} {d : Fd} : (dOf body d).at_ = dAt d ∧ (dOf body d).name = d.name ∧ (dOf body d).dfl = [] := by
  unfold dOf
  split <;> exact ⟨rfl, rfl, rfl⟩
theorem says_facts {fa : List He.Fa} {fn : List He.DefD} {K : PySem.W.Frag} (c : He.SaysD fa fn K) {f : He.Fa} (h : f ∈ fa) : f.ok K = true := by
  obtain ⟨i, hi, e⟩ := List.mem_iff_getElem.mp h
  exact c.fact i (f := f) (by rw [List.getElem?_eq_getElem hi, e])
theorem says_defs {fa : List He.Fa} {fn : List He.DefD} {K : PySem.W.Frag} (c : He.SaysD fa fn K) {d : He.DefD} (h : d ∈ fn) : ∃ fd, FunD K d.name d.qual d.params d.body d.scope (d.dvs K) (d.kws K) (He.fAd K d.at_) fd := by
  obtain ⟨i, hi, e⟩ := List.mem_iff_getElem.mp h
  exact c.def_ i (d := d) (by rw [List.getElem?_eq_getElem hi, e])
theorem modOk_of {T : List Fd} {G : List (Str × Val)} {X : List Xc} {KC : List Kc} {body : List Stmt} {K : PySem.W.Frag} {h : Heap} {mg : Str → Option Value} (ht : textB T G X KC body = true) (KX : K.In h) (N : h.Ns mainGlobals mg) (c : He.SaysD (faOf T G X KC) (fnOf T X body) K) (ck : ckOf G X K = true) (hG : gloB G = true) : ModOk K mg T G X KC where
  blt := fun x hx => He.free_ok KX N (says_facts c (List.mem_append_right _ (List.mem_append_left _ (List.mem_map_of_mem hx))))
  glo := fun i p hp => by
    have m : p ∈ G := List.mem_of_getElem? hp
    have ok := List.all_eq_true.mp hG p m
    have f := says_facts c (List.mem_append_right _ (List.mem_append_right _ (List.mem_append_left _ (List.mem_map_of_mem (f := gFa) m))))
    have g := List.all_eq_true.mp (Bool.and_eq_true_iff.mp ck).1 p m
    obtain ⟨y, v⟩ := p
    cases v with
    | int j =>
      obtain ⟨t, e⟩ := He.int_ok KX N (x := y) (i := j) f
      exact ⟨_, .int j, e, ⟨t, rfl⟩, fun _ => .int j, fun l z => by cases z⟩
    | str j =>
      obtain ⟨t, e⟩ := He.str_ok KX N (x := y) (z := j) f
      exact ⟨_, .str j, e, ⟨t, rfl⟩, fun _ => .str j, fun l z => by cases z⟩
    | gtp l =>
      have e := He.glo_ok KX N (x := y) f
      have g' := Bool.and_eq_true_iff.mp g
      refine ⟨_, .ref (He.ga K y), e, rfl, fun cf => .gtp (He.tupB_ok g'.1 cf.F) (dvs_rep ok), fun l' z => ?_⟩
      have g2 := g'.2
      split at g2
      · rename_i o ho
        rw [Bool.and_eq_true, decide_eq_true_eq] at g2
        exact ⟨_, o, rfl, ho, g2.1, Option.isNone_iff_eq_none.mp g2.2⟩
      · cases g2
    | _ => cases ok
  fns := fun i d hd => by
    have m : d ∈ T := List.mem_of_getElem? hd
    obtain ⟨e1, e2, e3⟩ := dOf_at (body := body) (d := d)
    obtain ⟨fd, F⟩ := says_defs c (d := dOf body d) (List.mem_append_left _ (List.mem_map_of_mem m))
    have g := says_facts c (List.mem_append_left _ (List.mem_map_of_mem (f := dFa) m))
    have ed : (dOf body d).dvs K = [] := by
      unfold He.DefD.dvs
      rw [e3]
      rfl
    rw [ed, e2] at F
    have ad : AdrOk K mg d (He.fAd K (dOf body d).at_) := by
      rw [e1]
      unfold AdrOk dAt
      unfold dFa at g
      cases eo : d.own with
      | none =>
        rw [eo] at g
        exact He.glo_ok KX N g
      | some C =>
        rw [eo] at g
        exact ⟨rfl, He.meth_ok g⟩
    exact ⟨_, fd, _, _, _, _, _, ad, F, List.all_eq_true.mp (Bool.and_eq_true_iff.mp ht).1 d m⟩
  kcs := fun d m => by
    have fact : ∀ f, f ∈ kFa d → f.ok K = true := fun f hf => says_facts c (List.mem_append_right _ (List.mem_append_right _ (List.mem_append_right _ (List.mem_append_right _ (List.mem_flatMap.mpr ⟨d, m, hf⟩)))))
    refine ⟨⟨He.cls_ok (fact _ ?_), fun f hf => He.noat_ok (fact _ ?_), He.mkr_ok (fact _ ?_)⟩, He.glo_ok KX N (fact _ ?_)⟩
    · exact List.mem_cons_of_mem _ List.mem_cons_self
    · exact List.mem_cons_of_mem _ (List.mem_cons_of_mem _ (List.mem_cons_of_mem _ (List.mem_map_of_mem hf)))
    · exact List.mem_cons_of_mem _ (List.mem_cons_of_mem _ List.mem_cons_self)
    · exact List.mem_cons_self
theorem xOf_at {body : List Stmt} {d : Xc} : (xOf body d).at_ = (d.name, some ("__init__" : Str)) ∧ (xOf body d).name = ("__init__" : Str) ∧ (xOf body d).dfl = [] ∧ (xOf body d).kwd = [] := by
  unfold xOf
  split <;> exact ⟨rfl, rfl, rfl, rfl⟩
theorem lookup_zipN : ∀ {ns : List Str} {us : List Value} {p : Str × Value}, ns.Nodup → p ∈ ns.zip us → (ns.zip us).lookup p.1 = some p.2
  | [], _, _, _, h => by simp at h
  | _ :: _, [], _, _, h => by simp at h
  | n :: ns, u :: us, p, nd, h => by
    rw [List.zip_cons_cons] at h ⊢
    rcases List.mem_cons.mp h with q | q
    · rw [q]
      simp [List.lookup]
    · have hp : p.1 ∈ ns := (List.of_mem_zip q).1
      have hne : (p.1 == n) = false := by
        have : p.1 ≠ n := fun z => (List.nodup_cons.mp nd).1 (z ▸ hp)
        simpa using this
      have := lookup_zipN (List.nodup_cons.mp nd).2 q
      simpa [List.lookup, hne] using this
theorem xcs_of {P : Program} {w : World} {base : Heap} {T : List Fd} {G : List (Str × Val)} {X : List Xc} {KC : List Kc} {body : List Stmt} {K : PySem.W.Frag} {h : Heap} {mg : Str → Option Value} (ht : textB T G X KC body = true) (KX : K.In h) (N : h.Ns mainGlobals mg) (c : He.SaysD (faOf T G X KC) (fnOf T X body) K) (ck : ckOf G X K = true) : ∀ d ∈ X, XcAt P w K mg base d := fun d m => by
  have t := List.all_eq_true.mp (Bool.and_eq_true_iff.mp ck).2 d m
  simp only [xcB, Bool.and_eq_true, decide_eq_true_eq, List.all_eq_true] at t
  obtain ⟨⟨⟨⟨⟨⟨⟨⟨⟨⟨⟨⟨⟨⟨⟨⟨⟨t1, t2⟩, t3⟩, t4⟩, t5⟩, t6⟩, t7⟩, t8⟩, t9⟩, t10⟩, t11⟩, t12⟩, t13⟩, t14⟩, t15⟩, t16⟩, t17⟩, t18⟩ := t
  have fact : ∀ f, f ∈ (He.Fa.glo d.name :: d.all.map nmFa) → f.ok K = true := fun f hf => says_facts c (List.mem_append_right _ (List.mem_append_right _ (List.mem_append_right _ (List.mem_append_left _ (List.mem_flatMap.mpr ⟨d, m, hf⟩)))))
  have gC := He.glo_ok KX N (x := d.name) (fact _ List.mem_cons_self)
  have T0 : OexC K (He.ga K d.name) := ⟨excB_ok t12, He.eqO_ok t13, t5, t14, t15⟩
  have hno : ∀ f ∈ d.fs, PySem.W.findIn K (.ref (He.ga K d.name)) f = some none := fun f hf => He.eqO_ok (t4 f hf)
  obtain ⟨e1, e2, e3, e4⟩ := xOf_at (body := body) (d := d)
  obtain ⟨fd, F⟩ := says_defs c (d := xOf body d) (List.mem_append_right _ (List.mem_map_of_mem m))
  have ed : (xOf body d).dvs K = [] := by
    unfold He.DefD.dvs
    rw [e3]
    rfl
  have ek : (xOf body d).kws K = [] := by
    unfold He.DefD.kws
    rw [e4]
    rfl
  rw [ed, ek, e2, e1] at F
  have hB := List.all_eq_true.mp (Bool.and_eq_true_iff.mp ht).2 d m
  refine ⟨⟨fun C hC => (t1 C hC).1, fun C hC => (t1 C hC).2, He.eqO_ok t2, He.eqO_ok t3, hno, t5, t6, t7, He.eqO_ok t8, He.eqO_ok t9, t10, t11⟩, gC, T0, ⟨_, fd, _, He.eqO_ok t16, t17, init_ok F hB T0 hno, ?_⟩, fun C hC => ?_⟩
  · simp only [initB, Bool.and_eq_true] at hB
    obtain ⟨⟨⟨⟨⟨b1, b2⟩, b3⟩, b4⟩, b5⟩, b6⟩ := hB
    obtain ⟨oc, od, dV, kV, doc, pm, an, cdv, ct, osl, rfl, lk, hcd, hD, hK⟩ := F.ex
    have hnd : (("self" : Str) :: d.fs).Nodup := by
      simp only [scopeB, Bool.and_eq_true, decide_eq_true_eq] at b1
      exact b1.1.1.1.2
    obtain ⟨as, ea, ha⟩ := argsB_ok b2
    rw [ea]
    rcases hD with ⟨_, rfl⟩ | ⟨e, _⟩
    · intro s us _ hl
      rw [List.append_nil] at hl ⊢
      exact .of_eq (bind_gen (as := as) (ps := ("self" : Str) :: d.fs) ha (us := us) (l := []) (vs := us) (by omega) (fun p hp => by simp at hp) List.nodup_nil (fun p hp => by simp at hp) hl (fun p hp => by
        rw [List.append_nil]
        exact lookup_zipN hnd hp))
    · exact absurd rfl e
  · obtain ⟨q1, q2⟩ := t18 C hC
    have f := fact (nmFa C) (List.mem_cons_of_mem _ (List.mem_map_of_mem hC))
    unfold nmFa at f
    by_cases hv : isVE C = true
    · rw [if_pos hv] at f
      rw [hv] at q2
      exact .inr ⟨He.free_ok KX N f, by simpa using q2⟩
    · rw [if_neg hv] at f
      have q1' : xcls K C = .ref (He.ga K C) := by
        simp only [Bool.or_eq_true, decide_eq_true_eq] at q1
        rcases q1 with q | q
        · exact absurd q hv
        · exact q
      exact .inl (by rw [q1']; exact He.glo_ok KX N f)
/-- whatever the world is -/
def CXw (P : Program) : CXT := fun outer H s E u s' => ∃ w, L2.CX P w outer H s E u s'
/-- the law's call: nothing is tracked but the script -/
theorem lawCall {b0 : Bool} {P : Program} {w : World} {K : PySem.W.Frag} {mg nb : Str → Option Value} {CX : CXT} {k : Nat} {f scr : Addr} {fd : FuncData} {x : Str} {sp : Sp} {s0 : Shared} {us : List Value} {ns : List Int}
    (inK : K.In s0.heap) (hmg : s0.heap.Ns mainGlobals mg) (hnb : s0.heap.Ns builtinsNs nb) (boot : ∀ y : Str, y ≠ "__name__" → nb y = bootBuiltins y) (lim : s0.heap.NoLimit) (gens : s0.gens = #[])
    (obj : s0.heap.get? scr = some { cls := .type "list", data := .seq us.toArray }) (iare : IntsAre us ns) (few : ns.length ≤ sizeLine) (room : RoomB b0 k callerA)
    (F : ∀ base : Heap, K.In base → base.Ns mainGlobals mg → FnOkG P w K mg base CX b0 k f fd [x] sp) (binds : ∀ (s : Shared) (u : Value), BindsTo s fd ⟨[u], []⟩ [(x, u)])
    (told : ∀ H : Hp, Only H → SqL K H scr (ns.map V.int) → sp [.ref scr] H (fun v _ => v = .bl true) fun _ _ _ => False)
    (noX : ∀ H e s', CX [] H s0 (fun _ _ _ => False) e s' → False) :
    codeAny (model P w) callerA (.call (.ref f) ⟨[.ref scr], []⟩) (fun r s' => r = .ok (.ret (.bool true)) ∧ OldK s0.heap s'.heap ∧ s'.os = s0.os ∧ AllBare s'.gens) s0 := by
  have rel := vals_ints iare
  have cnt := iare.length
  have main : ∀ H : Hp, Only H → SqL K H scr (ns.map V.int) → HOk P w H s0.heap → (∀ b, H b ≠ none → b = scr) → (H scr ≠ none → K.lookup scr = none) →
      codeAny (model P w) callerA (.call (.ref f) ⟨[.ref scr], []⟩) (fun r s' => r = .ok (.ret (.bool true)) ∧ OldK s0.heap s'.heap ∧ s'.os = s0.os ∧ AllBare s'.gens) s0 := by
    intro H only seq ok alone apart
    have free : ∀ {b : Addr} {o : Obj}, s0.heap.get? b = some o → (∀ vs n, o.data ≠ .seq vs n) → H b = none := fun {b o} e d => by
      cases q : H b with
      | none => rfl
      | some z =>
        have hb := alone b (by rw [q]; simp)
        subst hb
        rw [obj] at e
        cases e
        exact absurd rfl (d _ _)
    have keepNs : ∀ {b : Addr} {m : Str → Option Value}, s0.heap.Ns b m → (hidT s0.heap H).Ns b m := by
      rintro b m ⟨o, es, ep, e, d, r⟩
      exact ⟨o, es, ep, hidT_get e (free e fun _ _ z => by rw [d] at z; cases z), d, r⟩
    have inK2 : K.In (hidT s0.heap H) := fun b o e => by
      refine hidT_get (inK b o e) ?_
      cases q : H b with
      | none => rfl
      | some z =>
        have hb := alone b (by rw [q]; simp)
        subst hb
        have := apart (by rw [q]; simp)
        rw [this] at e
        cases e
    obtain ⟨lc, lc1, lc2⟩ := lim
    have md : Mod K mg (hidT s0.heap H) := ⟨inK2, keepNs hmg, ⟨nb, keepNs hnb, boot⟩, ⟨lc, keepNs lc1, lc2⟩⟩
    have en : Env0 P w K mg (hidT s0.heap H) callerA [] s0 H :=
      ⟨rfl, md, fun b o e => of_hidT e, Nat.le_of_eq (hidT_size _ _), trivial, (fun b hb => by cases (show b ∈ ([] : List Addr) from hb)), ok, .of_eq gens⟩
    have goes := (F _ inK2 (keepNs hmg)).go callerA [] s0 H ⟨[.ref scr], []⟩ [.ref scr] [.ref scr] _ _ room rfl en (binds s0 (.ref scr)) (.cons rfl .nil) (told H only seq)
    refine codeAny_mono goes fun r s' z => ?_
    match r, z with
    | .error e, z => exact (noX H e s' z).elim
    | .ok .next, z => exact z.elim
    | .ok .brk, z => exact z.elim
    | .ok .cont, z => exact z.elim
    | .ok (.ret u), z =>
      obtain ⟨v, H2, os2, bare2, un2, ok2, rv, hv⟩ := z
      have hv : v = .bl true := hv
      subst hv
      have eu : u = Value.bool true := rv
      subst eu
      refine ⟨rfl, OldK.of_keep fun b o e => ?_, os2, bare2⟩
      rcases only b with q | ⟨o1, xs, q⟩
      · exact un2.keep b o e q (fun z => by cases (show b ∈ ([] : List Addr) from z)) (by simp)
      · have q2 := un2.frzs b o1 _ q
        have g1 := (ok b _ q).1
        have g2 := (ok2 b _ q2).1
        rw [e] at g1
        cases g1
        exact g2
  cases own : K.lookup scr with
  | some o =>
    have e := inK scr o own
    rw [obj] at e
    cases e
    exact main (fun _ => none) (fun _ => .inl rfl) (.inr ⟨_, us.toArray, _, own, rfl, rfl, rfl, by rw [List.size_toArray, cnt]; exact few, by simpa using rel⟩) (fun b z q => by cases (show (none : Option HO) = some z from q)) (fun b z => absurd rfl z) fun z => absurd rfl z
  | none =>
    have at1 : ∀ b z, (if b = scr then some (HO.frz { cls := .type "list", data := .seq us.toArray } (.lst (ns.map V.int))) else none) = some z → b = scr ∧ z = HO.frz { cls := .type "list", data := .seq us.toArray } (.lst (ns.map V.int)) := fun b z q => by
      by_cases hb : b = scr
      · rw [if_pos hb] at q
        exact ⟨hb, (Option.some.inj q).symm⟩
      · rw [if_neg hb] at q
        cases q
    refine main (fun b => if b = scr then some (.frz { cls := .type "list", data := .seq us.toArray } (.lst (ns.map V.int))) else none) (fun b => ?_) (.inl (.inr ⟨{ cls := .type "list", data := .seq us.toArray }, if_pos rfl⟩)) (fun b z q => ?_) (fun b q => ?_) fun _ => own
    · by_cases hb : b = scr
      · exact Or.inr ⟨_, _, if_pos hb⟩
      · exact Or.inl (if_neg hb)
    · obtain ⟨rfl, rfl⟩ := at1 b z q
      exact ⟨obj, by rw [List.length_map]; exact few, us, _, rel, obj⟩
    · by_cases hb : b = scr
      · exact hb
      · exact absurd (if_neg hb) q
theorem FnOkG.toW {b0 : Bool} {P : Program} {w : World} {K : PySem.W.Frag} {mg : Str → Option Value} {base : Heap} {k : Nat} {f : Addr} {fd : FuncData} {ps : List Str} {sp : Sp} (F : FnOkG P w K mg base (L2.CX P w) b0 k f fd ps sp) : FnOkG P w K mg base (CXw P) b0 k f fd ps sp :=
  ⟨F.len, fun A outer s H args us vs Q E hr gd he hb hv hs => codeAny_mono (F.go A outer s H args us vs Q E hr gd he hb hv hs) fun r s' q => by
    cases r with
    | ok fl =>
      cases fl with
      | ret u => exact q
      | _ => exact q.elim
    | error e => exact ⟨w, q⟩⟩
theorem walk_pv {l : PySem.W.OpenLaw} {n k i m : Nat} {q : Program} {loose : List Str} {T : List Fd} {G : List (Str × Val)} {XC : List Xc} {KC : List Kc} {body : List Stmt} {dl : Fd} {d : DefRec} {x : Str}
    (hn : l.most = some n) (hn2 : n ≤ sizeLine) (hdf : d.params.defaults = []) (hr : Room (2 * k + 2) callerA) (ht : textB T G XC KC body = true) (hT : T[i]? = some dl) (hps : dl.N.take dl.ps = [x]) (hname : d.name = dl.name) (hown : dl.own = none) (hG : gloB G = true)
    (hL : ∀ ns : List Int, ns.length ≤ n → ∃ st, runF T G k i [.scr ns] [] = .ok (.bl true) st) :
    PySem.W.WalkO q loose (PySem.W.XL q []) (hookP m (faOf T G XC KC) (fnOf T XC body) (ckOf G XC)).says l.row.toRowW d [] (fun f vs => PySem.call f vs) := by
  refine Att.attach_call hn hdf fun w s₀ s₁ mg mb fa o pm cd doc a vs ns GR Y ho hd hcd hmg hobj hints hlen hgens => ?_
  have F : ∃ (K : PySem.W.Frag) (fd : FuncData) (sp : Sp), K.In s₁.heap ∧ (∀ (s : Shared) (u : Value), BindsTo s fd ⟨[u], []⟩ [(x, u)]) ∧
        (∀ (H : Hp) (a : Addr) (ns : List Int), ns.length ≤ n → Only H → SqL K H a (ns.map V.int) → sp [.ref a] H (fun v _ => v = .bl true) fun _ _ _ => False) ∧
        ∀ base : Heap, K.In base → base.Ns mainGlobals mg → FnOkG l.prog w K mg base (CXw l.prog) (hotF dl) (2 * k + 2) fa fd [x] sp := by
    have N := GR.T.g
    generalize s₁.heap = h at Y N
    obtain ⟨K, KX, c, ck⟩ := Y
    have M : ModOk K mg T G XC KC := modOk_of ht KX N c ck hG
    rw [hname] at hmg
    obtain ⟨a, fd, e1, lk, kp, F, hb⟩ := (fnAt_all (P := l.prog) (w := w) (base := h) M (xcs_of ht KX N c ck) k i dl hT).ex
    unfold AdrOk at e1
    rw [hown] at e1
    have ea : a = fa := by
      rw [e1] at hmg
      cases hmg
      rfl
    subst ea
    rw [hps] at hb
    refine ⟨K, fd, spC K (runF T G k) i [x].length, KX, fun s u => ?_, fun H a ns hlen hO hS => ?_, fun base _ _ => ?_⟩
    · exact hb s [u] [u] [] (Nat.le_refl _) (fun p hp => by simp at hp) List.nodup_nil (fun p hp => by simp at hp) rfl fun p hp => by
        have e : p = (x, u) := by simpa using hp
        subst e
        simp [List.lookup]
    · refine ⟨rfl, ⟨H, []⟩, [.scr ns], [], [], ⟨Same.refl _, rfl, List.nodup_nil, fun a m => by simp at m, fun n l e => by simp at e⟩, .cons (.scr hS) .nil, ?_⟩
      obtain ⟨st, e⟩ := hL ns hlen
      rw [e]
      intro c' H' _ _ y r
      cases r
      rfl
    · obtain ⟨a', fd', e1', lk', kp', F', hb'⟩ := (fnAt_all (P := l.prog) (w := w) (base := base) M (xcs_of ht KX N c ck) k i dl hT).ex
      unfold AdrOk at e1'
      rw [hown] at e1'
      have ea : a' = a := by
        rw [e1] at e1'
        cases e1'
        rfl
      subst ea
      obtain ⟨_, _, _, lk⟩ := lk
      obtain ⟨_, _, _, lk'⟩ := lk'
      rw [lk] at lk'
      cases lk'
      rw [hps] at F'
      exact Pv.FnOkG.toW F'
  obtain ⟨K, fd, sp, KX, hb, hsp, hF⟩ := F
  exact lawCall KX GR.T.g GR.T.b GR.T.builtins GR.T.nolimit hgens hobj hints (Nat.le_trans hlen hn2) (RoomB.of hr) hF hb (fun H hO hS => hsp H a ns hlen hO hS) fun H e s' ⟨w, _, _, _, _, _, _, _, _, _, _, _, _, z⟩ => z
end Pv

set_option Elab.async false
set_option linter.all false
set_option maxRecDepth 100000
namespace Pv
open PySem
/-- def _law_cell(_law_script, _law_k): slots: 0:_law_script 1:_law_k -/
def f_l_cell : Fd := ⟨"_law_cell", 2, ["_law_script", "_law_k"], [.ife (.cmp .lt (.var 1) (.blt .len [.var 0])) [.ret (.blt .abs [.blt .int [.idx (.var 0) (.var 1)]])] [], .ret (.num 0)], none⟩
/-- def _law_draws(_law_cell_here, _law_many, _law_most): slots: 0:_law_cell_here 1:_law_many 2:_law_most 3:_law_left 4:_law_row 5:_law_k 6:_law_first 7:_law_second 8:_law_third -/
def f_l_draws : Fd := ⟨"_law_draws", 3, ["_law_cell_here", "_law_many", "_law_most", "_law_left", "_law_row", "_law_k", "_law_first", "_law_second", "_law_third"], [.set 3 (.num 0), .ife (.cmp .ge (.var 0) (.bin .pow (.num 10) (.num 18))) [.set 3 (.var 0)] [], .set 4 (.lst true []), .for' (.nm 5) (.rng [.var 1]) [.ife (.cmp .ge (.var 3) (.var 2)) [.exp (.app (.var 4) (.bin .mod (.blt .int [.var 3]) (.var 2))), .set 3 (.bin .fdiv (.var 3) (.var 2))] [.set 6 (.bin .mod (.blt .int [.bin .add (.bin .mul (.var 0) (.num 48271)) (.bin .mul (.bin .add (.var 5) (.num 1)) (.num 69621))]) (.num 2147483647)), .set 7 (.bin .mod (.blt .int [.bin .add (.bin .mul (.var 6) (.var 6)) (.bin .mul (.bin .add (.var 5) (.num 1)) (.num 40692))]) (.num 2147483399)), .set 8 (.bin .mod (.blt .int [.bin .add (.bin .mul (.var 7) (.var 7)) (.var 6)]) (.num 2147483647)), .exp (.app (.var 4) (.bin .mod (.var 8) (.var 2)))]], .frz 4, .ret (.var 4)], none⟩
/-- def _law_text(_law_cell_here): slots: 0:_law_cell_here 1:_law_signs 2:_law_draws_here 3:_law_k -/
def f_l_text : Fd := ⟨"_law_text", 1, ["_law_cell_here", "_law_signs", "_law_draws_here", "_law_k"], [.set 1 (.str "abcdefghijklmnopqrstuvwxyz 0123456789"), .set 2 (.cal 1 [.var 0, .num 13, .num 37] []), .ret (.jn (.str "") (.lc false (.idx (.var 1) (.var 3)) (.nm 3) (.seq (.slc false (.var 2) (some (.num 1)) (some (.bin .add (.num 1) (.bin .mod (.blt .int [.idx (.var 2) (.num 0)]) (.num 13)))))) []))], none⟩
/-- def _law_word(_law_cell_here): slots: 0:_law_cell_here 1:_law_draws_here 2:_law_k -/
def f_l_word : Fd := ⟨"_law_word", 1, ["_law_cell_here", "_law_draws_here", "_law_k"], [.set 1 (.cal 1 [.var 0, .num 9, .num 26] []), .ret (.jn (.str "") (.lc false (.idx (.str "abcdefghijklmnopqrstuvwxyz") (.var 2)) (.nm 2) (.seq (.slc false (.var 1) (some (.num 1)) (some (.bin .add (.num 2) (.bin .mod (.blt .int [.idx (.var 1) (.num 0)]) (.num 8)))))) []))], none⟩
/-- def _law_value(_law_cell_here, _law_deep): slots: 0:_law_cell_here 1:_law_deep 2:_law_base 3:_law_draws_here 4:_law_kind 5:_law_rest 6:_law_parts 7:_law_number -/
def f_l_value : Fd := ⟨"_law_value", 2, ["_law_cell_here", "_law_deep", "_law_base", "_law_draws_here", "_law_kind", "_law_rest", "_law_parts", "_law_number"], [.set 2 (.idx (.lst false [.bin .pow (.num 10) (.num 13), .bin .pow (.num 10) (.num 45), .bin .mul (.bin .mul (.bin .pow (.num 10) (.num 60)) (.bin .pow (.num 10) (.num 60))) (.bin .pow (.num 10) (.num 20))]) (.var 1)), .set 3 (.cal 1 [.var 0, .num 3, .var 2] []), .set 4 (.bin .mod (.blt .int [.idx (.var 3) (.num 0)]) (.num 8)), .set 5 (.bin .add (.idx (.var 3) (.num 1)) (.bin .mul (.idx (.var 3) (.num 2)) (.var 2))), .ife (.cmp .eq (.var 4) (.num 0)) [.ret (.non)] [], .ife (.cmp .eq (.var 4) (.num 1)) [.ret (.cmp .eq (.bin .mod (.blt .int [.idx (.var 3) (.num 1)]) (.num 2)) (.num 1))] [], .ife (.or (.cmp .lt (.var 4) (.num 4)) (.and (.cmp .eq (.var 1) (.num 0)) (.cmp .gt (.var 4) (.num 5)))) [.set 7 (.idx (.lst false [.bin .mod (.blt .int [.var 5]) (.num 3), .bin .mod (.blt .int [.var 5]) (.bin .pow (.num 10) (.num 12)), .bin .sub (.bin .sub (.bin .pow (.num 10) (.num 12)) (.num 1)) (.bin .mod (.blt .int [.var 5]) (.bin .pow (.num 10) (.num 12)))]) (.bin .mod (.blt .int [.bin .fdiv (.idx (.var 3) (.num 0)) (.num 16)]) (.num 3))), .ret (.idx (.lst false [.var 7, .neg (.var 7)]) (.bin .mod (.blt .int [.bin .fdiv (.idx (.var 3) (.num 0)) (.num 8)]) (.num 2)))] [], .ife (.cmp .lt (.var 4) (.num 6)) [.ret (.cal 2 [.var 5] [])] [], .set 6 (.lst false [.cal 4 [.idx (.var 3) (.num 1), .bin .sub (.var 1) (.num 1)] [], .cal 4 [.idx (.var 3) (.num 2), .bin .sub (.var 1) (.num 1)] []]), .ife (.cmp .eq (.var 4) (.num 6)) [.ret (.blt .tuple [.var 6])] [], .ret (.var 6)], none⟩
/-- def _law_same(_law_one, _law_two): slots: 0:_law_one 1:_law_two 2:_law_k -/
def f_l_same : Fd := ⟨"_law_same", 2, ["_law_one", "_law_two", "_law_k"], [.ife (.iss (.var 1) .list .tuple) [.ife (.or (.not (.iss (.var 0) .list .tuple)) (.cmp .ne (.isi (.var 0) .list) (.isi (.var 1) .list))) [.ret (.bol false)] [], .ife (.cmp .ne (.blt .len [.var 0]) (.blt .len [.var 1])) [.ret (.bol false)] [], .for' (.nm 2) (.rng [.blt .len [.var 1]]) [.ife (.not (.cal 5 [.idx (.var 0) (.var 2), .idx (.var 1) (.var 2)] [])) [.ret (.bol false)] []], .ret (.bol true)] [], .ife (.cmp .is' (.var 1) (.non)) [.ret (.cmp .is' (.var 0) (.non))] [], .ife (.isi (.var 1) .str) [.ret (.and (.isi (.var 0) .str) (.cmp .eq (.var 0) (.var 1)))] [], .ret (.and (.isi (.var 0) .int) (.and (.cmp .eq (.isi (.var 0) .bool) (.isi (.var 1) .bool)) (.cmp .eq (.var 0) (.var 1))))], none⟩
/-- def _law_arguments(_law_script, _law_at): slots: 0:_law_script 1:_law_at 2:_law_cells 3:_law_values 4:_law_texts 5:_law_draws_here 6:_law_places 7:_law_numbers 8:_law_claim 9:_law_k -/
def f_l_arguments : Fd := ⟨"_law_arguments", 2, ["_law_script", "_law_at", "_law_cells", "_law_values", "_law_texts", "_law_draws_here", "_law_places", "_law_numbers", "_law_claim", "_law_k"], [.set 2 (.lc false (.cal 0 [.var 0, .bin .add (.var 1) (.var 9)] []) (.nm 9) (.rng [.num 8]) []), .set 3 (.lc false (.cal 4 [.idx (.var 2) (.var 9), .num 2] []) (.nm 9) (.rng [.num 3]) []), .set 4 (.lst false [.cal 2 [.idx (.var 2) (.num 3)] [], .cal 2 [.idx (.var 2) (.num 4)] []]), .set 5 (.cal 1 [.idx (.var 2) (.num 5), .num 4, .num 30000] []), .set 6 (.lc false (.bin .mod (.blt .int [.idx (.var 5) (.var 9)]) (.bin .add (.blt .len [.idx (.var 4) (.var 9)]) (.num 1))) (.nm 9) (.rng [.num 2]) []), .set 7 (.lc false (.bin .mul (.blt .int [.bin .fdiv (.idx (.var 5) (.bin .add (.num 2) (.var 9))) (.num 3)]) (.bin .mod (.blt .int [.idx (.var 5) (.bin .add (.num 2) (.var 9))]) (.num 3))) (.nm 9) (.rng [.num 2]) []), .set 8 (.tup [.cal 3 [.idx (.var 2) (.num 6)] [], .idx (.var 3) (.num 0), .idx (.var 3) (.num 1)]), .ret (.lst false [.lst false [.idx (.var 3) (.num 0)], .lst false [.idx (.var 3) (.num 1)], .lst false [.idx (.var 3) (.num 2)], .lst false [.idx (.var 3) (.num 0)], .lst false [.idx (.var 3) (.num 1)], .lst false [.idx (.var 4) (.num 0), .idx (.var 6) (.num 0)], .lst false [.idx (.var 4) (.num 1), .idx (.var 6) (.num 1)], .lst false [.idx (.var 3) (.num 2)], .lst false [.var 8], .lst false [.idx (.var 7) (.num 0)], .lst false [.idx (.var 7) (.num 1)], .lst false [.cal 3 [.idx (.var 2) (.num 7)] []], .lst false [.idx (.lst false [.str "undo", .str "redo"]) (.bin .mod (.blt .int [.idx (.var 7) (.num 0)]) (.num 2))], .lst false [.cal 3 [.bin .add (.idx (.var 2) (.num 6)) (.num 1)] []]])], none⟩
/-- def _law_made(_law_due): slots: 0:_law_due -/
def f_l_made : Fd := ⟨"_law_made", 1, ["_law_due"], [.ret (.lst false [.mkx ⟨"InvalidPicture", ["value"], ["TideError", "InvalidPicture", "ValueError"], ["TideError", "InvalidPicture", "InvalidStream", "InvalidPlan", "InvalidTree", "InvalidNumber", "InvalidText", "InvalidLine", "InvalidClaim", "Refused", "NoKey", "TooLong", "UnknownName", "NothingToUndo", "Undefined", "ValueError"]⟩ [.idx (.idx (.var 0) (.num 0)) (.num 0)], .mkx ⟨"InvalidStream", ["value"], ["TideError", "InvalidStream", "ValueError"], ["TideError", "InvalidPicture", "InvalidStream", "InvalidPlan", "InvalidTree", "InvalidNumber", "InvalidText", "InvalidLine", "InvalidClaim", "Refused", "NoKey", "TooLong", "UnknownName", "NothingToUndo", "Undefined", "ValueError"]⟩ [.idx (.idx (.var 0) (.num 1)) (.num 0)], .mkx ⟨"InvalidPlan", ["value"], ["TideError", "InvalidPlan", "ValueError"], ["TideError", "InvalidPicture", "InvalidStream", "InvalidPlan", "InvalidTree", "InvalidNumber", "InvalidText", "InvalidLine", "InvalidClaim", "Refused", "NoKey", "TooLong", "UnknownName", "NothingToUndo", "Undefined", "ValueError"]⟩ [.idx (.idx (.var 0) (.num 2)) (.num 0)], .mkx ⟨"InvalidTree", ["value"], ["TideError", "InvalidTree", "ValueError"], ["TideError", "InvalidPicture", "InvalidStream", "InvalidPlan", "InvalidTree", "InvalidNumber", "InvalidText", "InvalidLine", "InvalidClaim", "Refused", "NoKey", "TooLong", "UnknownName", "NothingToUndo", "Undefined", "ValueError"]⟩ [.idx (.idx (.var 0) (.num 3)) (.num 0)], .mkx ⟨"InvalidNumber", ["value"], ["TideError", "InvalidNumber", "ValueError"], ["TideError", "InvalidPicture", "InvalidStream", "InvalidPlan", "InvalidTree", "InvalidNumber", "InvalidText", "InvalidLine", "InvalidClaim", "Refused", "NoKey", "TooLong", "UnknownName", "NothingToUndo", "Undefined", "ValueError"]⟩ [.idx (.idx (.var 0) (.num 4)) (.num 0)], .mkx ⟨"InvalidText", ["text", "at"], ["TideError", "InvalidText", "ValueError"], ["TideError", "InvalidPicture", "InvalidStream", "InvalidPlan", "InvalidTree", "InvalidNumber", "InvalidText", "InvalidLine", "InvalidClaim", "Refused", "NoKey", "TooLong", "UnknownName", "NothingToUndo", "Undefined", "ValueError"]⟩ [.idx (.idx (.var 0) (.num 5)) (.num 0), .idx (.idx (.var 0) (.num 5)) (.num 1)], .mkx ⟨"InvalidLine", ["line", "at"], ["TideError", "InvalidLine", "ValueError"], ["TideError", "InvalidPicture", "InvalidStream", "InvalidPlan", "InvalidTree", "InvalidNumber", "InvalidText", "InvalidLine", "InvalidClaim", "Refused", "NoKey", "TooLong", "UnknownName", "NothingToUndo", "Undefined", "ValueError"]⟩ [.idx (.idx (.var 0) (.num 6)) (.num 0), .idx (.idx (.var 0) (.num 6)) (.num 1)], .mkx ⟨"InvalidClaim", ["value"], ["TideError", "InvalidClaim", "ValueError"], ["TideError", "InvalidPicture", "InvalidStream", "InvalidPlan", "InvalidTree", "InvalidNumber", "InvalidText", "InvalidLine", "InvalidClaim", "Refused", "NoKey", "TooLong", "UnknownName", "NothingToUndo", "Undefined", "ValueError"]⟩ [.idx (.idx (.var 0) (.num 7)) (.num 0)], .mkx ⟨"Refused", ["claim"], ["TideError", "Refused", "ValueError"], ["TideError", "InvalidPicture", "InvalidStream", "InvalidPlan", "InvalidTree", "InvalidNumber", "InvalidText", "InvalidLine", "InvalidClaim", "Refused", "NoKey", "TooLong", "UnknownName", "NothingToUndo", "Undefined", "ValueError"]⟩ [.idx (.idx (.var 0) (.num 8)) (.num 0)], .mkx ⟨"NoKey", ["number"], ["TideError", "NoKey", "ValueError"], ["TideError", "InvalidPicture", "InvalidStream", "InvalidPlan", "InvalidTree", "InvalidNumber", "InvalidText", "InvalidLine", "InvalidClaim", "Refused", "NoKey", "TooLong", "UnknownName", "NothingToUndo", "Undefined", "ValueError"]⟩ [.idx (.idx (.var 0) (.num 9)) (.num 0)], .mkx ⟨"TooLong", ["number"], ["TideError", "TooLong", "ValueError"], ["TideError", "InvalidPicture", "InvalidStream", "InvalidPlan", "InvalidTree", "InvalidNumber", "InvalidText", "InvalidLine", "InvalidClaim", "Refused", "NoKey", "TooLong", "UnknownName", "NothingToUndo", "Undefined", "ValueError"]⟩ [.idx (.idx (.var 0) (.num 10)) (.num 0)], .mkx ⟨"UnknownName", ["name"], ["TideError", "UnknownName", "ValueError"], ["TideError", "InvalidPicture", "InvalidStream", "InvalidPlan", "InvalidTree", "InvalidNumber", "InvalidText", "InvalidLine", "InvalidClaim", "Refused", "NoKey", "TooLong", "UnknownName", "NothingToUndo", "Undefined", "ValueError"]⟩ [.idx (.idx (.var 0) (.num 11)) (.num 0)], .mkx ⟨"NothingToUndo", ["word"], ["TideError", "NothingToUndo", "ValueError"], ["TideError", "InvalidPicture", "InvalidStream", "InvalidPlan", "InvalidTree", "InvalidNumber", "InvalidText", "InvalidLine", "InvalidClaim", "Refused", "NoKey", "TooLong", "UnknownName", "NothingToUndo", "Undefined", "ValueError"]⟩ [.idx (.idx (.var 0) (.num 12)) (.num 0)], .mkx ⟨"Undefined", ["what"], ["TideError", "Undefined", "ValueError"], ["TideError", "InvalidPicture", "InvalidStream", "InvalidPlan", "InvalidTree", "InvalidNumber", "InvalidText", "InvalidLine", "InvalidClaim", "Refused", "NoKey", "TooLong", "UnknownName", "NothingToUndo", "Undefined", "ValueError"]⟩ [.idx (.idx (.var 0) (.num 13)) (.num 0)]])], none⟩
/-- def _law_fields(_law_made_here): slots: 0:_law_made_here -/
def f_l_fields : Fd := ⟨"_law_fields", 1, ["_law_made_here"], [.ret (.lst false [.lst false [.att (.idx (.var 0) (.num 0)) "value"], .lst false [.att (.idx (.var 0) (.num 1)) "value"], .lst false [.att (.idx (.var 0) (.num 2)) "value"], .lst false [.att (.idx (.var 0) (.num 3)) "value"], .lst false [.att (.idx (.var 0) (.num 4)) "value"], .lst false [.att (.idx (.var 0) (.num 5)) "text", .att (.idx (.var 0) (.num 5)) "at"], .lst false [.att (.idx (.var 0) (.num 6)) "line", .att (.idx (.var 0) (.num 6)) "at"], .lst false [.att (.idx (.var 0) (.num 7)) "value"], .lst false [.att (.idx (.var 0) (.num 8)) "claim"], .lst false [.att (.idx (.var 0) (.num 9)) "number"], .lst false [.att (.idx (.var 0) (.num 10)) "number"], .lst false [.att (.idx (.var 0) (.num 11)) "name"], .lst false [.att (.idx (.var 0) (.num 12)) "word"], .lst false [.att (.idx (.var 0) (.num 13)) "what"]])], none⟩
/-- def _law_classes(_law_e): slots: 0:_law_e -/
def f_l_classes : Fd := ⟨"_law_classes", 1, ["_law_e"], [.ret (.lst false [.isx (.var 0) "InvalidPicture", .isx (.var 0) "InvalidStream", .isx (.var 0) "InvalidPlan", .isx (.var 0) "InvalidTree", .isx (.var 0) "InvalidNumber", .isx (.var 0) "InvalidText", .isx (.var 0) "InvalidLine", .isx (.var 0) "InvalidClaim", .isx (.var 0) "Refused", .isx (.var 0) "NoKey", .isx (.var 0) "TooLong", .isx (.var 0) "UnknownName", .isx (.var 0) "NothingToUndo", .isx (.var 0) "Undefined"])], none⟩
/-- def _law_raised_value(_law_k, _law_due): slots: 0:_law_k 1:_law_due 2:_law_caught 3:_law_e -/
def f_l_raised_value : Fd := ⟨"_law_raised_value", 2, ["_law_k", "_law_due", "_law_caught", "_law_e"], [.set 2 (.lst false []), .tryx [.ife (.cmp .eq (.var 0) (.num 0)) [.raise ⟨"InvalidPicture", ["value"], ["TideError", "InvalidPicture", "ValueError"], ["TideError", "InvalidPicture", "InvalidStream", "InvalidPlan", "InvalidTree", "InvalidNumber", "InvalidText", "InvalidLine", "InvalidClaim", "Refused", "NoKey", "TooLong", "UnknownName", "NothingToUndo", "Undefined", "ValueError"]⟩ [.idx (.idx (.var 1) (.num 0)) (.num 0)]] [], .ife (.cmp .eq (.var 0) (.num 1)) [.raise ⟨"InvalidStream", ["value"], ["TideError", "InvalidStream", "ValueError"], ["TideError", "InvalidPicture", "InvalidStream", "InvalidPlan", "InvalidTree", "InvalidNumber", "InvalidText", "InvalidLine", "InvalidClaim", "Refused", "NoKey", "TooLong", "UnknownName", "NothingToUndo", "Undefined", "ValueError"]⟩ [.idx (.idx (.var 1) (.num 1)) (.num 0)]] [], .ife (.cmp .eq (.var 0) (.num 2)) [.raise ⟨"InvalidNumber", ["value"], ["TideError", "InvalidNumber", "ValueError"], ["TideError", "InvalidPicture", "InvalidStream", "InvalidPlan", "InvalidTree", "InvalidNumber", "InvalidText", "InvalidLine", "InvalidClaim", "Refused", "NoKey", "TooLong", "UnknownName", "NothingToUndo", "Undefined", "ValueError"]⟩ [.idx (.idx (.var 1) (.num 4)) (.num 0)]] [], .raise ⟨"InvalidTree", ["value"], ["TideError", "InvalidTree", "ValueError"], ["TideError", "InvalidPicture", "InvalidStream", "InvalidPlan", "InvalidTree", "InvalidNumber", "InvalidText", "InvalidLine", "InvalidClaim", "Refused", "NoKey", "TooLong", "UnknownName", "NothingToUndo", "Undefined", "ValueError"]⟩ [.idx (.idx (.var 1) (.num 3)) (.num 0)]] [.mk "TideError" (some 3) [.set 2 (.lst false [.att (.var 3) "value"])]], .ret (.cal 5 [.var 2, .idx (.var 1) (.idx (.lst false [.num 0, .num 1, .num 4, .num 3]) (.var 0))] [])], none⟩
/-- def _law_raised_place(_law_due): slots: 0:_law_due 1:_law_caught 2:_law_e -/
def f_l_raised_place : Fd := ⟨"_law_raised_place", 1, ["_law_due", "_law_caught", "_law_e"], [.set 1 (.lst false []), .tryx [.raise ⟨"InvalidText", ["text", "at"], ["TideError", "InvalidText", "ValueError"], ["TideError", "InvalidPicture", "InvalidStream", "InvalidPlan", "InvalidTree", "InvalidNumber", "InvalidText", "InvalidLine", "InvalidClaim", "Refused", "NoKey", "TooLong", "UnknownName", "NothingToUndo", "Undefined", "ValueError"]⟩ [.idx (.idx (.var 0) (.num 5)) (.num 0), .idx (.idx (.var 0) (.num 5)) (.num 1)]] [.mk "TideError" (some 2) [.set 1 (.lst false [.att (.var 2) "text", .att (.var 2) "at"])]], .ret (.cal 5 [.var 1, .idx (.var 0) (.num 5)] [])], none⟩
/-- def law(_law_script): slots: 0:_law_script 1:_law_sets 2:_law_made_here 3:_law_k 4:_law_at 5:_law_other -/
def f_law : Fd := ⟨"law", 1, ["_law_script", "_law_sets", "_law_made_here", "_law_k", "_law_at", "_law_other"], [.set 1 (.lst false [.cal 6 [.var 0, .num 0] [], .cal 6 [.var 0, .num 8] []]), .set 2 (.lst false [.cal 7 [.idx (.var 1) (.num 0)] [], .cal 7 [.idx (.var 1) (.num 1)] []]), .for' (.nm 3) (.rng [.num 2]) [.ife (.not (.cal 5 [.cal 8 [.idx (.var 2) (.var 3)] [], .idx (.var 1) (.var 3)] [])) [.ret (.bol false)] [], .for' (.nm 4) (.rng [.num 14]) [.ife (.or (.not (.isx (.idx (.idx (.var 2) (.var 3)) (.var 4)) "TideError")) (.not (.isx (.idx (.idx (.var 2) (.var 3)) (.var 4)) "ValueError"))) [.ret (.bol false)] [], .ife (.cmp .ne (.cal 9 [.idx (.idx (.var 2) (.var 3)) (.var 4)] []) (.lc false (.cmp .eq (.var 4) (.var 5)) (.nm 5) (.rng [.num 14]) [])) [.ret (.bol false)] []]], .ret (.and (.cal 10 [.idx (.cal 1 [.cal 0 [.var 0, .num 16] [], .num 1, .num 4] []) (.num 0), .idx (.var 1) (.num 0)] []) (.cal 11 [.idx (.var 1) (.num 1)] []))], none⟩
def tabT : List Fd := [f_l_cell, f_l_draws, f_l_text, f_l_word, f_l_value, f_l_same, f_l_arguments, f_l_made, f_l_fields, f_l_classes, f_l_raised_value, f_l_raised_place, f_law]
def tabX : List Xc := [⟨"InvalidPicture", ["value"], ["TideError", "InvalidPicture", "ValueError"], ["TideError", "InvalidPicture", "InvalidStream", "InvalidPlan", "InvalidTree", "InvalidNumber", "InvalidText", "InvalidLine", "InvalidClaim", "Refused", "NoKey", "TooLong", "UnknownName", "NothingToUndo", "Undefined", "ValueError"]⟩, ⟨"InvalidStream", ["value"], ["TideError", "InvalidStream", "ValueError"], ["TideError", "InvalidPicture", "InvalidStream", "InvalidPlan", "InvalidTree", "InvalidNumber", "InvalidText", "InvalidLine", "InvalidClaim", "Refused", "NoKey", "TooLong", "UnknownName", "NothingToUndo", "Undefined", "ValueError"]⟩, ⟨"InvalidPlan", ["value"], ["TideError", "InvalidPlan", "ValueError"], ["TideError", "InvalidPicture", "InvalidStream", "InvalidPlan", "InvalidTree", "InvalidNumber", "InvalidText", "InvalidLine", "InvalidClaim", "Refused", "NoKey", "TooLong", "UnknownName", "NothingToUndo", "Undefined", "ValueError"]⟩, ⟨"InvalidTree", ["value"], ["TideError", "InvalidTree", "ValueError"], ["TideError", "InvalidPicture", "InvalidStream", "InvalidPlan", "InvalidTree", "InvalidNumber", "InvalidText", "InvalidLine", "InvalidClaim", "Refused", "NoKey", "TooLong", "UnknownName", "NothingToUndo", "Undefined", "ValueError"]⟩, ⟨"InvalidNumber", ["value"], ["TideError", "InvalidNumber", "ValueError"], ["TideError", "InvalidPicture", "InvalidStream", "InvalidPlan", "InvalidTree", "InvalidNumber", "InvalidText", "InvalidLine", "InvalidClaim", "Refused", "NoKey", "TooLong", "UnknownName", "NothingToUndo", "Undefined", "ValueError"]⟩, ⟨"InvalidText", ["text", "at"], ["TideError", "InvalidText", "ValueError"], ["TideError", "InvalidPicture", "InvalidStream", "InvalidPlan", "InvalidTree", "InvalidNumber", "InvalidText", "InvalidLine", "InvalidClaim", "Refused", "NoKey", "TooLong", "UnknownName", "NothingToUndo", "Undefined", "ValueError"]⟩, ⟨"InvalidLine", ["line", "at"], ["TideError", "InvalidLine", "ValueError"], ["TideError", "InvalidPicture", "InvalidStream", "InvalidPlan", "InvalidTree", "InvalidNumber", "InvalidText", "InvalidLine", "InvalidClaim", "Refused", "NoKey", "TooLong", "UnknownName", "NothingToUndo", "Undefined", "ValueError"]⟩, ⟨"InvalidClaim", ["value"], ["TideError", "InvalidClaim", "ValueError"], ["TideError", "InvalidPicture", "InvalidStream", "InvalidPlan", "InvalidTree", "InvalidNumber", "InvalidText", "InvalidLine", "InvalidClaim", "Refused", "NoKey", "TooLong", "UnknownName", "NothingToUndo", "Undefined", "ValueError"]⟩, ⟨"Refused", ["claim"], ["TideError", "Refused", "ValueError"], ["TideError", "InvalidPicture", "InvalidStream", "InvalidPlan", "InvalidTree", "InvalidNumber", "InvalidText", "InvalidLine", "InvalidClaim", "Refused", "NoKey", "TooLong", "UnknownName", "NothingToUndo", "Undefined", "ValueError"]⟩, ⟨"NoKey", ["number"], ["TideError", "NoKey", "ValueError"], ["TideError", "InvalidPicture", "InvalidStream", "InvalidPlan", "InvalidTree", "InvalidNumber", "InvalidText", "InvalidLine", "InvalidClaim", "Refused", "NoKey", "TooLong", "UnknownName", "NothingToUndo", "Undefined", "ValueError"]⟩, ⟨"TooLong", ["number"], ["TideError", "TooLong", "ValueError"], ["TideError", "InvalidPicture", "InvalidStream", "InvalidPlan", "InvalidTree", "InvalidNumber", "InvalidText", "InvalidLine", "InvalidClaim", "Refused", "NoKey", "TooLong", "UnknownName", "NothingToUndo", "Undefined", "ValueError"]⟩, ⟨"UnknownName", ["name"], ["TideError", "UnknownName", "ValueError"], ["TideError", "InvalidPicture", "InvalidStream", "InvalidPlan", "InvalidTree", "InvalidNumber", "InvalidText", "InvalidLine", "InvalidClaim", "Refused", "NoKey", "TooLong", "UnknownName", "NothingToUndo", "Undefined", "ValueError"]⟩, ⟨"NothingToUndo", ["word"], ["TideError", "NothingToUndo", "ValueError"], ["TideError", "InvalidPicture", "InvalidStream", "InvalidPlan", "InvalidTree", "InvalidNumber", "InvalidText", "InvalidLine", "InvalidClaim", "Refused", "NoKey", "TooLong", "UnknownName", "NothingToUndo", "Undefined", "ValueError"]⟩, ⟨"Undefined", ["what"], ["TideError", "Undefined", "ValueError"], ["TideError", "InvalidPicture", "InvalidStream", "InvalidPlan", "InvalidTree", "InvalidNumber", "InvalidText", "InvalidLine", "InvalidClaim", "Refused", "NoKey", "TooLong", "UnknownName", "NothingToUndo", "Undefined", "ValueError"]⟩]
def tabK : List Kc := []
def tabG : List (Str × Val) := []
end Pv

set_option Elab.async false
set_option linter.all false
set_option maxRecDepth 100000
/-! Lemmas for the laws: calls, loops, lists of ints. -/
namespace Pv
open PySem
theorem callF_eq {T : List Fd} {G : List (Str × Val)} {n i : Nat} {d : Fd} {args : List Val} {st : Sto} {r : R Val} (hT : T[i]? = some d) (hl : args.length = d.ps)
    (h : (match evSs ⟨runF T G n, G⟩ d.body (frameOf d args) st with
      | .nx _ st' => leave st .non st'
      | .ret v st' => leave st v st'
      | .exn x _ st' => .exn x st'
      | _ => .stuck) = r) : runF T G (n + 1) i args st = r := by
  rw [← h]
  show callF T ⟨runF T G n, G⟩ i args st = _
  unfold callF
  simp only [hT, hl, if_true] <;> rfl
theorem leave_same {st : Sto} {v : Val} : leave st v st = .ok v st := by
  unfold leave
  split
  · rw [List.take_length]
  · rfl
theorem leave_app {st e : Sto} {v : Val} (h : belowV st.length v = true) : leave st v (st ++ e) = .ok v st := by
  unfold leave
  rw [if_pos]
  · simp
  · exact ⟨h, fun i hi => .inl (by rw [List.getElem?_append_left hi])⟩
/-- a call by its body's end -/
theorem call_ret {T : List Fd} {G : List (Str × Val)} {n i : Nat} {d : Fd} {args : List Val} {st e : Sto} {v : Val} (hT : T[i]? = some d) (hl : args.length = d.ps)
    (h : evSs ⟨runF T G n, G⟩ d.body (frameOf d args) st = .ret v (st ++ e)) (hv : belowV st.length v = true) : runF T G (n + 1) i args st = .ok v st :=
  callF_eq hT hl (by rw [h]; exact leave_app hv)
theorem call_ret0 {T : List Fd} {G : List (Str × Val)} {n i : Nat} {d : Fd} {args : List Val} {st : Sto} {v : Val} (hT : T[i]? = some d) (hl : args.length = d.ps)
    (h : evSs ⟨runF T G n, G⟩ d.body (frameOf d args) st = .ret v st) : runF T G (n + 1) i args st = .ok v st :=
  callF_eq hT hl (by rw [h]; exact leave_same)
/-! the store -/
theorem st_get {st e : Sto} (k : Nat) : (st ++ e)[st.length + k]? = e[k]? := by
  rw [List.getElem?_append_right (by omega)]
  congr 1
  omega
theorem st_get0 {st e : Sto} : (st ++ e)[st.length]? = e[0]? := st_get 0
theorem st_set {st e : Sto} {o : Ob} (k : Nat) : (st ++ e).set (st.length + k) o = st ++ e.set k o := by
  rw [List.set_append_right _ _ (by omega)]
  congr 2
  omega
theorem st_set0 {st e : Sto} {o : Ob} : (st ++ e).set st.length o = st ++ e.set 0 o := st_set 0
theorem guard_nil {st : Sto} : guardOk st [] := fun p hp => by simp at hp
theorem guard_one {st : Sto} {n : Nat} {l : List Val} (h : st[n]? = some (.lst l)) : guardOk st [(n, l)] := fun p hp => by
  have e : p = (n, l) := by simpa using hp
  subst e
  exact h
/-! loops -/
theorem forL_inv {body : Env → Sto → Fl} {tg : Tg} {g : List (Nat × List Val)} (P : Nat → Env → Sto → Prop) (hg : ∀ i l st, P i l st → guardOk st g) : ∀ (items : List Val) (k : Nat) (l : Env) (st : Sto), P k l st →
    (∀ i v l st, items[i]? = some v → P (k + i) l st → ∃ l1, tgSet tg v l = some l1 ∧ ∃ l2 st2, body l1 st = .nx l2 st2 ∧ P (k + i + 1) l2 st2) → ∃ l' st', forL body tg g items l st = .nx l' st' ∧ P (k + items.length) l' st'
  | [], k, l, st, h, _ => ⟨l, st, by rw [forL, if_pos (hg _ _ _ h)], h⟩
  | v :: vs, k, l, st, h, hs => by
    obtain ⟨l1, e1, l2, st2, e2, h2⟩ := hs 0 v l st rfl h
    obtain ⟨l', st', e3, h3⟩ := forL_inv P hg vs (k + 1) l2 st2 h2 fun i v l st e h => by
      have := hs (i + 1) v l st (by simpa using e) (by rw [show k + (i + 1) = k + 1 + i by omega]; exact h)
      rw [show k + (i + 1) + 1 = k + 1 + i + 1 by omega] at this
      exact this
    refine ⟨l', st', ?_, by rw [List.length_cons, show k + (vs.length + 1) = k + 1 + vs.length by omega]; exact h3⟩
    rw [forL, if_pos (hg _ _ _ h), e1]
    simp only [e2]
    exact e3
theorem for_inv {body : Env → Sto → Fl} {tg : Tg} {g : List (Nat × List Val)} {items : List Val} {l : Env} {st : Sto} (P : Nat → Env → Sto → Prop) (h0 : P 0 l st) (hg : ∀ i l st, P i l st → guardOk st g)
    (hs : ∀ i v l st, items[i]? = some v → P i l st → ∃ l1, tgSet tg v l = some l1 ∧ ∃ l2 st2, body l1 st = .nx l2 st2 ∧ P (i + 1) l2 st2) : ∃ l' st', forL body tg g items l st = .nx l' st' ∧ P items.length l' st' := by
  obtain ⟨l', st', e, h⟩ := forL_inv P hg items 0 l st h0 fun i v l st e h => by
    rw [Nat.zero_add] at h ⊢
    exact hs i v l st e h
  rw [Nat.zero_add] at h
  exact ⟨l', st', e, h⟩
/-- .. where a turn may end it -/
theorem lcL_map {body : Val → Sto → R (Option Val)} {g : List (Nat × List Val)} {st : Sto} (f : Val → Option Val) (hg : guardOk st g) : ∀ (items acc : List Val), (∀ v ∈ items, body v st = .ok (f v) st) → acc.length + items.length ≤ sizeLine →
    lcL body g items acc st = .ok (acc ++ items.filterMap f) st
  | [], acc, _, _ => by rw [lcL, if_pos hg]; simp
  | v :: vs, acc, h, hz => by
    rw [lcL, if_pos hg, h v List.mem_cons_self]
    rw [List.length_cons] at hz
    cases e : f v with
    | none =>
      simp only
      rw [lcL_map f hg vs acc (fun u hu => h u (List.mem_cons_of_mem _ hu)) (by omega), List.filterMap_cons, e]
    | some x =>
      simp only
      rw [if_pos (by omega), lcL_map f hg vs (acc ++ [x]) (fun u hu => h u (List.mem_cons_of_mem _ hu)) (by rw [List.length_append]; simp; omega), List.filterMap_cons, e]
      simp
/-! lists of ints -/
abbrev iL (l : List Int) : List Val := l.map .int
theorem thaw_ints {st : Sto} : ∀ l : List Int, thawL st (iL l) = some (iL l, [])
  | [] => rfl
  | x :: l => by
    show thawL st (.int x :: iL l) = _
    rw [thawL, thaw_ints l]
    simp [thaw1, pureV]
theorem below_ints (n : Nat) : ∀ l : List Int, belowVs n (iL l) = true
  | [] => rfl
  | x :: l => by
    show belowVs n (.int x :: iL l) = true
    rw [belowVs, below_ints n l]
    rfl
theorem iL_get {l : List Int} {i : Nat} {v : Val} (h : (iL l)[i]? = some v) : ∃ (hi : i < l.length), v = .int l[i] := by
  rw [List.getElem?_map] at h
  cases e : l[i]? with
  | none => rw [e] at h; cases h
  | some x =>
    rw [e] at h
    cases h
    obtain ⟨hi, e⟩ := List.getElem?_eq_some_iff.mp e
    exact ⟨hi, by rw [e]⟩
theorem rngL_get' {lo c : Int} {n i : Nat} {v : Val} (h : (rngL lo c n)[i]? = some v) : i < n ∧ v = .int (lo + (i : Nat) * c) := by
  unfold rngL at h
  rw [List.getElem?_map] at h
  cases e : (List.range n)[i]? with
  | none => rw [e] at h; cases h
  | some x =>
    rw [e] at h
    cases h
    obtain ⟨hi, e⟩ := List.getElem?_eq_some_iff.mp e
    rw [List.length_range] at hi
    rw [List.getElem_range] at e
    subst e
    exact ⟨hi, rfl⟩
theorem rngL_len {lo c : Int} {n : Nat} : (rngL lo c n).length = n := by
  unfold rngL
  rw [List.length_map, List.length_range]
theorem atI_nat {α : Type} {l : List α} {k : Nat} (h : k < l.length) : L2.atI l (k : Int) = some l[k] := by
  unfold L2.atI L2.ixN
  rw [if_pos (by omega)]
  simp [h]
/-! what is wanted behind statements -/
structure Po where
  N : Env → Sto → Prop := fun _ _ => False
  R : Val → Sto → Prop := fun _ _ => False
  B : Env → Sto → Prop := fun _ _ => False
  C : Env → Sto → Prop := fun _ _ => False
def W (r : Fl) (D : Po) : Prop := match r with
  | .nx l st => D.N l st
  | .ret v st => D.R v st
  | .brk l st => D.B l st
  | .cnt l st => D.C l st
  | _ => False
@[simp] theorem W_nx {l : Env} {st : Sto} {D : Po} : W (.nx l st) D = D.N l st := rfl
@[simp] theorem W_ret {l : Val} {st : Sto} {D : Po} : W (.ret l st) D = D.R l st := rfl
@[simp] theorem W_brk {l : Env} {st : Sto} {D : Po} : W (.brk l st) D = D.B l st := rfl
@[simp] theorem W_cnt {l : Env} {st : Sto} {D : Po} : W (.cnt l st) D = D.C l st := rfl
theorem W_nil {c : Cn} {l : Env} {st : Sto} {D : Po} : W (evSs c [] l st) D = D.N l st := by simp only [evSs, W_nx]
theorem W_cons {c : Cn} {s : Sm} {ss : List Sm} {l : Env} {st : Sto} {D : Po} : W (evSs c (s :: ss) l st) D = W (evS c s l st) { D with N := fun l st => W (evSs c ss l st) D } := by
  simp only [evSs]
  cases evS c s l st <;> rfl
theorem W.mono {x : Fl} {D D' : Po} (h : W x D) (n : ∀ l st, D.N l st → D'.N l st) (r : ∀ l st, D.R l st → D'.R l st) (b : ∀ l st, D.B l st → D'.B l st) (k : ∀ l st, D.C l st → D'.C l st) : W x D' := by
  cases x with
  | nx l st => exact n _ _ h
  | ret l st => exact r _ _ h
  | brk l st => exact b _ _ h
  | cnt l st => exact k _ _ h
  | _ => exact h
theorem W_forL {body : Env → Sto → Fl} {tg : Tg} {g : List (Nat × List Val)} {D : Po} (P : Nat → Env → Sto → Prop) (hg : ∀ i l st, P i l st → guardOk st g) : ∀ (items : List Val) (k : Nat) (l : Env) (st : Sto), P k l st →
    (∀ i v l st, items[i]? = some v → P (k + i) l st → ∃ l1, tgSet tg v l = some l1 ∧ W (body l1 st) { N := P (k + i + 1), C := P (k + i + 1), B := D.N, R := D.R }) → (∀ l st, P (k + items.length) l st → D.N l st) → W (forL body tg g items l st) D
  | [], k, l, st, h, _, hk => by
    rw [forL, if_pos (hg _ _ _ h)]
    exact hk _ _ h
  | v :: vs, k, l, st, h, hs, hk => by
    obtain ⟨l1, e1, h1⟩ := hs 0 v l st rfl h
    rw [forL, if_pos (hg _ _ _ h), e1]
    simp only
    have again : ∀ l2 st2, P (k + 1) l2 st2 → W (forL body tg g vs l2 st2) D := fun l2 st2 h2 => W_forL P hg vs (k + 1) l2 st2 h2 (fun i v l st e h => by
      have := hs (i + 1) v l st (by simpa using e) (by rw [show k + (i + 1) = k + 1 + i by omega]; exact h)
      rw [show k + (i + 1) + 1 = k + 1 + i + 1 by omega] at this
      exact this) fun l st h => hk l st (by rw [List.length_cons, show k + (vs.length + 1) = k + 1 + vs.length by omega]; exact h)
    cases e : body l1 st with
    | nx l2 st2 =>
      rw [e] at h1
      exact again _ _ h1
    | cnt l2 st2 =>
      rw [e] at h1
      exact again _ _ h1
    | brk l2 st2 =>
      rw [e] at h1
      exact h1
    | ret l2 st2 =>
      rw [e] at h1
      exact h1
    | exn x l2 st2 =>
      rw [e] at h1
      exact h1.elim
    | stuck =>
      rw [e] at h1
      exact h1.elim
theorem W_for {body : Env → Sto → Fl} {tg : Tg} {g : List (Nat × List Val)} {D : Po} {items : List Val} {l : Env} {st : Sto} (P : Nat → Env → Sto → Prop) (h0 : P 0 l st) (hg : ∀ i l st, P i l st → guardOk st g)
    (hs : ∀ i v l st, items[i]? = some v → P i l st → ∃ l1, tgSet tg v l = some l1 ∧ W (body l1 st) { N := P (i + 1), C := P (i + 1), B := D.N, R := D.R }) (hk : ∀ l st, P items.length l st → D.N l st) : W (forL body tg g items l st) D :=
  W_forL P hg items 0 l st h0 (fun i v l st e h => by
    rw [Nat.zero_add] at h ⊢
    exact hs i v l st e h) fun l st h => hk l st (by rw [Nat.zero_add] at h; exact h)
/-- a def by its body -/
theorem call_W {T : List Fd} {G : List (Str × Val)} {n i : Nat} {d : Fd} {args : List Val} {st : Sto} (Q : Val → Prop) (hT : T[i]? = some d) (hl : args.length = d.ps)
    (h : W (evSs ⟨runF T G n, G⟩ d.body (frameOf d args) st) { N := fun _ st' => (∃ e, st' = st ++ e) ∧ Q .non, R := fun v st' => (∃ e, st' = st ++ e) ∧ belowV st.length v = true ∧ Q v }) : ∃ v, Q v ∧ runF T G (n + 1) i args st = .ok v st := by
  cases e : evSs ⟨runF T G n, G⟩ d.body (frameOf d args) st with
  | ret v st' =>
    rw [e] at h
    obtain ⟨⟨x, rfl⟩, hb, hq⟩ := h
    exact ⟨v, hq, call_ret hT hl e hb⟩
  | nx l st' =>
    rw [e] at h
    obtain ⟨⟨x, rfl⟩, hq⟩ := h
    exact ⟨.non, hq, callF_eq hT hl (by rw [e]; exact leave_app rfl)⟩
  | _ =>
    rw [e] at h
    exact h.elim
/-- .. with a known end -/
theorem call_eq {T : List Fd} {G : List (Str × Val)} {n i : Nat} {d : Fd} {args : List Val} {st : Sto} {v : Val} (hT : T[i]? = some d) (hl : args.length = d.ps) (hv : belowV st.length v = true)
    (h : W (evSs ⟨runF T G n, G⟩ d.body (frameOf d args) st) { R := fun u st' => (∃ e, st' = st ++ e) ∧ u = v }) : runF T G (n + 1) i args st = .ok v st := by
  obtain ⟨u, e1, e2⟩ := call_W (G := G) (n := n) (st := st) (fun u => u = v) hT hl (W.mono h (fun _ _ z => False.elim z) (fun u st' z => ⟨z.1, by rw [z.2]; exact hv, z.2⟩) (fun _ _ z => False.elim z) fun _ _ z => False.elim z)
  rw [e2, e1]
theorem mul_r {x y : Int} (h1 : -18446744073709551616 < y) (h2 : y < 18446744073709551616) : mulOk x y := .inr (.inl ⟨by omega, by omega⟩)
theorem mul_l {x y : Int} (h1 : -18446744073709551616 < x) (h2 : x < 18446744073709551616) : mulOk x y := .inl ⟨by omega, by omega⟩
theorem div_ok {x y : Int} (h1 : 0 < y) (h2 : y < 18446744073709551616) : divOk x y := by
  refine ⟨h1, ?_⟩
  have h : y.natAbs < 2 ^ 64 := by omega
  have := (Nat.log2_lt (n := y.natAbs) (k := 64) (by omega)).mpr h
  omega
theorem snoc_all {α : Type} {P : α → Prop} {l : List α} {x : α} (h : ∀ d ∈ l, P d) (hx : P x) : ∀ d ∈ l ++ [x], P d := fun d hd => by
  rcases List.mem_append.mp hd with z | z
  · exact h d z
  · have e : d = x := by simpa using z
    rw [e]
    exact hx
theorem iL_snoc (l : List Int) (x : Int) : iL (l ++ [x]) = iL l ++ [.int x] := by simp [iL]
theorem iL_len (l : List Int) : (iL l).length = l.length := by simp [iL]
theorem iL_atI {l : List Int} {k : Int} (h0 : 0 ≤ k) (h : k < l.length) : L2.atI (iL l) k = some (.int (l.getD k.toNat 0)) := by
  obtain ⟨j, rfl⟩ := Int.eq_ofNat_of_zero_le h0
  have hj : j < l.length := by omega
  show L2.atI (iL l) (j : Int) = _
  rw [atI_nat (by rw [iL_len]; exact hj)]
  simp [iL, hj]
theorem W_weak {x : Fl} {D D' : Po} (h : W x D) (n : ∀ l st, D.N l st → D'.N l st) (r : ∀ l st, D.R l st → D'.R l st) (b : ∀ l st, ¬ D.B l st) (k : ∀ l st, ¬ D.C l st) : W x D' := W.mono h n r (fun l st z => absurd z (b l st)) fun l st z => absurd z (k l st)
/-! comprehensions -/
theorem lcL_idx {body : Val → Sto → R (Option Val)} {g : List (Nat × List Val)} {st : Sto} (f : Nat → Val) (hg : guardOk st g) : ∀ (items acc : List Val) (k : Nat), (∀ i v, items[i]? = some v → body v st = .ok (some (f (k + i))) st) → acc.length + items.length ≤ sizeLine →
    lcL body g items acc st = .ok (acc ++ (List.range items.length).map fun i => f (k + i)) st
  | [], acc, k, _, _ => by rw [lcL, if_pos hg]; simp
  | v :: vs, acc, k, h, hz => by
    rw [lcL, if_pos hg, h 0 v rfl]
    rw [List.length_cons] at hz
    simp only
    rw [if_pos (by omega), lcL_idx f hg vs (acc ++ [f (k + 0)]) (k + 1) (fun i u e => by
      rw [show k + 1 + i = k + (i + 1) by omega]
      exact h (i + 1) u (by simpa using e)) (by rw [List.length_append]; simp; omega)]
    rw [List.length_cons, List.range_succ_eq_map, List.map_cons, List.map_map, List.append_assoc]
    congr 2
    simp only [List.cons_append, List.nil_append, List.cons.injEq, true_and]
    refine List.map_congr_left fun i _ => ?_
    show f (k + 1 + i) = f (k + (i + 1))
    congr 1
    omega
theorem ev_lc {c : Cn} {m : Bool} {e : Xp} {tg : Tg} {it : It} {l : Env} {st : Sto} {items : List Val} {g : List (Nat × List Val)} (f : Nat → Val) (hi : evi c it l st = .ok (items, g) st) (hg : guardOk st g)
    (hb : ∀ i v, items[i]? = some v → ∃ l1, tgSet tg v (wipeE l tg.slots) = some l1 ∧ ev c false e l1 st = .ok (f i) st) (hz : items.length ≤ sizeLine) : ev c false (.lc m e tg it []) l st = newL m ((List.range items.length).map f) st := by
  simp only [ev, hi, R.bind_ok, fin_false]
  rw [lcL_idx f hg items [] 0 (fun i v ei => by
    obtain ⟨l1, e1, e2⟩ := hb i v ei
    simp only [e1, evf, R.bind_ok, e2, Nat.zero_add]) (by simpa using hz)]
  simp
theorem ev_lcF {c : Cn} {m : Bool} {e : Xp} {tg : Tg} {it : It} {ifs : List Xp} {l : Env} {st : Sto} {items : List Val} {g : List (Nat × List Val)} (f : Val → Option Val) (hi : evi c it l st = .ok (items, g) st) (hg : guardOk st g)
    (hb : ∀ v ∈ items, ∃ l1, tgSet tg v (wipeE l tg.slots) = some l1 ∧ ((evf c ifs l1 st).bind fun b st => match b with
          | true => (ev c false e l1 st).bind fun x st => .ok (some x) st
          | false => .ok none st) = .ok (f v) st) (hz : items.length ≤ sizeLine) : ev c false (.lc m e tg it ifs) l st = newL m (items.filterMap f) st := by
  simp only [ev, hi, R.bind_ok, fin_false]
  rw [lcL_map f hg items [] (fun v hv => by
    obtain ⟨l1, e1, e2⟩ := hb v hv
    simp only [e1]
    exact e2) (by simpa using hz)]
  simp
def gi (l : List Int) (k : Nat) : Int := l.getD k 0
/-- range(h) as ints -/
def tab (h : Nat) (f : Nat → Int) : List Int := (List.range h).map f
theorem tab_len {h : Nat} {f : Nat → Int} : (tab h f).length = h := by simp [tab]
theorem iL_tab {h : Nat} {f : Nat → Int} : iL (tab h f) = (List.range h).map fun i => Val.int (f i) := by simp [iL, tab]
theorem tab_get {h k : Nat} {f : Nat → Int} (hk : k < h) : gi (tab h f) k = f k := by simp [gi, tab, hk]
theorem tab_self (l : List Int) : l = tab l.length fun k => gi l k := by
  apply List.ext_getElem?
  intro i
  unfold tab gi
  rw [List.getElem?_map]
  by_cases h : i < l.length
  · simp [h]
  · simp [h]
theorem tab_congr {h : Nat} {f g : Nat → Int} (e : ∀ k, k < h → f k = g k) : tab h f = tab h g := List.map_congr_left fun k hk => e k (List.mem_range.mp hk)
theorem tab_add {h k : Nat} {f : Nat → Int} : tab (h + k) f = tab h f ++ tab k fun i => f (h + i) := by
  unfold tab
  rw [List.range_add, List.map_append, List.map_map]
  rfl
theorem gi_at {l : List Int} {k : Nat} {z : Int} (h : k < l.length) (e : z = k) : L2.atI (iL l) z = some (.int (gi l k)) := by
  subst e
  rw [iL_atI (by omega) (by omega)]
  rfl
theorem iL_tab_succ {j : Nat} {f : Nat → Int} : iL (tab (j + 1) f) = iL (tab j f) ++ [.int (f j)] := by
  unfold tab
  rw [List.range_succ, List.map_append, iL, List.map_append]
  rfl
theorem zipV_ints : ∀ (a b : List Int) (k : Nat) (v : Val), (zipV (iL a) (iL b))[k]? = some v → k < a.length ∧ k < b.length ∧ v = .tup [.int (gi a k), .int (gi b k)]
  | [], _, k, v, h => by simp [iL, zipV] at h
  | _ :: _, [], k, v, h => by simp [iL, zipV] at h
  | x :: a, y :: b, 0, v, h => by
    simp [iL, zipV] at h
    exact ⟨by simp, by simp, h.symm⟩
  | x :: a, y :: b, k + 1, v, h => by
    obtain ⟨h1, h2, h3⟩ := zipV_ints a b k v (by simpa [iL, zipV] using h)
    exact ⟨by simp; omega, by simp; omega, by rw [h3]; rfl⟩
theorem zipV_len : ∀ (a b : List Int), (zipV (iL a) (iL b)).length = min a.length b.length
  | [], _ => by simp [iL, zipV]
  | _ :: _, [] => by simp [iL, zipV]
  | x :: a, y :: b => by
    have := zipV_len a b
    simp only [iL, List.map_cons, zipV, List.length_cons] at this ⊢
    rw [this]
    omega
theorem gi_take {l : List Int} {h k : Nat} (hk : k < h) : gi (l.take h) k = gi l k := by simp [gi, List.getElem?_take, hk]
theorem gi_drop {l : List Int} {h k : Nat} : gi (l.drop h) k = gi l (h + k) := by simp [gi]
theorem cut_lo {l : List Int} {h : Nat} (hh : h ≤ l.length) : cutL (iL l) none (some (h : Int)) = iL (l.take h) := by
  unfold cutL
  have e1 : HT.sIx (iL l).length 0 none = 0 := rfl
  have e2 : HT.sIx (iL l).length (iL l).length (some (h : Int)) = h := by
    rw [iL_len, HT.sIx_nat]
    omega
  rw [e1, e2]
  simp [iL]
theorem cut_hi {l : List Int} {h : Nat} (hh : h ≤ l.length) : cutL (iL l) (some (h : Int)) none = iL (l.drop h) := by
  unfold cutL
  have e1 : HT.sIx (iL l).length (iL l).length none = l.length := by rw [iL_len]; rfl
  have e2 : HT.sIx (iL l).length 0 (some (h : Int)) = h := by
    rw [iL_len, HT.sIx_nat]
    omega
  rw [e1, e2, iL, ← List.map_drop, List.take_of_length_le (by simp)]
@[simp] theorem truth_bl {st : Sto} {b : Bool} : truth st (.bl b) = some b := rfl
@[simp] theorem truth_int {st : Sto} {b : Int} : truth st (.int b) = some (b != 0) := rfl
@[simp] theorem truth_non {st : Sto} : truth st .non = some false := rfl
/-! == of lists of ints -/
theorem toDs_ints : ∀ l : List Int, toDs0 (iL l) = some (l.map .int)
  | [] => by simp [iL, toDs0]
  | x :: l => by
    have := toDs_ints l
    simp only [iL, List.map_cons, toDs0, toD0] at this ⊢
    rw [this]
theorem lay_ints : ∀ l : List Int, PyData.canLayAll0 (l.map .int) = true
  | [] => by simp [PyData.canLayAll0]
  | x :: l => by simp [PyData.canLayAll0, PyData.canLay0, lay_ints l]
theorem depth_ints : ∀ l : List Int, PyData.depthAll (l.map .int) = 0
  | [] => by simp [PyData.depthAll]
  | x :: l => by simp [PyData.depthAll, PyData.depth, depth_ints l]
theorem eqv_ints : ∀ l m : List Int, PyData.eqvAll (l.map .int) (m.map .int) = decide (l = m)
  | [], [] => by simp [PyData.eqvAll]
  | [], _ :: _ => by simp [PyData.eqvAll]
  | _ :: _, [] => by simp [PyData.eqvAll]
  | x :: l, y :: m => by
    simp only [List.map_cons, PyData.eqvAll, PyData.eqv, eqv_ints l m]
    by_cases h : x = y <;> by_cases g : l = m <;> simp [h, g]
theorem shaped_ints (l : List Int) : SeqAt.shaped (.list (l.map .int)) = true ∧ SeqAt.shaped (.tuple (l.map .int)) = true := by
  constructor <;> simp [SeqAt.shaped, PyData.canLay0, PyData.depth, lay_ints, depth_ints]
theorem eq_lints {st : Sto} {a b : Val} {l m : List Int} (ha : lview st a = some (iL l)) (hb : lview st b = some (iL m)) : eqEv st a b = some (decide (l = m)) := by
  have da : toD st a = some (.list (l.map .int)) := by
    cases a with
    | lst x =>
      simp only [lview] at ha
      cases ha
      simp [toD, toD0, toDs_ints]
    | ref n =>
      simp only [lview] at ha
      split at ha
      · rename_i x e
        cases ha
        simp [toD, e, toDs_ints]
      · cases ha
    | _ => simp [lview] at ha
  have db : toD st b = some (.list (m.map .int)) := by
    cases b with
    | lst x =>
      simp only [lview] at hb
      cases hb
      simp [toD, toD0, toDs_ints]
    | ref n =>
      simp only [lview] at hb
      split at hb
      · rename_i x e
        cases hb
        simp [toD, e, toDs_ints]
      · cases hb
    | _ => simp [lview] at hb
  have e : eqEv st a b = (match toD st a, toD st b with
    | some d, some e => if SeqAt.shaped d = true ∧ SeqAt.shaped e = true then some (PyData.eqv d e) else none
    | _, _ => none) := by
    cases a <;> first | rfl | simp [lview] at ha
  rw [e, da, db]
  simp only
  rw [if_pos ⟨(shaped_ints l).1, (shaped_ints m).1⟩, PyData.eqv, eqv_ints]
theorem eq_tints {st : Sto} {l m : List Int} : eqEv st (.tup (iL l)) (.tup (iL m)) = some (decide (l = m)) := by
  show (match toD st (.tup (iL l)), toD st (.tup (iL m)) with
    | some d, some e => if SeqAt.shaped d = true ∧ SeqAt.shaped e = true then some (PyData.eqv d e) else none
    | _, _ => none) = _
  simp only [toD, toD0, toDs_ints, Option.map_some]
  rw [if_pos ⟨(shaped_ints l).2, (shaped_ints m).2⟩, PyData.eqv, eqv_ints]
theorem mul_w {x y : Int} (h1 : x.natAbs < 2 ^ 200) (h2 : y.natAbs < 2 ^ 200) : mulOk x y := by
  refine .inr (.inr ?_)
  have l : ∀ n : Nat, n < 2 ^ 200 → n.log2 < 200 := fun n h => by
    by_cases h0 : n = 0
    · subst h0
      decide
    · exact (Nat.log2_lt h0).mpr h
  have := l _ h1
  have := l _ h2
  omega
/-! rows of rows -/
abbrev rows (m : List (List Int)) : List Val := m.map fun r => .tup (iL r)
theorem below_rows (n : Nat) : ∀ m : List (List Int), belowVs n (rows m) = true
  | [] => rfl
  | r :: m => by
    show belowVs n (.tup (iL r) :: rows m) = true
    rw [belowVs, below_rows n m, belowV, below_ints]
    rfl
theorem lcL_M {α : Type} {body : Val → Sto → R (Option Val)} {st : Sto} {g h : α → Val} {gs : List (Nat × List Val)} (hg : guardOk st gs) : ∀ (L : List α) (acc : List Val), (∀ a ∈ L, body (g a) st = .ok (some (h a)) st) → acc.length + L.length ≤ sizeLine →
    lcL body gs (L.map g) acc st = .ok (acc ++ L.map h) st
  | [], acc, _, _ => by
    rw [List.map_nil, lcL, if_pos hg]
    simp
  | a :: L, acc, hb, hz => by
    rw [List.length_cons] at hz
    rw [List.map_cons, lcL, if_pos hg, hb a List.mem_cons_self]
    simp only
    rw [if_pos (by omega), lcL_M hg L (acc ++ [h a]) (fun b hb' => hb b (List.mem_cons_of_mem _ hb')) (by rw [List.length_append]; simp; omega)]
    simp
/-- a comprehension over a mapped list -/
theorem ev_lcM {α : Type} {c : Cn} {m : Bool} {e : Xp} {tg : Tg} {it : It} {l : Env} {st : Sto} {L : List α} {g h : α → Val} {gs : List (Nat × List Val)} (hi : evi c it l st = .ok (L.map g, gs) st) (hg : guardOk st gs)
    (hb : ∀ a ∈ L, ∃ l1, tgSet tg (g a) (wipeE l tg.slots) = some l1 ∧ ev c false e l1 st = .ok (h a) st) (hz : L.length ≤ sizeLine) : ev c false (.lc m e tg it []) l st = newL m (L.map h) st := by
  simp only [ev, hi, R.bind_ok, fin_false]
  rw [lcL_M (h := h) hg L [] (fun a ha => by
    obtain ⟨l1, e1, e2⟩ := hb a ha
    simp only [e1, evf, R.bind_ok, e2]) (by simpa using hz)]
  simp
theorem iL_map {l : List Int} {f : Int → Int} : iL (l.map f) = l.map fun x => Val.int (f x) := by simp [iL]
def gr (m : List (List Int)) (k : Nat) : List Int := m.getD k []
theorem gr_mem {m : List (List Int)} {k : Nat} (h : k < m.length) : gr m k ∈ m := by
  unfold gr
  rw [List.getD_eq_getElem?_getD, List.getElem?_eq_getElem h]
  exact List.getElem_mem h
theorem map_at {m : List (List Int)} {g : List Int → Val} {k : Nat} {z : Int} (h : k < m.length) (e : z = k) : L2.atI (m.map g) z = some (g (gr m k)) := by
  subst e
  rw [atI_nat (by simpa using h)]
  simp [gr, h]
theorem cut_mid {l : List Int} {a b : Nat} (h1 : a ≤ b) (h2 : b ≤ l.length) : cutL (iL l) (some (a : Int)) (some (b : Int)) = iL ((l.drop a).take (b - a)) := by
  unfold cutL
  rw [iL_len, HT.sIx_nat, HT.sIx_nat, iL, ← List.map_drop, ← List.map_take]
  congr 2
  · omega
  · rw [show min a l.length = a by omega]
theorem putK0 {xs : List Val} : putK xs [] = xs := rfl
theorem putK1 {a : Val} : putK [] [(0, a)] = [a] := rfl
theorem putK10 {a b : Val} : putK [] [(1, a), (0, b)] = [b, a] := rfl
theorem putK01 {a b : Val} : putK [] [(0, a), (1, b)] = [a, b] := rfl
/-! while: a measure -/
theorem W_whL {c : Env → Sto → R Val} {body : Env → Sto → Fl} {D : Po} (P : Nat → Env → Sto → Prop) (hs : ∀ k l st, P k l st → (∃ st', c l st = .ok (.bl false) st' ∧ D.N l st') ∨ (∃ j st', k = j + 1 ∧ c l st = .ok (.bl true) st' ∧ W (body l st') { N := P j, C := P j, B := D.N, R := D.R })) :
    ∀ (n k : Nat) (l : Env) (st : Sto), k < n → P k l st → W (whL c body n l st) D
  | 0, _, _, _, h, _ => absurd h (by omega)
  | n + 1, k, l, st, h, hp => by
    rw [whL]
    rcases hs k l st hp with ⟨st', e, hn⟩ | ⟨j, st', rfl, e, hb⟩
    · rw [e]
      exact hn
    · rw [e]
      simp only
      cases eb : body l st' with
      | nx l2 st2 =>
        rw [eb] at hb
        exact W_whL P hs n j l2 st2 (by omega) hb
      | cnt l2 st2 =>
        rw [eb] at hb
        exact W_whL P hs n j l2 st2 (by omega) hb
      | brk l2 st2 =>
        rw [eb] at hb
        exact hb
      | ret l2 st2 =>
        rw [eb] at hb
        exact hb
      | exn x l2 st2 =>
        rw [eb] at hb
        exact hb.elim
      | stuck =>
        rw [eb] at hb
        exact hb.elim
theorem W_while {c : Env → Sto → R Val} {body : Env → Sto → Fl} {D : Po} {l : Env} {st : Sto} (k : Nat) (P : Nat → Env → Sto → Prop) (hk : k < 1000000) (h0 : P k l st)
    (hs : ∀ k l st, P k l st → (∃ st', c l st = .ok (.bl false) st' ∧ D.N l st') ∨ (∃ j st', k = j + 1 ∧ c l st = .ok (.bl true) st' ∧ W (body l st') { N := P j, C := P j, B := D.N, R := D.R })) : W (whL c body wfuel l st) D :=
  W_whL P hs wfuel k l st (by rw [wfuel_eq]; omega) h0
/-! steps by a known value -/
theorem bf_rg1 {j : Int} {st : Sto} : bfEv .rg1 [.int j] st = .ok (.rng 0 j 1) st := by rw [bfEv]
theorem bf_rg2 {i j : Int} {st : Sto} : bfEv .rg2 [.int i, .int j] st = .ok (.rng i j 1) st := by rw [bfEv]
theorem evS_ret {c : Cn} {e : Xp} {l : Env} {st st' : Sto} {v : Val} (h : ev c false e l st = .ok v st') : evS c (.ret e) l st = .ret v st' := by simp only [evS, h, R.fl]
theorem evS_set {c : Cn} {i : Nat} {e : Xp} {l : Env} {st st' : Sto} {v : Val} (h : ev c false e l st = .ok v st') : evS c (.set i e) l st = .nx (l.set i (some v)) st' := by simp only [evS, h, R.fl]
theorem ev_ife1 {c : Cn} {d a b : Xp} {l : Env} {st st' : Sto} (h : ev c true d l st = .ok (.bl true) st') : ev c false (.ife d a b) l st = ev c false a l st' := by rw [ev]; simp only [h, R.bind_ok]
theorem ev_ife0 {c : Cn} {d a b : Xp} {l : Env} {st st' : Sto} (h : ev c true d l st = .ok (.bl false) st') : ev c false (.ife d a b) l st = ev c false b l st' := by rw [ev]; simp only [h, R.bind_ok]
theorem evS_if1 {c : Cn} {d : Xp} {a b : List Sm} {l : Env} {st st' : Sto} (h : ev c true d l st = .ok (.bl true) st') : evS c (.ife d a b) l st = evSs c a l st' := by rw [evS]; simp only [h, R.fl]
theorem evS_if0 {c : Cn} {d : Xp} {a b : List Sm} {l : Env} {st st' : Sto} (h : ev c true d l st = .ok (.bl false) st') : evS c (.ife d a b) l st = evSs c b l st' := by rw [evS]; simp only [h, R.fl]
theorem cutL_nat {xs : List Val} {a b : Nat} (h1 : a ≤ b) (h2 : b ≤ xs.length) : cutL xs (some (a : Int)) (some (b : Int)) = (xs.drop a).take (b - a) := by
  unfold cutL
  rw [HT.sIx_nat, HT.sIx_nat]
  congr 1
  · omega
  · rw [show min a xs.length = a by omega]
theorem cutL_nil {lo hi : Option Int} : cutL [] lo hi = [] := by simp [cutL]
theorem allI_ints : ∀ l : List Int, allI (iL l) = some l
  | [] => rfl
  | x :: l => by
    show (allI (iL l)).map (x :: ·) = _
    rw [allI_ints l]
    rfl
theorem below_map {α : Type} {n : Nat} {f : α → Val} (h : ∀ a, belowV n (f a) = true) : ∀ l : List α, belowVs n (l.map f) = true
  | [] => rfl
  | x :: l => by
    rw [List.map_cons, belowVs, below_map h l, h x]
    rfl
end Pv

set_option Elab.async false
set_option linter.all false
set_option maxRecDepth 100000
/-! Statement by statement, the values found by the way. -/
namespace Pv
open PySem
theorem W_set {c : Cn} {i : Nat} {e : Xp} {ss : List Sm} {l : Env} {st st' : Sto} {v : Val} {D : Po} (h : ev c false e l st = .ok v st') (k : W (evSs c ss (l.set i (some v)) st') D) : W (evSs c (.set i e :: ss) l st) D := by
  rw [W_cons, evS_set h, W_nx]
  exact k
theorem W_exp {c : Cn} {e : Xp} {ss : List Sm} {l : Env} {st st' : Sto} {v : Val} {D : Po} (h : ev c false e l st = .ok v st') (k : W (evSs c ss l st') D) : W (evSs c (.exp e :: ss) l st) D := by
  rw [W_cons]
  simp only [evS, h, R.fl_ok, W_nx]
  exact k
theorem W_rt {c : Cn} {e : Xp} {ss : List Sm} {l : Env} {st st' : Sto} {v : Val} {D : Po} (h : ev c false e l st = .ok v st') (k : D.R v st') : W (evSs c (.ret e :: ss) l st) D := by
  rw [W_cons, evS_ret h, W_ret]
  exact k
theorem W_rn {c : Cn} {ss : List Sm} {l : Env} {st : Sto} {D : Po} (k : D.R .non st) : W (evSs c (.retN :: ss) l st) D := by
  rw [W_cons]
  simp only [evS]
  exact k
theorem W_app {c : Cn} {a ss : List Sm} {l : Env} {st : Sto} {D : Po} : W (evSs c (a ++ ss) l st) D ↔ W (evSs c a l st) { D with N := fun l st => W (evSs c ss l st) D } := by
  induction a generalizing l st with
  | nil => rw [List.nil_append, W_nil]
  | cons s a ih =>
    rw [List.cons_append, W_cons, W_cons]
    cases evS c s l st with
    | nx l2 st2 => exact ih
    | _ => exact Iff.rfl
theorem W_if1 {c : Cn} {d : Xp} {a b ss : List Sm} {l : Env} {st st' : Sto} {D : Po} (h : ev c true d l st = .ok (.bl true) st') (k : W (evSs c (a ++ ss) l st') D) : W (evSs c (.ife d a b :: ss) l st) D := by
  rw [W_cons, evS_if1 h]
  exact W_app.mp k
theorem W_if0 {c : Cn} {d : Xp} {a b ss : List Sm} {l : Env} {st st' : Sto} {D : Po} (h : ev c true d l st = .ok (.bl false) st') (k : W (evSs c (b ++ ss) l st') D) : W (evSs c (.ife d a b :: ss) l st) D := by
  rw [W_cons, evS_if0 h]
  exact W_app.mp k
theorem W_ifb {c : Cn} {d : Xp} {a b ss : List Sm} {l : Env} {st st' : Sto} {D : Po} {z : Bool} (h : ev c true d l st = .ok (.bl z) st') (k1 : z = true → W (evSs c (a ++ ss) l st') D) (k0 : z = false → W (evSs c (b ++ ss) l st') D) : W (evSs c (.ife d a b :: ss) l st) D := by
  cases z with
  | true => exact W_if1 h (k1 rfl)
  | false => exact W_if0 h (k0 rfl)
theorem W_asg {c : Cn} {tg : Tg} {e : Xp} {ss : List Sm} {l l' : Env} {st st' : Sto} {v : Val} {D : Po} (h : ev c false e l st = .ok v st') (ht : tgSet tg v l = some l') (k : W (evSs c ss l' st') D) : W (evSs c (.asg tg e :: ss) l st) D := by
  rw [W_cons]
  simp only [evS, h, R.fl_ok, ht, W_nx]
  exact k
theorem W_pr2 {c : Cn} {i j : Nat} {es : List Xp} {ss : List Sm} {l : Env} {st st' : Sto} {u v : Val} {D : Po} (h : evs c es l st = .ok [u, v] st') (k : W (evSs c ss ((l.set i (some u)).set j (some v)) st') D) : W (evSs c (.par [i, j] es :: ss) l st) D := by
  rw [W_cons]
  simp only [evS, h, R.fl_ok, W_nx]
  exact k
theorem W_pr3 {c : Cn} {i j m : Nat} {es : List Xp} {ss : List Sm} {l : Env} {st st' : Sto} {u v w : Val} {D : Po} (h : evs c es l st = .ok [u, v, w] st') (k : W (evSs c ss (((l.set i (some u)).set j (some v)).set m (some w)) st') D) : W (evSs c (.par [i, j, m] es :: ss) l st) D := by
  rw [W_cons]
  simp only [evS, h, R.fl_ok, W_nx]
  exact k
theorem W_aug {c : Cn} {i : Nat} {o : Op} {e : Xp} {ss : List Sm} {l : Env} {st st' : Sto} {a b k : Int} {D : Po} (hl : l[i]? = some (some (.int a))) (h : ev c false e l st = .ok (.int b) st') (ho : opI o a b = some k) (kk : W (evSs c ss (l.set i (some (.int k))) st') D) : W (evSs c (.aug i o e :: ss) l st) D := by
  rw [W_cons]
  simp only [evS, hl, h, R.fl_ok, ho, W_nx]
  exact kk
theorem W_stI {c : Cn} {a i e : Xp} {ss : List Sm} {l : Env} {st st1 st2 st3 st' : Sto} {x y z : Val} {D : Po} (h1 : ev c false e l st = .ok z st1) (h2 : ev c false a l st1 = .ok x st2) (h3 : ev c false i l st2 = .ok y st3) (h4 : setIEv x y z st3 = some st') (k : W (evSs c ss l st') D) : W (evSs c (.setI a i e :: ss) l st) D := by
  rw [W_cons]
  simp only [evS, h1, h2, h3, h4, R.fl_ok, W_nx]
  exact k
theorem W_stS {c : Cn} {a i j e : Xp} {ss : List Sm} {l : Env} {st st1 st2 st3 st4 st' : Sto} {x u w z : Val} {D : Po} (h1 : ev c false e l st = .ok z st1) (h2 : ev c false a l st1 = .ok x st2) (h3 : ev c false i l st2 = .ok u st3) (h4 : ev c false j l st3 = .ok w st4) (h5 : setSEv x u w z st4 = some st') (k : W (evSs c ss l st') D) : W (evSs c (.setS a i j e :: ss) l st) D := by
  rw [W_cons]
  simp only [evS, h1, h2, h3, h4, h5, R.fl_ok, W_nx]
  exact k
theorem W_stD {c : Cn} {a i e : Xp} {ss : List Sm} {l : Env} {st st1 st2 st3 st' : Sto} {x y z : Val} {D : Po} (h1 : ev c false e l st = .ok z st1) (h2 : ev c false a l st1 = .ok x st2) (h3 : ev c false i l st2 = .ok y st3) (h4 : setDEv x y z st3 = some st') (k : W (evSs c ss l st') D) : W (evSs c (.setD a i e :: ss) l st) D := by
  rw [W_cons]
  simp only [evS, h1, h2, h3, h4, R.fl_ok, W_nx]
  exact k
theorem W_frz {c : Cn} {i n : Nat} {ss : List Sm} {l : Env} {st : Sto} {xs ys : List Val} {ns : List Nat} {D : Po} (h1 : l[i]? = some (some (.ref n))) (h2 : st[n]? = some (.lst xs)) (h3 : thawL st xs = some (ys, ns)) (k : W (evSs c ss (l.set i (some (.lst ys))) (killAll (n :: ns) st)) D) : W (evSs c (.frz i :: ss) l st) D := by
  rw [W_cons]
  simp only [evS, frzEv, h1, h2, h3, W_nx]
  exact k
theorem W_brk_ {c : Cn} {ss : List Sm} {l : Env} {st : Sto} {D : Po} (k : D.B l st) : W (evSs c (.brk :: ss) l st) D := by
  rw [W_cons]
  simp only [evS]
  exact k
theorem W_cnt_ {c : Cn} {ss : List Sm} {l : Env} {st : Sto} {D : Po} (k : D.C l st) : W (evSs c (.cnt :: ss) l st) D := by
  rw [W_cons]
  simp only [evS]
  exact k
theorem W_pas {c : Cn} {ss : List Sm} {l : Env} {st : Sto} {D : Po} (k : W (evSs c ss l st) D) : W (evSs c (.pas :: ss) l st) D := by
  rw [W_cons]
  simp only [evS]
  exact k
theorem W_end {c : Cn} {l : Env} {st : Sto} {D : Po} (k : D.N l st) : W (evSs c [] l st) D := by
  rw [W_nil]
  exact k
/-- a loop by an invariant that knows the turn's number -/
theorem W_fr {c : Cn} {tg : Tg} {it : It} {b ss : List Sm} {l : Env} {st st1 : Sto} {items : List Val} {g : List (Nat × List Val)} {D : Po} (P : Nat → Env → Sto → Prop) (hi : evi c it l st = .ok (items, g) st1) (h0 : P 0 l st1) (hg : ∀ i l st, P i l st → guardOk st g)
    (hs : ∀ i v l st, items[i]? = some v → P i l st → ∃ l1, tgSet tg v l = some l1 ∧ W (evSs c b l1 st) { N := P (i + 1), C := P (i + 1), B := fun l st => W (evSs c ss l st) D, R := D.R }) (hk : ∀ l st, P items.length l st → W (evSs c ss l st) D) : W (evSs c (.for' tg it b :: ss) l st) D := by
  rw [W_cons]
  simp only [evS, hi, R.fl_ok]
  exact W_for P h0 hg hs hk
/-- .. over range(n) -/
theorem W_frn {c : Cn} {i : Nat} {it : It} {b ss : List Sm} {l : Env} {st st1 : Sto} {lo d : Int} {n : Nat} {D : Po} (P : Nat → Env → Sto → Prop) (hi : evi c it l st = .ok (rngL lo d n, []) st1) (h0 : P 0 l st1)
    (hs : ∀ k l st, k < n → P k l st → W (evSs c b (l.set i (some (.int (lo + (k : Nat) * d)))) st) { N := P (k + 1), C := P (k + 1), B := fun l st => W (evSs c ss l st) D, R := D.R }) (hk : ∀ l st, P n l st → W (evSs c ss l st) D) : W (evSs c (.for' (.nm i) it b :: ss) l st) D := by
  refine W_fr P hi h0 (fun _ _ _ _ => guard_nil) (fun k v l st hv hp => ?_) fun l st hp => hk l st (by rw [rngL_len] at hp; exact hp)
  obtain ⟨hj, rfl⟩ := rngL_get' hv
  exact ⟨_, rfl, hs k l st hj hp⟩
/-- .. over range(n) from 0 -/
theorem W_fr0 {c : Cn} {i : Nat} {it : It} {b ss : List Sm} {l : Env} {st st1 : Sto} {n : Nat} {D : Po} (P : Nat → Env → Sto → Prop) (hi : evi c it l st = .ok (rngL 0 1 n, []) st1) (h0 : P 0 l st1)
    (hs : ∀ (k : Nat) l st, k < n → P k l st → W (evSs c b (l.set i (some (.int k))) st) { N := P (k + 1), C := P (k + 1), B := fun l st => W (evSs c ss l st) D, R := D.R }) (hk : ∀ l st, P n l st → W (evSs c ss l st) D) : W (evSs c (.for' (.nm i) it b :: ss) l st) D :=
  W_frn P hi h0 (fun k l st hj hp => by
    have := hs k l st hj hp
    rw [show (0 : Int) + (k : Nat) * 1 = (k : Nat) by omega]
    exact this) hk
/-- .. over the items of a list that stands -/
theorem W_frs {c : Cn} {i : Nat} {it : It} {b ss : List Sm} {l : Env} {st st1 : Sto} {items : List Val} {D : Po} (P : Nat → Env → Sto → Prop) (hi : evi c it l st = .ok (items, []) st1) (h0 : P 0 l st1)
    (hs : ∀ k l st (h : k < items.length), P k l st → W (evSs c b (l.set i (some items[k])) st) { N := P (k + 1), C := P (k + 1), B := fun l st => W (evSs c ss l st) D, R := D.R }) (hk : ∀ l st, P items.length l st → W (evSs c ss l st) D) : W (evSs c (.for' (.nm i) it b :: ss) l st) D := by
  refine W_fr P hi h0 (fun _ _ _ _ => guard_nil) (fun k v l st hv hp => ?_) hk
  obtain ⟨hj, rfl⟩ := List.getElem?_eq_some_iff.mp hv
  exact ⟨_, rfl, hs k l st hj hp⟩
/-- .. a while by a measure -/
theorem W_wh {c : Cn} {d : Xp} {b ss : List Sm} {l : Env} {st : Sto} {D : Po} (k : Nat) (P : Nat → Env → Sto → Prop) (hk : k < 1000000) (h0 : P k l st)
    (hs : ∀ k l st, P k l st → (∃ st', ev c true d l st = .ok (.bl false) st' ∧ W (evSs c ss l st') D) ∨ (∃ j st', k = j + 1 ∧ ev c true d l st = .ok (.bl true) st' ∧ W (evSs c b l st') { N := P j, C := P j, B := fun l st => W (evSs c ss l st) D, R := D.R })) : W (evSs c (.whl d b :: ss) l st) D := by
  rw [W_cons]
  simp only [evS]
  exact W_while k P hk h0 hs
theorem evs_nil {c : Cn} {l : Env} {st : Sto} : evs c [] l st = .ok [] st := by rw [evs]
theorem evs_cons {c : Cn} {e : Xp} {es : List Xp} {l : Env} {st st1 st2 : Sto} {x : Val} {xs : List Val} (h1 : ev c false e l st = .ok x st1) (h2 : evs c es l st1 = .ok xs st2) : evs c (e :: es) l st = .ok (x :: xs) st2 := by
  rw [evs]
  simp only [h1, R.bind_ok, h2]
theorem ev_cal {c : Cn} {f : Nat} {es : List Xp} {l : Env} {st st1 : Sto} {xs : List Val} {r : R Val} (h : evs c es l st = .ok xs st1) (hc : c.call f xs st1 = r) : ev c false (.cal f es []) l st = r := by
  rw [ev]
  simp only [h, evk, R.bind_ok, putK0, hc, fin_false]
theorem ev_rep {c : Cn} {m : Bool} {a b : Xp} {l : Env} {st s1 s2 : Sto} {x y : Val} {r : R Val} (h1 : ev c false a l st = .ok x s1) (h2 : ev c false b l s1 = .ok y s2) (h3 : repEv m x y s2 = r) : ev c false (.rep m a b) l st = r := by
  rw [ev, h1, R.bind_ok, h2, R.bind_ok, fin_false, h3]
theorem ev_blt {c : Cn} {f : Bf} {es : List Xp} {l : Env} {st st1 : Sto} {xs : List Val} {r : R Val} (h : evs c es l st = .ok xs st1) (hc : bfEv f xs st1 = r) : ev c false (.blt f es) l st = r := by
  rw [ev]
  simp only [h, R.bind_ok, hc, fin_false]
theorem zipV_map {α : Type} (a b : α → Val) : ∀ L : List α, zipV (L.map a) (L.map b) = L.map fun k => .tup [a k, b k]
  | [] => rfl
  | x :: L => by rw [List.map_cons, List.map_cons, zipV, zipV_map a b L, List.map_cons]
theorem call_exn {T : List Fd} {G : List (Str × Val)} {n i : Nat} {d : Fd} {args : List Val} {st st' : Sto} {x : Xn} {l : Env} (hT : T[i]? = some d) (hl : args.length = d.ps)
    (h : evSs ⟨runF T G n, G⟩ d.body (frameOf d args) st = .exn x l st') : runF T G (n + 1) i args st = .exn x st' := callF_eq hT hl (by rw [h])
theorem evSs_nx {c : Cn} {s : Sm} {ss : List Sm} {l l' : Env} {st st' : Sto} (h : evS c s l st = .nx l' st') : evSs c (s :: ss) l st = evSs c ss l' st' := by rw [evSs, h]
theorem evSs_exn {c : Cn} {s : Sm} {ss : List Sm} {l l' : Env} {st st' : Sto} {x : Xn} (h : evS c s l st = .exn x l' st') : evSs c (s :: ss) l st = .exn x l' st' := by rw [evSs, h]
theorem evSs_ret {c : Cn} {s : Sm} {ss : List Sm} {l : Env} {st st' : Sto} {v : Val} (h : evS c s l st = .ret v st') : evSs c (s :: ss) l st = .ret v st' := by rw [evSs, h]
theorem lcL_alloc {body : Val → Sto → R (Option Val)} {o : Ob} : ∀ (items acc : List Val) (st : Sto), (∀ v ∈ items, ∀ st, body v st = .ok (some (.ref st.length)) (st ++ [o])) → acc.length + items.length ≤ sizeLine →
    lcL body [] items acc st = .ok (acc ++ (List.range items.length).map fun i => Val.ref (st.length + i)) (st ++ List.replicate items.length o)
  | [], acc, st, _, _ => by
    rw [lcL, if_pos guard_nil]
    simp
  | v :: items, acc, st, h, hz => by
    rw [List.length_cons] at hz
    rw [lcL, if_pos guard_nil, h v List.mem_cons_self]
    simp only
    rw [if_pos (by omega), lcL_alloc items (acc ++ [Val.ref st.length]) (st ++ [o]) (fun u hu => h u (List.mem_cons_of_mem _ hu)) (by rw [List.length_append]; simp; omega)]
    rw [List.length_cons, List.range_succ_eq_map, List.map_cons, List.map_map, List.replicate_succ, List.append_assoc, List.append_assoc]
    congr 2
    simp only [List.cons_append, List.nil_append, List.length_append, List.length_cons, List.length_nil]
    congr 1
    refine List.map_congr_left fun i _ => ?_
    show Val.ref (st.length + (0 + 1) + i) = Val.ref (st.length + (i + 1))
    congr 1
    omega
/-- a comprehension that makes a list of one's own at each turn -/
theorem ev_lcA {c : Cn} {m : Bool} {e : Xp} {tg : Tg} {it : It} {l : Env} {st : Sto} {items : List Val} {o : Ob} (hi : evi c it l st = .ok (items, []) st)
    (hb : ∀ v ∈ items, ∀ st, ∃ l1, tgSet tg v (wipeE l tg.slots) = some l1 ∧ ev c false e l1 st = .ok (.ref st.length) (st ++ [o])) (hz : items.length ≤ sizeLine) :
    ev c false (.lc m e tg it []) l st = newL m ((List.range items.length).map fun i => Val.ref (st.length + i)) (st ++ List.replicate items.length o) := by
  simp only [ev, hi, R.bind_ok, fin_false]
  rw [lcL_alloc (o := o) items [] st (fun v hv st => by
    obtain ⟨l1, e1, e2⟩ := hb v hv st
    simp only [e1, evf, R.bind_ok, e2]) (by simpa using hz)]
  simp
theorem enm_get {l : List Val} {i : Nat} {v : Val} (h : (enmV l)[i]? = some v) : ∃ hi : i < l.length, v = .tup [.int i, l[i]] := by
  have hl : (enmV l).length = l.length := by simp [enmV]
  have hi : i < l.length := by
    have := (List.getElem?_eq_some_iff.mp h).1
    omega
  refine ⟨hi, ?_⟩
  unfold enmV at h
  rw [List.getElem?_map, List.getElem?_range hi] at h
  have e : l.getD i .non = l[i] := by rw [List.getD_eq_getElem?_getD, List.getElem?_eq_getElem hi]; rfl
  have h' : some (Val.tup [.int i, l.getD i .non]) = some v := h
  rw [e] at h'
  exact (Option.some.inj h').symm
theorem enm_len {l : List Val} : (enmV l).length = l.length := by simp [enmV]
theorem rng_n {n : Nat} (h : n < 4000000000) (st : Sto) : rngEv [.int n] st = .ok (rngL 0 1 n, []) st := by
  have hr : inR (n : Int) := ⟨by omega, by omega⟩
  unfold rngEv
  simp only [if_pos hr]
  rw [Int.toNat_natCast]
theorem rng_i {z : Int} {n : Nat} (e : z = n) (h : n < 4000000000) (st : Sto) : rngEv [.int z] st = .ok (rngL 0 1 n, []) st := by rw [e, rng_n h]
end Pv

set_option Elab.async false
set_option linter.all false
set_option maxRecDepth 100000
/-! repr of values: what may be shown, and how long the text is -/
namespace Pv
open PySem
open Classical
mutual
def vok : Val → Bool
  | .non => true
  | .bl _ => true
  | .int i => decide (i.natAbs < 10 ^ 12)
  | .str s => s.cps.toList.all fun c => decide (c < 1114112)
  | .tup l => voks l
  | .lst l => voks l
  | .scr l => l.all fun i => decide (i.natAbs < 10 ^ 12)
  | .ref _ => false
  | .rng _ _ _ => false
  | .exc _ _ => false
  | .gtp _ => false
def voks : List Val → Bool
  | [] => true
  | x :: xs => vok x && voks xs
end
mutual
def vdep : Val → Nat
  | .tup l => vdeps l + 1
  | .lst l => vdeps l + 1
  | .scr _ => 1
  | _ => 0
def vdeps : List Val → Nat
  | [] => 0
  | x :: xs => max (vdep x) (vdeps xs)
end
mutual
def vblk : Val → Nat
  | .str s => s.cps.size
  | .tup l => vblks l
  | .lst l => vblks l
  | .scr l => l.length
  | _ => 0
def vblks : List Val → Nat
  | [] => 0
  | x :: xs => vblk x + 1 + vblks xs
end
def dOk (d : PyData) (n b : Nat) : Prop := d.showable = true ∧ d.hasDict = false ∧ d.depth = n ∧ d.bulk = b ∧ d.leavesShort 13 = true
def dsOk (d : List PyData) (n b : Nat) : Prop := PyData.showableAll d = true ∧ PyData.hasDictAll d = false ∧ PyData.depthAll d = n ∧ PyData.bulkAll d = b ∧ PyData.leavesShortAll 13 d = true
theorem dOk_int {i : Int} (h : i.natAbs < 10 ^ 12) : dOk (.int i) 0 0 := by
  refine ⟨?_, by simp [PyData.hasDict], by simp [PyData.depth], by simp [PyData.bulk], ?_⟩
  · simp only [PyData.showable, decide_eq_true_eq]
    by_cases h0 : i.natAbs = 0
    · rw [h0]; decide
    · exact (Nat.log2_lt h0).mpr (Nat.lt_of_lt_of_le h (by decide +kernel))
  · simp only [PyData.leavesShort, decide_eq_true_eq]
    exact PyData.shown_int_le h
theorem dsOk_ints : ∀ l : List Int, (∀ i ∈ l, i.natAbs < 10 ^ 12) → dsOk (l.map .int) 0 l.length
  | [], _ => ⟨by simp [PyData.showableAll], by simp [PyData.hasDictAll], by simp [PyData.depthAll], by simp [PyData.bulkAll], by simp [PyData.leavesShortAll]⟩
  | i :: l, h => by
    obtain ⟨a1, a2, a3, a4, a5⟩ := dOk_int (h i List.mem_cons_self)
    obtain ⟨b1, b2, b3, b4, b5⟩ := dsOk_ints l fun j hj => h j (List.mem_cons_of_mem _ hj)
    refine ⟨?_, ?_, ?_, ?_, ?_⟩
    · simp [PyData.showableAll, a1, b1]
    · simp [PyData.hasDictAll, a2, b2]
    · simp [PyData.depthAll, a3, b3]
    · simp only [List.map_cons, PyData.bulkAll, a4, b4, List.length_cons]; omega
    · simp [PyData.leavesShortAll, a5, b5]
mutual
theorem vok_D : ∀ v : Val, vok v = true → ∃ d, toD0 v = some d ∧ dOk d (vdep v) (vblk v)
  | .non, _ => ⟨.none, rfl, by simp [PyData.showable], by simp [PyData.hasDict], by simp [PyData.depth, vdep], by simp [PyData.bulk, vblk], by simp [PyData.leavesShort]⟩
  | .bl b, _ => ⟨.bool b, rfl, by simp [PyData.showable], by simp [PyData.hasDict], by simp [PyData.depth, vdep], by simp [PyData.bulk, vblk], by simp [PyData.leavesShort]⟩
  | .int i, h => ⟨.int i, rfl, dOk_int (by simpa [vok] using h)⟩
  | .str s, h => ⟨.str s, rfl, by simp [PyData.showable], by simp [PyData.hasDict], by simp [PyData.depth, vdep], by simp [PyData.bulk, vblk], by
    simp only [PyData.leavesShort]
    refine List.all_eq_true.mpr fun c hc => ?_
    have h' : (s.cps.toList.all fun c => decide (c < 1114112)) = true := by simpa [vok] using h
    have := List.all_eq_true.mp h' c hc
    simp only [decide_eq_true_eq] at this ⊢
    exact Nat.lt_of_lt_of_le this (by decide)⟩
  | .tup l, h => by
    obtain ⟨ds, e, h1, h2, h3, h4, h5⟩ := voks_D l (by simpa [vok] using h)
    exact ⟨.tuple ds, by simp [toD0, e], by simpa [PyData.showable] using h1, by simpa [PyData.hasDict] using h2, by simp [PyData.depth, vdep, h3], by simp [PyData.bulk, vblk, h4], by simpa [PyData.leavesShort] using h5⟩
  | .lst l, h => by
    obtain ⟨ds, e, h1, h2, h3, h4, h5⟩ := voks_D l (by simpa [vok] using h)
    exact ⟨.list ds, by simp [toD0, e], by simpa [PyData.showable] using h1, by simpa [PyData.hasDict] using h2, by simp [PyData.depth, vdep, h3], by simp [PyData.bulk, vblk, h4], by simpa [PyData.leavesShort] using h5⟩
  | .scr l, h => by
    obtain ⟨h1, h2, h3, h4, h5⟩ := dsOk_ints l (by simpa [vok] using h)
    exact ⟨.list (l.map .int), by simp [toD0], by simpa [PyData.showable] using h1, by simpa [PyData.hasDict] using h2, by simp [PyData.depth, vdep, h3], by simp [PyData.bulk, vblk, h4], by simpa [PyData.leavesShort] using h5⟩
  | .ref _, h => by simp [vok] at h
  | .rng _ _ _, h => by simp [vok] at h
  | .exc _ _, h => by simp [vok] at h
  | .gtp _, h => by simp [vok] at h
theorem voks_D : ∀ l : List Val, voks l = true → ∃ ds, toDs0 l = some ds ∧ dsOk ds (vdeps l) (vblks l)
  | [], _ => ⟨[], by simp [toDs0], by simp [PyData.showableAll], by simp [PyData.hasDictAll], by simp [PyData.depthAll, vdeps], by simp [PyData.bulkAll, vblks], by simp [PyData.leavesShortAll]⟩
  | x :: xs, h => by
    have h' : vok x = true ∧ voks xs = true := by simpa [voks] using h
    obtain ⟨d, e, a1, a2, a3, a4, a5⟩ := vok_D x h'.1
    obtain ⟨ds, e', b1, b2, b3, b4, b5⟩ := voks_D xs h'.2
    refine ⟨d :: ds, by simp [toDs0, e, e'], ?_, ?_, ?_, ?_, ?_⟩
    · simp [PyData.showableAll, a1, b1]
    · simp [PyData.hasDictAll, a2, b2]
    · simp [PyData.depthAll, a3, b3, vdeps]
    · simp [PyData.bulkAll, a4, b4, vblks]
    · simp [PyData.leavesShortAll, a5, b5]
end
/-- the text -/
def shw (v : Val) : Str := match toD0 v with
  | some d => d.shown
  | none => ""
def small (v : Val) : Prop := vok v = true ∧ vdep v ≤ 50 ∧ vblk v ≤ 1000000
theorem small_shOk {v : Val} (h : small v) : ∃ d, toD0 v = some d ∧ shOk d := by
  obtain ⟨h1, h2, h3⟩ := h
  obtain ⟨d, e, a1, a2, a3, a4, a5⟩ := vok_D v h1
  refine ⟨d, e, a1, a2, by omega, ?_⟩
  have := PyData.shown_le_bulk 13 (by decide) d a5
  show _ ≤ 2 ^ 24
  omega
theorem repr_ok {v : Val} (st : Sto) (h : small v) (ho : isObj v = true) : bfEv .repr [v] st = .ok (.str (shw v)) st := by
  obtain ⟨d, e, hd⟩ := small_shOk h
  have e1 : shw v = d.shown := by unfold shw; rw [e]
  rw [e1]
  have e2 : toD st v = some d := by
    cases v with
    | ref n => have := h.1; simp [vok] at this
    | _ => exact e
  have : bfEv .repr [v] st = (match toD st v with
    | some d => if isObj v = true ∧ shOk d then .ok (.str d.shown) st else .stuck
    | none => .stuck) := by
    cases v <;> first | rfl | cases ho
  rw [this, e2]
  simp only
  rw [if_pos ⟨ho, hd⟩]
theorem repr_any {v : Val} (st : Sto) (h : small v) : bfEv .repr [v] st = .ok (.str (shw v)) st := by
  by_cases ho : isObj v = true
  · exact repr_ok st h ho
  · obtain ⟨d, e, h1, h2, h3, h4⟩ := small_shOk h
    have e1 : shw v = d.shown := by unfold shw; rw [e]
    rw [e1]
    cases v with
    | non =>
      have e2 : d = .none := by have := e; simp only [toD0] at this; cases this; rfl
      rw [e2]
      rfl
    | bl b =>
      have e2 : d = .bool b := by have := e; simp only [toD0] at this; cases this; rfl
      rw [e2]
      rfl
    | int i =>
      have e2 : d = .int i := by have := e; simp only [toD0] at this; cases this; rfl
      subst e2
      have hz : i.natAbs.log2 < 1920 := by simpa [PyData.showable] using h1
      simp only [bfEv]
      rw [if_pos hz]
    | str x =>
      have e2 : d = .str x := by have := e; simp only [toD0] at this; cases this; rfl
      subst e2
      simp only [bfEv]
      rw [if_pos h4]
    | tup l => exact absurd rfl ho
    | lst l => exact absurd rfl ho
    | scr l => exact absurd rfl ho
    | ref n => exact absurd rfl ho
    | rng a b c => have := h.1; simp [vok] at this
    | exc d l => have := h.1; simp [vok] at this
    | gtp l => have := h.1; simp [vok] at this
theorem voks_ints {l : List Int} (h : ∀ i ∈ l, i.natAbs < 10 ^ 12) : voks (iL l) = true := by
  induction l with
  | nil => rfl
  | cons i l ih =>
    show (vok (.int i) && voks (iL l)) = true
    rw [ih fun j hj => h j (List.mem_cons_of_mem _ hj)]
    simpa [vok] using h i List.mem_cons_self
theorem vdeps_ints : ∀ l : List Int, vdeps (iL l) = 0
  | [] => rfl
  | i :: l => by
    show max (vdep (.int i)) (vdeps (iL l)) = 0
    rw [vdeps_ints l]
    rfl
theorem vblks_ints : ∀ l : List Int, vblks (iL l) = l.length
  | [] => rfl
  | i :: l => by
    show vblk (.int i) + 1 + vblks (iL l) = _
    rw [vblks_ints l, List.length_cons]
    show 0 + 1 + _ = _
    omega
theorem voks_rows {m : List (List Int)} (h : ∀ r ∈ m, ∀ i ∈ r, i.natAbs < 10 ^ 12) : voks (rows m) = true := by
  induction m with
  | nil => rfl
  | cons r m ih =>
    show (vok (.tup (iL r)) && voks (rows m)) = true
    rw [ih fun j hj => h j (List.mem_cons_of_mem _ hj), vok, voks_ints (h r List.mem_cons_self)]
    rfl
theorem vdeps_rows : ∀ m : List (List Int), vdeps (rows m) ≤ 1
  | [] => by decide
  | r :: m => by
    show max (vdep (.tup (iL r))) (vdeps (rows m)) ≤ 1
    have := vdeps_rows m
    rw [vdep, vdeps_ints]
    omega
theorem vblks_rows {C : Nat} : ∀ {m : List (List Int)}, (∀ r ∈ m, r.length ≤ C) → vblks (rows m) ≤ m.length * (C + 1)
  | [], _ => Nat.zero_le _
  | r :: m, h => by
    show vblk (.tup (iL r)) + 1 + vblks (rows m) ≤ _
    have := vblks_rows (m := m) fun r hr => h r (List.mem_cons_of_mem _ hr)
    have h1 := h r List.mem_cons_self
    rw [vblk, vblks_ints, List.length_cons, Nat.succ_mul]
    omega
end Pv

set_option Elab.async false
set_option linter.all false
set_option maxRecDepth 100000
/-! the text of a value is a text that may stand -/
namespace Pv
open PySem
def sOk (s : Str) : Prop := PyData.strOk s = true
theorem sOk_str (s : String) : sOk (Str.ofString s) := by
  unfold sOk PyData.strOk
  rw [Str.ofString_eq_toList]
  rw [Array.all_eq_true_iff_forall_mem]
  intro c hc
  simp only [List.mem_toArray, List.mem_map] at hc
  obtain ⟨d, _, rfl⟩ := hc
  have h := d.valid
  have : d.toNat < 0x110000 := by
    have h2 : d.val.toNat.isValidChar := h
    unfold Nat.isValidChar at h2
    show d.val.toNat < _
    omega
  simpa using this
theorem sOk_app {a b : Str} (ha : sOk a) (hb : sOk b) : sOk (a ++ b) := by
  unfold sOk PyData.strOk at *
  show (a.cps ++ b.cps).all _ = true
  rw [Array.all_append, ha, hb]
  rfl
theorem sOk_join {sep : Str} (hs : sOk sep) : ∀ {ts : List Str}, (∀ t ∈ ts, sOk t) → sOk (Str.join sep ts)
  | [], _ => by unfold Str.join; exact sOk_str ""
  | [x], h => by
    unfold Str.join
    exact h x List.mem_cons_self
  | x :: y :: r, h => by
    unfold Str.join
    exact sOk_app (sOk_app (h x List.mem_cons_self) hs) (sOk_join hs fun t ht => h t (List.mem_cons_of_mem _ ht))
theorem sOk_from : ∀ {ts : List Str} {k : Nat} {acc : Str}, sOk acc → (∀ t ∈ ts, sOk t) → sOk (textFrom k acc ts)
  | [], k, acc, h, _ => h
  | t :: ts, k, acc, h, ht => by
    unfold textFrom
    exact sOk_from (sOk_app (sOk_app h (sOk_str _)) (ht t List.mem_cons_self)) fun u hu => ht u (List.mem_cons_of_mem _ hu)
mutual
def vsk : Val → Prop
  | .str s => sOk (reprText s)
  | .tup l => vsks l
  | .lst l => vsks l
  | .gtp l => vsks l
  | _ => True
def vsks : List Val → Prop
  | [] => True
  | x :: xs => vsk x ∧ vsks xs
end
theorem sOk_int (i : Int) : sOk (PyData.shown (.int i)) := by
  simp only [PyData.shown]
  exact sOk_str _
theorem sOk_ints : ∀ (l : List Int), ∀ t ∈ PyData.shownAll (l.map .int), sOk t
  | [], t, h => by simp [PyData.shownAll] at h
  | i :: l, t, h => by
    simp only [List.map_cons, PyData.shownAll, List.mem_cons] at h
    rcases h with rfl | h
    · exact sOk_int i
    · exact sOk_ints l t h
theorem sOk_list {ts : List Str} (h : ∀ t ∈ ts, sOk t) : sOk (listText ts) := by
  unfold listText
  exact sOk_app (sOk_from (sOk_str _) h) (sOk_str _)
theorem sOk_tuple {ts : List Str} (h : ∀ t ∈ ts, sOk t) : sOk (tupleText ts) := by
  unfold tupleText
  exact sOk_app (sOk_app (sOk_str _) (sOk_join (sOk_str _) h)) (sOk_str _)
mutual
theorem vsk_D : ∀ (v : Val) (d : PyData), toD0 v = some d → vsk v → sOk d.shown
  | .non, d, e, _ => by simp only [toD0] at e; cases e; simp only [PyData.shown]; exact sOk_str _
  | .bl b, d, e, _ => by simp only [toD0] at e; cases e; simp only [PyData.shown]; cases b <;> exact sOk_str _
  | .int i, d, e, _ => by simp only [toD0] at e; cases e; exact sOk_int i
  | .str s, d, e, h => by simp only [toD0] at e; cases e; simp only [PyData.shown]; simpa [vsk] using h
  | .tup l, d, e, h => by
    simp only [toD0] at e
    cases q : toDs0 l with
    | none => rw [q] at e; cases e
    | some ds =>
      rw [q] at e
      cases e
      simp only [PyData.shown]
      exact sOk_tuple (vsks_D l ds q (by simpa [vsk] using h))
  | .lst l, d, e, h => by
    simp only [toD0] at e
    cases q : toDs0 l with
    | none => rw [q] at e; cases e
    | some ds =>
      rw [q] at e
      cases e
      simp only [PyData.shown]
      exact sOk_list (vsks_D l ds q (by simpa [vsk] using h))
  | .gtp l, d, e, h => by
    simp only [toD0] at e
    cases q : toDs0 l with
    | none => rw [q] at e; cases e
    | some ds =>
      rw [q] at e
      cases e
      simp only [PyData.shown]
      exact sOk_tuple (vsks_D l ds q (by simpa [vsk] using h))
  | .scr l, d, e, _ => by
    simp only [toD0] at e
    cases e
    simp only [PyData.shown]
    exact sOk_list (sOk_ints l)
  | .ref _, d, e, _ => by simp only [toD0] at e; cases e
  | .rng _ _ _, d, e, _ => by simp only [toD0] at e; cases e
  | .exc _ _, d, e, _ => by simp only [toD0] at e; cases e
theorem vsks_D : ∀ (l : List Val) (ds : List PyData), toDs0 l = some ds → vsks l → ∀ t ∈ PyData.shownAll ds, sOk t
  | [], ds, e, _, t, h => by simp only [toDs0] at e; cases e; simp [PyData.shownAll] at h
  | x :: xs, ds, e, hv, t, h => by
    simp only [toDs0] at e
    have hv' : vsk x ∧ vsks xs := by simpa [vsks] using hv
    cases q1 : toD0 x with
    | none => rw [q1] at e; cases e
    | some d =>
      cases q2 : toDs0 xs with
      | none => rw [q1, q2] at e; cases e
      | some ds2 =>
        rw [q1, q2] at e
        cases e
        simp only [PyData.shownAll, List.mem_cons] at h
        rcases h with rfl | h
        · exact vsk_D x d q1 hv'.1
        · exact vsks_D xs ds2 q2 hv'.2 t h
end
theorem sOk_shw {v : Val} (h : vok v = true) (hk : vsk v) : sOk (shw v) := by
  obtain ⟨d, e, _⟩ := vok_D v h
  unfold shw
  rw [e]
  exact vsk_D v d e hk
theorem vsks_ints : ∀ l : List Int, vsks (iL l)
  | [] => by simp [vsks]
  | i :: l => by
    show vsks (.int i :: iL l)
    rw [vsks]
    exact ⟨by simp [vsk], vsks_ints l⟩
theorem vsks_rows : ∀ m : List (List Int), vsks (rows m)
  | [] => by simp [vsks]
  | r :: m => by
    show vsks (.tup (iL r) :: rows m)
    rw [vsks, vsk]
    exact ⟨vsks_ints r, vsks_rows m⟩
theorem vsks_app : ∀ {a b : List Val}, vsks a → vsks b → vsks (a ++ b)
  | [], b, _, h => h
  | x :: a, b, h, h2 => by
    rw [vsks] at h
    rw [List.cons_append, vsks]
    exact ⟨h.1, vsks_app h.2 h2⟩
theorem char_lt (d : Char) : d.toNat < 0x110000 := by
  have h2 : d.val.toNat.isValidChar := d.valid
  unfold Nat.isValidChar at h2
  show d.val.toNat < _
  omega
theorem hex_lt {c w d : Nat} (h : d ∈ (let e := (Nat.toDigits 16 c).map Char.toNat; List.replicate (w - e.length) 48 ++ e)) : d < 0x110000 := by
  simp only [List.mem_append, List.mem_replicate, List.mem_map] at h
  rcases h with ⟨_, rfl⟩ | ⟨x, _, rfl⟩
  · decide
  · exact char_lt x
theorem reprChar_lt {q c : Nat} (hc : c < 0x110000) : ∀ d ∈ Builtin.Str.reprChar q c, d < 0x110000 := by
  intro d hd
  unfold Builtin.Str.reprChar at hd
  simp only at hd
  split at hd
  · simp at hd; omega
  split at hd
  · simp at hd; omega
  split at hd
  · simp at hd; omega
  split at hd
  · simp at hd; omega
  split at hd
  · simp at hd; omega
  split at hd
  · rcases List.mem_append.mp hd with h | h
    · simp at h; omega
    · exact hex_lt h
  split at hd
  · rcases List.mem_append.mp hd with h | h
    · simp at h; omega
    · exact hex_lt h
  · rcases List.mem_append.mp hd with h | h
    · simp at h; omega
    · exact hex_lt h
theorem repr_fold {q : Nat} : ∀ (l : List Nat) (acc : Array Nat), (∀ c ∈ l, c < 0x110000) → (∀ d ∈ acc.toList, d < 0x110000) → ∀ d ∈ (l.foldl (fun out c => out ++ (Builtin.Str.reprChar q c).toArray) acc).toList, d < 0x110000
  | [], acc, _, h => h
  | c :: l, acc, hl, h => repr_fold l _ (fun d hd => hl d (List.mem_cons_of_mem _ hd)) fun d hd => by
    simp only [Array.toList_append, List.mem_append] at hd
    rcases hd with hd | hd
    · exact h d hd
    · exact reprChar_lt (hl c List.mem_cons_self) d hd
theorem sOk_repr {s : Str} (h : ∀ c ∈ s.cps.toList, c < 0x110000) : sOk (reprText s) := by
  have hq : reprQuote s < 0x110000 := by unfold reprQuote; split <;> decide
  unfold sOk PyData.strOk
  rw [Array.all_eq_true_iff_forall_mem]
  intro d hd
  have hd' : d ∈ (s.cps.foldl (fun out c => out ++ (Builtin.Str.reprChar (reprQuote s) c).toArray) #[reprQuote s]).push (reprQuote s) := hd
  rw [Array.mem_push] at hd'
  have : d < 0x110000 := by
    rcases hd' with hd' | rfl
    · rw [← Array.foldl_toList, ← Array.mem_toList_iff] at hd'
      exact repr_fold s.cps.toList #[reprQuote s] h (fun d hd => by simp at hd; omega) d hd'
    · exact hq
  simpa using this
mutual
theorem vok_vsk : ∀ v : Val, vok v = true → vsk v
  | .str s, h => by
    rw [vsk]
    refine sOk_repr fun c hc => ?_
    have : (s.cps.toList.all fun c => decide (c < 1114112)) = true := by simpa [vok] using h
    simpa using List.all_eq_true.mp this c hc
  | .tup l, h => by
    rw [vsk]
    exact voks_vsks l (by simpa [vok] using h)
  | .lst l, h => by
    rw [vsk]
    exact voks_vsks l (by simpa [vok] using h)
  | .non, _ => by simp [vsk]
  | .bl _, _ => by simp [vsk]
  | .int _, _ => by simp [vsk]
  | .scr _, _ => by simp [vsk]
  | .ref _, h => by simp [vok] at h
  | .rng _ _ _, h => by simp [vok] at h
  | .exc _ _, h => by simp [vok] at h
  | .gtp _, h => by simp [vok] at h
theorem voks_vsks : ∀ l : List Val, voks l = true → vsks l
  | [], _ => by simp [vsks]
  | x :: xs, h => by
    have h' : vok x = true ∧ voks xs = true := by simpa [voks] using h
    rw [vsks]
    exact ⟨vok_vsk x h'.1, voks_vsks xs h'.2⟩
end
end Pv

set_option Elab.async false
set_option linter.all false
set_option maxRecDepth 100000
set_option maxHeartbeats 1000000
namespace Pv
open PySem
def gm (M : List (List Int)) (y x : Nat) : Int := gi (gr M y) x
/-- rows of values -/
def Vals (lo hi : Int) (C : Nat) (M : List (List Int)) : Prop := ∀ r ∈ M, r.length = C ∧ ∀ z ∈ r, lo ≤ z ∧ z ≤ hi
theorem rows_snoc (M : List (List Int)) (r : List Int) : rows (M ++ [r]) = rows M ++ [.tup (iL r)] := by simp [rows]
/-- the nearest of n numbers -/
def nr (i : Int) (n : Nat) : Nat := (if i < 0 then 0 else if (n : Int) - 1 < i then (n : Int) - 1 else i).toNat
theorem nr_lt {i : Int} {n : Nat} (h : 0 < n) : nr i n < n := by unfold nr; (repeat' split) <;> omega
theorem nr_int {i : Int} {n : Nat} (h : 0 < n) : ((nr i n : Nat) : Int) = if i < 0 then 0 else if (n : Int) - 1 < i then (n : Int) - 1 else i := by unfold nr; (repeat' split) <;> omega
/-- rows R of C values -/
structure Box (M : List (List Int)) (R C : Nat) : Prop where
  len : M.length = R
  col : ∀ r ∈ M, r.length = C
  r0 : 0 < R
  c0 : 0 < C
  r1 : R ≤ 100
  c1 : C ≤ 100
theorem Box.at {M : List (List Int)} {R C y x : Nat} (h : Box M R C) (hy : y < R) (hx : x < C) (c : Cn) (l : Env) (st : Sto) (a b d : Nat) (h1 : l[a]? = some (some (.tup (rows M)))) (h2 : l[b]? = some (some (.int y))) (h3 : l[d]? = some (some (.int x))) :
    ev c false (.idx (.idx (.var a) (.var b)) (.var d)) l st = .ok (.int (gm M y x)) st := by
  have e1 : L2.atI (rows M) (y : Int) = some (.tup (iL (gr M y))) := map_at (by rw [h.len]; exact hy) rfl
  have e2 : L2.atI (iL (gr M y)) (x : Int) = some (.int (gi (gr M y) x)) := gi_at (by rw [h.col _ (gr_mem (by rw [h.len]; exact hy))]; exact hx) rfl
  simp [ev, h1, h2, h3, idxEv, sview, e1, e2, gm]
end Pv

set_option Elab.async false
set_option linter.all false
set_option maxRecDepth 100000
set_option maxHeartbeats 1000000
namespace Pv
open PySem
mutual
def vk : Val → Bool
  | .non => true
  | .bl _ => true
  | .int _ => true
  | .str s => PyData.strOk s
  | .tup l => vks l
  | .lst l => vks l
  | .scr _ => false
  | .ref _ => false
  | .rng _ _ _ => false
  | .exc _ _ => false
  | .gtp _ => false
def vks : List Val → Bool
  | [] => true
  | x :: xs => vk x && vks xs
end
theorem vks_ints : ∀ l : List Int, vks (iL l) = true
  | [] => rfl
  | x :: l => by
    show (vk (.int x) && vks (iL l)) = true
    rw [vks_ints l]
    rfl
theorem vks_rows : ∀ M : List (List Int), vks (rows M) = true
  | [] => rfl
  | r :: M => by
    show (vk (.tup (iL r)) && vks (rows M)) = true
    rw [vks_rows M, vk, vks_ints]
    rfl
theorem vks_app : ∀ {a b : List Val}, vks a = true → vks b = true → vks (a ++ b) = true
  | [], _, _, h => h
  | x :: a, b, h1, h2 => by
    rw [vks, Bool.and_eq_true] at h1
    show (vk x && vks (a ++ b)) = true
    rw [h1.1, vks_app h1.2 h2]
    rfl
theorem vks_all' : ∀ {l : List Val}, (∀ v ∈ l, vk v = true) → vks l = true
  | [], _ => rfl
  | x :: l, h => by
    rw [vks, h x List.mem_cons_self, vks_all' fun v hv => h v (List.mem_cons_of_mem _ hv)]
    rfl
theorem vks_in : ∀ {l : List Val}, vks l = true → ∀ v ∈ l, vk v = true
  | [], _, v, h => by cases h
  | x :: l, hl, v, h => by
    rw [vks, Bool.and_eq_true] at hl
    rcases List.mem_cons.mp h with rfl | h
    · exact hl.1
    · exact vks_in hl.2 v h
mutual
theorem vk_D : ∀ v : Val, vk v = true → ∃ d, toD0 v = some d ∧ PyData.canLay0 d = true ∧ PyData.eqv d d = true ∧ d.depth = vdep v
  | .non, _ => ⟨.none, rfl, rfl, rfl, rfl⟩
  | .bl b, _ => ⟨.bool b, rfl, rfl, by simp [PyData.eqv], rfl⟩
  | .int i, _ => ⟨.int i, rfl, rfl, by simp [PyData.eqv], rfl⟩
  | .str s, h => ⟨.str s, rfl, by simpa [PyData.canLay0, vk] using h, by simp [PyData.eqv], rfl⟩
  | .tup l, h => by
    obtain ⟨ds, e, h1, h2, h3⟩ := vks_D l (by simpa [vk] using h)
    exact ⟨.tuple ds, by simp [toD0, e], by simpa [PyData.canLay0] using h1, by simpa [PyData.eqv] using h2, by simp [PyData.depth, vdep, h3]⟩
  | .lst l, h => by
    obtain ⟨ds, e, h1, h2, h3⟩ := vks_D l (by simpa [vk] using h)
    exact ⟨.list ds, by simp [toD0, e], by simpa [PyData.canLay0] using h1, by simpa [PyData.eqv] using h2, by simp [PyData.depth, vdep, h3]⟩
  | .scr _, h => by simp [vk] at h
  | .ref _, h => by simp [vk] at h
  | .rng _ _ _, h => by simp [vk] at h
  | .exc _ _, h => by simp [vk] at h
  | .gtp _, h => by simp [vk] at h
theorem vks_D : ∀ l : List Val, vks l = true → ∃ ds, toDs0 l = some ds ∧ PyData.canLayAll0 ds = true ∧ PyData.eqvAll ds ds = true ∧ PyData.depthAll ds = vdeps l
  | [], _ => ⟨[], rfl, rfl, rfl, rfl⟩
  | v :: l, h => by
    rw [vks, Bool.and_eq_true] at h
    obtain ⟨d, e, a1, a2, a3⟩ := vk_D v h.1
    obtain ⟨ds, e', b1, b2, b3⟩ := vks_D l h.2
    exact ⟨d :: ds, by simp [toDs0, e, e'], by simp [PyData.canLayAll0, a1, b1], by simp [PyData.eqvAll, a2, b2], by simp [PyData.depthAll, vdeps, a3, b3]⟩
end
theorem eq_self {v : Val} (h : vk v = true) (hd : vdep v ≤ 50) (st : Sto) : eqEv st v v = some true := by
  obtain ⟨d, e, h1, h2, h3⟩ := vk_D v h
  have hs : SeqAt.shaped d = true := by
    simp [SeqAt.shaped, h1, h3]
    omega
  cases v with
  | int i => simp [eqEv]
  | bl b => simp [eqEv]
  | str s => simp [eqEv]
  | ref n => simp [vk] at h
  | scr l => simp [vk] at h
  | rng a b c => simp [vk] at h
  | exc a b => simp [vk] at h
  | gtp l => simp [vk] at h
  | _ =>
    simp only [eqEv, toD, e]
    rw [if_pos ⟨hs, hs⟩, h2]
/-! ### what is a picture -/
def nbB (b : Int) : Val → Bool
  | .int i => decide (0 ≤ i) && decide (i < b)
  | _ => false
def sideB (n : Int) : Bool := (Builtin.Range.rangePlace? 8 33 8 n).isSome
theorem sideB_iff {n : Int} : sideB n = true ↔ n = 8 ∨ n = 16 ∨ n = 24 ∨ n = 32 := by
  unfold sideB Builtin.Range.rangePlace?
  by_cases h1 : 8 ≤ n
  · by_cases h2 : n < 33
    · by_cases h3 : (n - 8) % 8 = 0
      · simp [h1, h2, h3]; omega
      · simp [h1, h2, h3]; omega
    · simp [h1, h2]; omega
  · simp [h1]; omega
def pRowB (C : Nat) : Val → Bool
  | .tup r => decide (r.length = C) && r.all (nbB 256)
  | _ => false
def isPic : Val → Bool
  | .tup l => sideB l.length && (match (l[0]? : Option Val) with
    | some (Val.tup r0) => sideB r0.length && l.all (pRowB r0.length)
    | _ => false)
  | _ => false
theorem pAllB {α : Type} {f : α → Bool} : ∀ l : List α, allB (l.map fun x => Val.bl (f x)) = some (l.map f)
  | [] => rfl
  | x :: l => by
    rw [List.map_cons, allB, pAllB l]
    rfl
theorem pVoks : ∀ {l : List Val}, vks l = true → ∀ v ∈ l, vk v = true
  | [], _, v, h => by simp at h
  | x :: l, hl, v, h => by
    have h' : vk x = true ∧ vks l = true := by simpa [vks] using hl
    rcases List.mem_cons.mp h with rfl | h
    · exact h'.1
    · exact pVoks h'.2 v h
def ipI (v : Val) (l : List Val) (C : Nat) (j : Nat) (e : Env) (st st' : Sto) : Prop := ∃ (x2 x3 : Option Val), e = [some v, some (.int C), x2, x3] ∧ st' = st ∧ ∀ i u, i < j → l[i]? = some u → pRowB C u = true
/-- the picture is one -/
def Pic (M : List (List Int)) (R C : Nat) : Prop := Box M R C ∧ Vals 0 255 C M ∧ sideB R = true ∧ sideB C = true
theorem all_nb {l : List Int} (h : ∀ z ∈ l, 0 ≤ z ∧ z ≤ 255) : (iL l).all (nbB 256) = true := by
  refine List.all_eq_true.mpr fun v hv => ?_
  obtain ⟨z, hz, rfl⟩ := List.mem_map.mp hv
  have := h z hz
  simp [nbB]
  omega
theorem pic_true {M : List (List Int)} {R C : Nat} (h : Pic M R C) : isPic (.tup (rows M)) = true := by
  obtain ⟨hB, hV, hr, hc⟩ := h
  have h0 : 0 < M.length := by rw [hB.len]; exact hB.r0
  have e0 : (rows M)[0]? = some (.tup (iL (gr M 0))) := by
    simp [rows, gr, h0]
  have el : ((rows M).length : Int) = R := by rw [List.length_map, hB.len]
  have e2 : ((iL (gr M 0)).length : Int) = C := by rw [iL_len, hB.col _ (gr_mem h0)]
  have e3 : (iL (gr M 0)).length = C := by rw [iL_len, hB.col _ (gr_mem h0)]
  simp only [isPic, el, hr, e0, e2, e3, hc, Bool.true_and]
  refine List.all_eq_true.mpr fun u hu => ?_
  obtain ⟨r, hr', rfl⟩ := List.mem_map.mp hu
  obtain ⟨h1, h2⟩ := hV r hr'
  simp [pRowB, h1, all_nb h2]
theorem vok_pic {M : List (List Int)} {R C : Nat} (h : Pic M R C) : vk (.tup (rows M)) = true ∧ vblk (.tup (rows M)) ≤ 90000 := by
  obtain ⟨hB, hV, hr, hc⟩ := h
  refine ⟨vks_rows M, ?_⟩
  have := vblks_rows (C := 100) (m := M) fun r hr => by have := hB.col r hr; have := hB.c1; omega
  rw [vblk]
  have h1 := hB.r1
  have h2 := hB.len
  have : M.length * (100 + 1) ≤ 100 * 101 := Nat.mul_le_mul (by omega) (by omega)
  omega
end Pv

set_option Elab.async false
set_option linter.all false
set_option maxRecDepth 100000
namespace Pv
open PySem
/-- a call that changes the store -/
theorem call_st {T : List Fd} {G : List (Str × Val)} {n i : Nat} {d : Fd} {args : List Val} {st st' : Sto} {v : Val} (hT : T[i]? = some d) (hl : args.length = d.ps) (hv : belowV st.length v = true) (hn : st'.length = st.length)
    (ho : ∀ j, j < st.length → st'[j]? = st[j]? ∨ ∃ o, st'[j]? = some o ∧ belowO st.length o = true)
    (h : W (evSs ⟨runF T G n, G⟩ d.body (frameOf d args) st) { N := fun _ s => (∃ e, s = st' ++ e) ∧ v = .non, R := fun u s => (∃ e, s = st' ++ e) ∧ u = v }) : runF T G (n + 1) i args st = .ok v st' := by
  have go : ∀ e : Sto, leave st v (st' ++ e) = .ok v st' := fun e => by
    unfold leave
    rw [if_pos]
    · rw [← hn]
      simp
    · exact ⟨hv, fun j hj => by
        rw [List.getElem?_append_left (by omega)]
        exact ho j hj⟩
  refine callF_eq hT hl ?_
  cases q : evSs ⟨runF T G n, G⟩ d.body (frameOf d args) st with
  | ret u s =>
    rw [q] at h
    obtain ⟨⟨e, rfl⟩, rfl⟩ := h
    exact go e
  | nx l s =>
    rw [q] at h
    obtain ⟨⟨e, rfl⟩, rfl⟩ := h
    exact go e
  | _ =>
    rw [q] at h
    exact h.elim
end Pv

set_option Elab.async false
set_option linter.all false
set_option maxRecDepth 100000
set_option maxHeartbeats 1000000
/-! A hand of draws: the first list of the store. -/
namespace Pv
open PySem
def dDraws : Fd := ⟨"_law_draws", 2, ["_law_script", "_law_many", "_law_rests", "_law_draws_here", "_law_k", "_law_cell", "_law_mixed", "_law_at"], [.set 2 (.lc true (.blt .abs [.blt .int [.var 5]]) (.nm 5) (.seq (.var 0)) []), .set 3 (.lst true []), .for' (.nm 4) (.rng [.var 1]) [.set 5 (.var 4), .ife (.cmp .gt (.blt .len [.var 0]) (.num 0)) [.set 7 (.bin .mod (.var 4) (.blt .len [.var 0])), .set 5 (.blt .int [.idx (.var 0) (.var 7)]), .ife (.and (.cmp .ge (.var 5) (.bin .pow (.num 10) (.num 18))) (.cmp .gt (.idx (.var 2) (.var 7)) (.num 0))) [.exp (.app (.var 3) (.bin .mod (.blt .int [.idx (.var 2) (.var 7)]) (.num 1000003))), .setI (.var 2) (.var 7) (.bin .fdiv (.blt .int [.idx (.var 2) (.var 7)]) (.num 1000003)), .cnt] []] [], .set 6 (.bin .mod (.blt .int [.bin .add (.bin .add (.bin .mul (.var 5) (.num 48271)) (.bin .mul (.var 4) (.num 69621))) (.num 11)]) (.num 2147483647)), .set 6 (.bin .mod (.blt .int [.bin .add (.bin .fdiv (.bin .mul (.var 6) (.var 6)) (.num 4096)) (.var 6)]) (.num 2147483629)), .exp (.app (.var 3) (.bin .mod (.blt .int [.bin .add (.bin .fdiv (.bin .mul (.var 6) (.var 6)) (.num 4096)) (.bin .mul (.var 4) (.num 7919))]) (.num 2147483629)))], .frz 3, .ret (.var 3)], none⟩
def dTake : Fd := ⟨"_law_take", 2, ["_law_hand", "_law_many", "_law_at", "_law_draws_here"], [.set 2 (.idx (.var 0) (.num 1)), .setI (.var 0) (.num 1) (.bin .add (.var 2) (.num 1)), .set 3 (.idx (.var 0) (.num 0)), .ife (.cmp .ge (.var 2) (.blt .len [.var 3])) [.ret (.num 0)] [], .ret (.bin .mod (.bin .fdiv (.blt .int [.idx (.var 3) (.var 2)]) (.num 7)) (.var 1))], none⟩
def hnd (D : List Int) (a : Nat) (r : List Int) : Ob := .lst (.lst (iL D) :: .int a :: iL r)
/-- the hand, and what stands behind it -/
def Hs (k : Nat) (e st : Sto) : Prop := ∃ (D : List Int) (a : Nat) (r : List Int), r.length = k ∧ st = hnd D a r :: e
theorem belowO_hnd {n : Nat} {D : List Int} {a : Nat} {r : List Int} : belowO n (hnd D a r) = true := by
  show belowVs n (.lst (iL D) :: .int a :: iL r) = true
  simp [belowVs, belowV, below_ints]
theorem leave_o {o o' : Ob} {e x : Sto} {v : Val} (ho : belowO (e.length + 1) o' = true) (hv : belowV (e.length + 1) v = true) : leave (o :: e) v (o' :: (e ++ x)) = .ok v (o' :: e) := by
  unfold leave
  rw [if_pos]
  · simp
  · refine ⟨hv, fun i hi => ?_⟩
    cases i with
    | zero => exact .inr ⟨o', rfl, ho⟩
    | succ i =>
      rw [List.length_cons] at hi
      refine .inl ?_
      rw [List.getElem?_cons_succ, List.getElem?_cons_succ, List.getElem?_append_left (by omega)]
theorem Hs.len {k : Nat} {e st : Sto} (h : Hs k e st) : st.length = e.length + 1 := by
  obtain ⟨D, a, r, _, rfl⟩ := h
  rfl
/-- a def that moves the hand, by its body -/
theorem call_Hs {T : List Fd} {G : List (Str × Val)} {n i k : Nat} {d : Fd} {args : List Val} {e st : Sto} (h : Hs k e st) (Q : Val → Prop) (hT : T[i]? = some d) (hl : args.length = d.ps)
    (hw : W (evSs ⟨runF T G n, G⟩ d.body (frameOf d args) st) { N := fun _ st' => ∃ x, Hs k (e ++ x) st' ∧ Q .non, R := fun v st' => ∃ x, Hs k (e ++ x) st' ∧ belowV (e.length + 1) v = true ∧ Q v }) :
    ∃ v st', Q v ∧ Hs k e st' ∧ runF T G (n + 1) i args st = .ok v st' := by
  obtain ⟨D, a, r, hr, rfl⟩ := h
  cases q : evSs ⟨runF T G n, G⟩ d.body (frameOf d args) (hnd D a r :: e) with
  | ret v st' =>
    rw [q] at hw
    obtain ⟨x, ⟨D', a', r', hr', rfl⟩, hb, hq⟩ := hw
    exact ⟨v, hnd D' a' r' :: e, hq, ⟨_, _, _, hr', rfl⟩, callF_eq hT hl (by rw [q]; exact leave_o belowO_hnd hb)⟩
  | nx l st' =>
    rw [q] at hw
    obtain ⟨x, ⟨D', a', r', hr', rfl⟩, hq⟩ := hw
    exact ⟨.non, hnd D' a' r' :: e, hq, ⟨_, _, _, hr', rfl⟩, callF_eq hT hl (by rw [q]; exact leave_o belowO_hnd rfl)⟩
  | _ =>
    rw [q] at hw
    exact hw.elim
theorem take_ok {T : List Fd} {G : List (Str × Val)} {n i k : Nat} {e st : Sto} (hT : T[i]? = some dTake) (m : Int) (hm : 0 < m) (h : Hs k e st) : ∃ x st', 0 ≤ x ∧ x < m ∧ Hs k e st' ∧ runF T G (n + 1) i [.ref 0, .int m] st = .ok (.int x) st' := by
  obtain ⟨v, st', ⟨x, rfl, h1, h2⟩, h3, h4⟩ := call_Hs (G := G) (n := n) (args := [.ref 0, .int m]) h (fun v => ∃ x : Int, v = .int x ∧ 0 ≤ x ∧ x < m) hT rfl (by
    obtain ⟨D, a, r, hr, rfl⟩ := h
    have hf : frameOf dTake [.ref 0, .int m] = [some (.ref 0), some (.int m), none, none] := rfl
    rw [hf]
    show W (evSs _ (_ :: _ :: _ :: _ :: _ :: []) _ _) _
    have e1 : L2.atI (.lst (iL D) :: .int a :: iL r) (1 : Int) = some (.int a) := atI_nat (k := 1) (by simp)
    have e0 : ∀ b, L2.atI (.lst (iL D) :: b :: iL r) (0 : Int) = some (.lst (iL D)) := fun _ => atI_nat (k := 0) (by simp)
    have e2 : ∀ q : Nat, L2.ixN (q + 1 + 1) (1 : Int) = some 1 := fun q => by unfold L2.ixN; rw [if_pos (by decide), if_pos (by omega)]; rfl
    rw [W_cons]
    simp [evS, ev, fin, idxEv, sview, hnd, e1]
    rw [W_cons]
    simp [evS, ev, fin, binEv, opI, setIEv, mlist, e2]
    rw [W_cons]
    simp [evS, ev, fin, idxEv, sview, e0]
    have hz : ((hnd D (a + 1) r :: e) : Sto) = Ob.lst (.lst (iL D) :: .int ((a : Int) + 1) :: iL r) :: e := by
      unfold hnd
      rw [Int.natCast_add]
      rfl
    rw [W_cons]
    by_cases ha : a < D.length
    · have hn : ¬ ((D.length : Int) ≤ a) := by omega
      have e3 := gi_at (l := D) (k := a) ha rfl
      simp [evS, ev, evs, fin, bfEv, sview, cmEv, ha, hn, W_nil]
      rw [W_cons]
      simp [evS, ev, evs, fin, bfEv, idxEv, sview, e3, binEv, opI, div_ok, hm]
      exact ⟨⟨[], by simpa using ⟨D, a + 1, r, hr, hz.symm⟩⟩, rfl, Int.emod_nonneg _ (by omega), Int.emod_lt_of_pos _ hm⟩
    · have hn : ((D.length : Int) ≤ a) := by omega
      simp [evS, ev, evs, fin, bfEv, sview, cmEv, ha, hn, W_cons]
      exact ⟨⟨[], by simpa using ⟨D, a + 1, r, hr, hz.symm⟩⟩, rfl, hm⟩)
  exact ⟨x, st', h1, h2, h3, h4⟩
theorem mul_a1 {x : Int} : mulOk x 48271 := .inr (.inl ⟨by decide, by decide⟩)
theorem mul_a2 {x : Int} : mulOk x 69621 := .inr (.inl ⟨by decide, by decide⟩)
theorem mul_a3 {x : Int} : mulOk x 7919 := .inr (.inl ⟨by decide, by decide⟩)
theorem mul_a4 {x y : Int} : mulOk x (y % 2147483647) := .inr (.inl ⟨by omega, by omega⟩)
theorem mul_a5 {x y : Int} : mulOk x (y % 2147483629) := .inr (.inl ⟨by omega, by omega⟩)
def dwI (ns : List Int) (m : Int) (st : Sto) (j : Nat) (l : Env) (st' : Sto) : Prop := ∃ (x4 x5 x6 x7 : Option Val) (rs ds : List Int), l = [some (.scr ns), some (.int m), some (.ref st.length), some (.ref (st.length + 1)), x4, x5, x6, x7] ∧
  st' = st ++ [.lst (iL rs), .lst (iL ds)] ∧ rs.length = ns.length ∧ ds.length ≤ j
theorem draws_ok {T : List Fd} {G : List (Str × Val)} {i n : Nat} (hT : T[i]? = some dDraws) (ns : List Int) (m : Nat) (st : Sto) (hn : ns.length ≤ 63) (hm : m < 1000000) : ∃ D : List Int, runF T G (n + 1) i [.scr ns, .int m] st = .ok (.lst (iL D)) st := by
  obtain ⟨v, ⟨D, rfl⟩, e⟩ := call_W (G := G) (n := n) (st := st) (args := [.scr ns, .int m]) (fun v => ∃ D : List Int, v = .lst (iL D)) hT rfl (by
    have hf : frameOf dDraws [.scr ns, .int m] = [some (.scr ns), some (.int m), none, none, none, none, none, none] := rfl
    rw [hf]
    show W (evSs _ (_ :: _ :: _ :: _ :: _ :: []) _ _) _
    rw [W_cons]
    have e1 := ev_lcM (c := ⟨runF T G n, G⟩) (m := true) (e := .blt .abs [.blt .int [.var 5]]) (tg := .nm 5) (it := .seq (.var 0)) (l := [some (.scr ns), some (.int m), none, none, none, none, none, none]) (st := st) (L := ns) (g := Val.int) (h := fun x => .int (if x < 0 then -x else x)) (gs := []) (by simp [evi, ev, fin]) guard_nil (fun a ha => ⟨_, rfl, by simp [ev, evs, fin, bfEv, Tg.slots, wipeE]⟩) (by show _ ≤ 2 ^ 24; omega)
    simp only [evS, e1, newL, R.fl, W_nx, List.set_cons_succ, List.set_cons_zero]
    rw [W_cons]
    simp only [evS, ev, evs, R.bind_ok, R.fl, W_nx, newL, fin_false, List.length_append, List.length_cons, List.length_nil, List.set_cons_succ, List.set_cons_zero, Nat.zero_le, if_true, List.append_assoc, List.cons_append, List.nil_append, Nat.zero_add]
    rw [W_cons]
    have hr : inR m := by unfold inR; omega
    simp only [evS, evi, evs, ev, fin, R.fl, R.bind, rngEv, hr, if_true, List.getElem?_cons_succ, List.getElem?_cons_zero]
    refine W_for (dwI ns m st) ⟨none, none, none, none, ns.map fun x => if x < 0 then -x else x, [], rfl, by rw [iL_map]; rfl, by simp, by simp⟩ (fun _ _ _ _ => guard_nil) ?_ ?_
    · rintro j v l st' hv ⟨x4, x5, x6, x7, rs, ds, rfl, rfl, hl, hd⟩
      obtain ⟨hj, rfl⟩ := rngL_get' hv
      refine ⟨_, rfl, ?_⟩
      have hz : ds.length < sizeLine := by show _ < 2 ^ 24; omega
      have g0 : (st ++ [Ob.lst (iL rs), Ob.lst (iL ds)])[st.length]? = some (Ob.lst (iL rs)) := st_get0
      have g1 : (st ++ [Ob.lst (iL rs), Ob.lst (iL ds)])[st.length + 1]? = some (Ob.lst (iL ds)) := st_get 1
      have s0 : ∀ x y, (st ++ [Ob.lst (iL rs), x]).set st.length y = st ++ [y, x] := fun x y => st_set0
      have s1 : ∀ y, (st ++ [Ob.lst (iL rs), Ob.lst (iL ds)]).set (st.length + 1) y = st ++ [Ob.lst (iL rs), y] := fun y => st_set 1
      have done_ : ∀ (x4 x5 x6 x7 : Option Val) (rs' : List Int) (z : Int), rs'.length = ns.length → dwI ns m st (j + 1) [some (.scr ns), some (.int m), some (.ref st.length), some (.ref (st.length + 1)), x4, x5, x6, x7] (st ++ [Ob.lst (iL rs'), Ob.lst (iL ds ++ [.int z])]) := fun x4 x5 x6 x7 rs' z h =>
        ⟨x4, x5, x6, x7, rs', ds ++ [z], rfl, by rw [iL_snoc], h, by simp; omega⟩
      rw [W_cons]
      simp [evS, ev, fin]
      -- the tail
      have tail : ∀ (c : Int) (x6 x7 : Option Val) (D : Po), D.N = dwI ns m st (j + 1) → W (evSs ⟨runF T G n, G⟩ (match dDraws.body with
          | [_, _, .for' _ _ [_, _, a, b, c], _, _] => [a, b, c]
          | _ => []) [some (.scr ns), some (.int m), some (.ref st.length), some (.ref (st.length + 1)), some (.int (j : Int)), some (.int c), x6, x7] (st ++ [Ob.lst (iL rs), Ob.lst (iL ds)])) D := by
        intro c x6 x7 D hD
        show W (evSs _ (_ :: _ :: _ :: []) _ _) _
        rw [W_cons]
        simp [evS, ev, evs, fin, binEv, opI, bfEv, mul_a1, mul_a2]
        rw [W_cons]
        simp [evS, ev, evs, fin, binEv, opI, bfEv, mul_a4, div_ok]
        rw [W_cons]
        simp [evS, ev, evs, fin, binEv, opI, bfEv, mul_a5, mul_a3, div_ok, mlist, g1, appEv, hz, s1, W_nil, hD]
        exact done_ _ _ _ _ _ _ hl
      rw [W_cons]
      by_cases h0 : ns.length = 0
      · simp [evS, ev, evs, fin, bfEv, sview, cmEv, h0, W_nil]
        exact tail _ _ _ _ rfl
      · have hp : (0 : Int) < ns.length := by omega
        have hp' : 0 < ns.length := by omega
        have hm0 := Int.emod_nonneg (j : Int) (b := (ns.length : Int)) (by omega)
        have hm1 := Int.emod_lt_of_pos (j : Int) hp
        obtain ⟨q, hq⟩ := Int.eq_ofNat_of_zero_le hm0
        have hq1 : q < ns.length := by omega
        have e2 : L2.atI (ns.map Val.int) (q : Int) = some (.int (gi ns q)) := gi_at hq1 rfl
        have e3 : L2.atI (iL rs) (q : Int) = some (.int (gi rs q)) := gi_at (by omega) rfl
        have e4 : L2.ixN rs.length (q : Int) = some q := by
          unfold L2.ixN
          rw [if_pos (by omega), if_pos (by omega)]
          rfl
        simp [evS, ev, evs, fin, bfEv, sview, cmEv, h0, hp']
        rw [W_cons]
        simp [evS, ev, evs, fin, bfEv, sview, binEv, opI, hp', hq]
        rw [W_cons]
        simp [evS, ev, evs, fin, bfEv, sview, idxEv, e2]
        rw [W_cons]
        by_cases h18 : (1000000000000000000 : Int) ≤ gi ns q
        · by_cases hr0 : 0 < gi rs q
          · simp [evS, ev, evs, fin, binEv, opI, powOk, cmEv, h18, idxEv, sview, g0, e3, hr0]
            rw [W_cons]
            simp [evS, ev, evs, fin, bfEv, binEv, opI, cmEv, idxEv, sview, g0, e3, mlist, g1, appEv, hz, s1]
            have g0' : ∀ x, (st ++ [Ob.lst (iL rs), x])[st.length]? = some (Ob.lst (iL rs)) := fun x => st_get0
            rw [W_cons]
            simp [evS, ev, evs, fin, bfEv, binEv, opI, cmEv, idxEv, sview, g0', e3, mlist, setIEv, e4, div_ok, s0]
            rw [W_cons]
            simp [evS]
            have hs : (iL rs).set q (Val.int (gi rs q / 1000003)) = iL (rs.set q (gi rs q / 1000003)) := by
              rw [iL, iL, List.map_set]
            rw [hs]
            exact done_ _ _ _ _ _ _ (by rw [List.length_set]; exact hl)
          · simp [evS, ev, evs, fin, binEv, opI, powOk, cmEv, h18, idxEv, sview, g0, e3, hr0, W_nil]
            exact tail _ _ _ _ rfl
        · simp [evS, ev, evs, fin, binEv, opI, powOk, cmEv, h18, W_nil]
          exact tail _ _ _ _ rfl
    · rintro l st' ⟨x4, x5, x6, x7, rs, ds, rfl, rfl, hl, _⟩
      show W (evSs _ (_ :: _ :: []) _ _) _
      have g1 : (st ++ [Ob.lst (iL rs), Ob.lst (iL ds)])[st.length + 1]? = some (Ob.lst (iL ds)) := st_get 1
      have s1 : ∀ y, (st ++ [Ob.lst (iL rs), Ob.lst (iL ds)]).set (st.length + 1) y = st ++ [Ob.lst (iL rs), y] := fun y => st_set 1
      rw [W_cons]
      simp [evS, frzEv, g1, thaw_ints, W_cons, ev, fin, killAll, s1]
      exact ⟨below_ints _ _, ds, rfl⟩)
  exact ⟨D, e⟩
/-! comprehensions that move the store -/
theorem lcL_S {body : Val → Sto → R (Option Val)} {g : List (Nat × List Val)} (P : Sto → Prop) (Q : Nat → Val → Prop) (hg : ∀ st, P st → guardOk st g) : ∀ (items acc : List Val) (k : Nat) (st : Sto), P st → (∀ i v st, items[i]? = some v → P st → ∃ x st', body v st = .ok (some x) st' ∧ P st' ∧ Q (k + i) x) → acc.length + items.length ≤ sizeLine →
    ∃ xs st', lcL body g items acc st = .ok (acc ++ xs) st' ∧ P st' ∧ xs.length = items.length ∧ ∀ i x, xs[i]? = some x → Q (k + i) x
  | [], acc, k, st, hp, _, _ => ⟨[], st, by rw [lcL, if_pos (hg _ hp)]; simp, hp, rfl, fun i x h => by simp at h⟩
  | v :: vs, acc, k, st, hp, hb, hz => by
    rw [List.length_cons] at hz
    obtain ⟨x, st1, e1, hp1, hq⟩ := hb 0 v st rfl hp
    obtain ⟨xs, st', e2, hp2, hl, hx⟩ := lcL_S P Q hg vs (acc ++ [x]) (k + 1) st1 hp1 (fun i u s h hp => by
      have := hb (i + 1) u s (by simpa using h) hp
      rw [show k + (i + 1) = k + 1 + i by omega] at this
      exact this) (by rw [List.length_append]; simp; omega)
    refine ⟨x :: xs, st', ?_, hp2, by simp [hl], fun i y h => ?_⟩
    · rw [lcL, if_pos (hg _ hp), e1]
      simp only
      rw [if_pos (by omega), e2]
      simp
    · cases i with
      | zero =>
        cases h
        exact hq
      | succ i =>
        have := hx i y (by simpa using h)
        rw [show k + 1 + i = k + (i + 1) by omega] at this
        exact this
theorem ev_lcS {c : Cn} {m : Bool} {e : Xp} {tg : Tg} {it : It} {l : Env} {st : Sto} {items : List Val} {g : List (Nat × List Val)} (P : Sto → Prop) (Q : Nat → Val → Prop) (hp : P st) (hi : evi c it l st = .ok (items, g) st) (hg : ∀ st, P st → guardOk st g)
    (hb : ∀ i v st, items[i]? = some v → P st → ∃ l1, tgSet tg v (wipeE l tg.slots) = some l1 ∧ ∃ x st', ev c false e l1 st = .ok x st' ∧ P st' ∧ Q i x) (hz : items.length ≤ sizeLine) :
    ∃ xs st', ev c false (.lc m e tg it []) l st = newL m xs st' ∧ P st' ∧ xs.length = items.length ∧ ∀ i x, xs[i]? = some x → Q i x := by
  obtain ⟨xs, st', e1, h1, h2, h3⟩ := lcL_S (body := fun v st => match tgSet tg v (wipeE l tg.slots) with
        | none => .stuck
        | some l1 => (evf c [] l1 st).bind fun b st => match b with
          | true => (ev c false e l1 st).bind fun x st => .ok (some x) st
          | false => .ok none st) P Q hg items [] 0 st hp (fun i v st h hp => by
    obtain ⟨l1, e1, x, st', e2, hp', hq⟩ := hb i v st h hp
    refine ⟨x, st', ?_, hp', by rw [Nat.zero_add]; exact hq⟩
    simp only [e1, evf, R.bind_ok, e2]) (by simpa using hz)
  refine ⟨xs, st', ?_, h1, h2, fun i x h => by have := h3 i x h; rw [Nat.zero_add] at this; exact this⟩
  simp only [ev, hi, R.bind_ok, fin_false]
  have e2 := congrArg (fun r => R.bind r fun xs st => newL m xs st) e1
  simp only [List.nil_append, R.bind_ok] at e2
  exact e2
end Pv

set_option Elab.async false
set_option linter.all false
set_option maxRecDepth 100000
set_option maxHeartbeats 1000000
/-! Pieces of KC, KD, KX that no program's def is in. -/
namespace Pv
open PySem
def xcP : Xc := ⟨"InvalidPicture", ["value"], ["TideError", "InvalidPicture"], ["TideError", "InvalidPicture", "InvalidText", "InvalidLine"]⟩
def xcT : Xc := ⟨"InvalidText", ["text", "at"], ["TideError", "InvalidText"], ["TideError", "InvalidPicture", "InvalidText", "InvalidLine"]⟩
theorem exp_exn {c : Cn} {e : Xp} {ss : List Sm} {l : Env} {st st' : Sto} {x : Xn} (h : ev c false e l st = .exn x st') : evSs c (.exp e :: ss) l st = .exn x l st' := by
  rw [evSs]
  simp only [evS, h, R.fl]
theorem ret_exn {c : Cn} {e : Xp} {ss : List Sm} {l : Env} {st st' : Sto} {x : Xn} (h : ev c false e l st = .exn x st') : evSs c (.ret e :: ss) l st = .exn x l st' := by
  rw [evSs]
  simp only [evS, h, R.fl]
theorem bind_exn {α β : Type} {x : Xn} {st : Sto} {f : α → Sto → R β} : R.bind (.exn x st : R α) f = .exn x st := rfl
structure Pk (v : Val) : Prop where
  ok : vk v = true
  blk : vblk v ≤ 90000
theorem Pic.pk {M : List (List Int)} {R C : Nat} (h : Pic M R C) : Pk (.tup (rows M)) := ⟨(vok_pic h).1, (vok_pic h).2⟩
theorem slc_nat {l : List Val} {a b : Nat} {x y : Int} (hx : x = a) (hy : y = b) (h1 : a ≤ b) (h2 : b ≤ l.length) (st : Sto) : slcEv false (.tup l) (some x) (some y) st = .ok (.tup ((l.drop a).take (b - a))) st := by
  subst hx hy
  show R.ok (Val.tup (cutL l (some (a : Int)) (some (b : Int)))) st = _
  rw [cutL_nat h1 h2]
theorem slc_lo {l : List Val} {a : Nat} {x : Int} (hx : x = a) (h : a ≤ l.length) (st : Sto) : slcEv false (.tup l) none (some x) st = .ok (.tup (l.take a)) st := by
  subst hx
  show R.ok (Val.tup (cutL l none (some (a : Int)))) st = _
  unfold cutL
  have e1 : HT.sIx l.length 0 none = 0 := rfl
  rw [e1, HT.sIx_nat, show min a l.length = a by omega]
  simp
theorem slc_hi {l : List Val} {a : Nat} {x : Int} (hx : x = a) (h : a ≤ l.length) (st : Sto) : slcEv false (.tup l) (some x) none st = .ok (.tup (l.drop a)) st := by
  subst hx
  show R.ok (Val.tup (cutL l (some (a : Int)) none)) st = _
  unfold cutL
  have e1 : HT.sIx l.length l.length none = l.length := rfl
  rw [e1, HT.sIx_nat, show min a l.length = a by omega, List.take_of_length_le (by simp)]
theorem rows_take (M : List (List Int)) (k : Nat) : (rows M).take k = rows (M.take k) := by simp [rows, List.map_take]
theorem rows_drop (M : List (List Int)) (k : Nat) : (rows M).drop k = rows (M.drop k) := by simp [rows, List.map_drop]
theorem rows_app (A B : List (List Int)) : rows A ++ rows B = rows (A ++ B) := by simp [rows]
theorem rows_len (M : List (List Int)) : (rows M).length = M.length := by simp [rows]
theorem cat_rows {A B : List (List Int)} (h : A.length + B.length ≤ 10000) (st : Sto) : binEv .add (.tup (rows A)) (.tup (rows B)) st = .ok (.tup (rows (A ++ B))) st := by
  simp only [binEv, rows_len]
  rw [if_pos (by show _ ≤ 2 ^ 24; omega), rows_app]
theorem below_rows' (b : Nat) (M : List (List Int)) : belowV b (.tup (rows M)) = true := by
  rw [belowV]
  exact below_map (fun r => by rw [belowV]; exact below_ints _ _) _
theorem cell_ok (n0 : Nat) (ns : List Int) (k : Nat) (st : Sto) : ∃ z : Int, 0 ≤ z ∧ runF tabT tabG (n0 + 1) 0 [.scr ns, .int k] st = .ok (.int z) st := by
  obtain ⟨v, ⟨z, rfl, hz⟩, e⟩ := call_W (T := tabT) (G := tabG) (n := n0) (i := 0) (d := f_l_cell) (args := [.scr ns, .int k]) (st := st) (fun v => ∃ z : Int, v = .int z ∧ 0 ≤ z) rfl rfl (by
    show W (evSs _ (_ :: _ :: []) [some (.scr ns), some (.int k)] st) _
    have ln : ∀ st, bfEv .len [.scr ns] st = .ok (.int (ns.length : Nat)) st := fun st => by simp [bfEv, sview]
    have cl : ∀ st, cmEv .lt (.int (k : Nat)) (.int (ns.length : Nat)) st = .ok (.bl (decide ((k : Int) < (ns.length : Int)))) st := fun _ => rfl
    by_cases h : (k : Int) < (ns.length : Int)
    · rw [decide_eq_true h] at cl
      refine W_if1 (st' := st) (by simp only [ev, evs, evk, evf, evi, evo, fin_false, fin_bl, List.getElem?_cons_zero, List.getElem?_cons_succ, List.set_cons_succ, List.set_cons_zero, Pv.R.bind_ok, putK0, ln, cl]) ?_
      rw [List.cons_append]
      have ix : ∀ st, idxEv (.scr ns) (.int (k : Nat)) st = .ok (.int (gi ns k)) st := fun st => by
        have ha : L2.atI (iL ns) (k : Int) = some (.int (gi ns k)) := gi_at (by omega) rfl
        simp [idxEv, sview, ha]
      have b2 : ∀ (z : Int) st, bfEv .int [.int z] st = .ok (.int z) st := fun _ _ => rfl
      have ba : ∀ (z : Int) st, bfEv .abs [.int z] st = .ok (.int (if z < 0 then -z else z)) st := fun _ _ => rfl
      exact W_rt (v := .int (if gi ns k < 0 then -gi ns k else gi ns k)) (st' := st) (by simp only [ev, evs, evk, evf, evi, evo, fin_false, fin_bl, List.getElem?_cons_zero, List.getElem?_cons_succ, List.set_cons_succ, List.set_cons_zero, Pv.R.bind_ok, putK0, ix, b2, ba]) ⟨⟨[], by simp⟩, rfl, _, rfl, by split <;> omega⟩
    · rw [decide_eq_false h] at cl
      refine W_if0 (st' := st) (by simp only [ev, evs, evk, evf, evi, evo, fin_false, fin_bl, List.getElem?_cons_zero, List.getElem?_cons_succ, List.set_cons_succ, List.set_cons_zero, Pv.R.bind_ok, putK0, ln, cl]) ?_
      rw [List.nil_append]
      exact W_rt (v := .int 0) (st' := st) (by simp only [ev, evs, evk, evf, evi, evo, fin_false, fin_bl, List.getElem?_cons_zero, List.getElem?_cons_succ, List.set_cons_succ, List.set_cons_zero, Pv.R.bind_ok, putK0]) ⟨⟨[], by simp⟩, rfl, _, rfl, by decide⟩)
  exact ⟨z, hz, e⟩
def drI (z most : Int) (m : Nat) (st : Sto) (j : Nat) (l : Env) (s : Sto) : Prop := ∃ (left : Int) (x5 x6 x7 x8 : Option Val) (ds : List Int), l = [some (.int z), some (.int m), some (.int most), some (.int left), some (.ref st.length), x5, x6, x7, x8] ∧ s = st ++ [.lst (iL ds)] ∧ ds.length = j ∧ ∀ d ∈ ds, 0 ≤ d ∧ d < most
theorem dr_ok (n0 : Nat) (z most : Int) (m : Nat) (st : Sto) (hm : m ≤ 10000) (hb : 0 < most) (hb2 : most < 2147483648) :
    ∃ ds : List Int, ds.length = m ∧ (∀ d ∈ ds, 0 ≤ d ∧ d < most) ∧ runF tabT tabG (n0 + 1) 1 [.int z, .int m, .int most] st = .ok (.lst (iL ds)) st := by
  obtain ⟨v, ⟨ds, rfl, h1, h2⟩, e⟩ := call_W (T := tabT) (G := tabG) (n := n0) (i := 1) (d := f_l_draws) (args := [.int z, .int m, .int most]) (st := st) (fun v => ∃ ds : List Int, v = .lst (iL ds) ∧ ds.length = m ∧ ∀ d ∈ ds, 0 ≤ d ∧ d < most) rfl rfl (by
    show W (evSs _ (_ :: _ :: f_l_draws.body.drop 2) [some (.int z), some (.int m), some (.int most), none, none, none, none, none, none] st) _
    refine W_set (v := .int 0) (st' := st) (by simp only [ev, evs, evk, evf, evi, evo, fin_false, fin_bl, List.getElem?_cons_zero, List.getElem?_cons_succ, List.set_cons_succ, List.set_cons_zero, Pv.R.bind_ok, putK0]) ?_
    simp only [List.set_cons_succ, List.set_cons_zero]
    have z0 : (0 : Nat) ≤ sizeLine := Nat.zero_le _
    have b2 : ∀ (z : Int) st, bfEv .int [.int z] st = .ok (.int z) st := fun _ _ => rfl
    have md : ∀ (a b : Int) st, 0 < b → b < 18446744073709551616 → binEv .mod (.int a) (.int b) st = .ok (.int (a % b)) st := fun a b st h1 h2 => by simp [binEv, opI, div_ok, h1, h2]
    have ml : ∀ (a b : Int) st, mulOk a b → binEv .mul (.int a) (.int b) st = .ok (.int (a * b)) st := fun a b st h => by simp [binEv, opI, h]
    have ad : ∀ (a b : Int) st, binEv .add (.int a) (.int b) st = .ok (.int (a + b)) st := fun _ _ _ => rfl
    have main : ∀ left : Int, W (evSs ⟨runF tabT tabG n0, tabG⟩ (f_l_draws.body.drop 2) [some (.int z), some (.int m), some (.int most), some (.int left), none, none, none, none, none] st)
        { N := fun _ st' => (∃ e, st' = st ++ e) ∧ ∃ ds : List Int, Val.non = .lst (iL ds) ∧ ds.length = m ∧ ∀ d ∈ ds, 0 ≤ d ∧ d < most, R := fun v st' => (∃ e, st' = st ++ e) ∧ belowV st.length v = true ∧ ∃ ds : List Int, v = .lst (iL ds) ∧ ds.length = m ∧ ∀ d ∈ ds, 0 ≤ d ∧ d < most } := by
      intro left0
      show W (evSs _ (_ :: _ :: _ :: _ :: []) _ _) _
      refine W_set (v := .ref st.length) (st' := st ++ [.lst []]) (by simp only [ev, evs, evk, evf, evi, evo, fin_false, fin_bl, List.getElem?_cons_zero, List.getElem?_cons_succ, List.set_cons_succ, List.set_cons_zero, Pv.R.bind_ok, putK0, newL, List.length_nil, z0, if_true]) ?_
      simp only [List.set_cons_succ, List.set_cons_zero]
      refine W_fr0 (drI z most m st) (n := m) (by simp only [ev, evs, evk, evf, evi, evo, fin_false, fin_bl, List.getElem?_cons_zero, List.getElem?_cons_succ, List.set_cons_succ, List.set_cons_zero, Pv.R.bind_ok, putK0]; exact rng_n (by omega) _) ⟨left0, none, none, none, none, [], rfl, rfl, rfl, fun d hd => by cases hd⟩ ?_ ?_
      · rintro j l s hj ⟨left, x5, x6, x7, x8, ds, rfl, rfl, hl, hd⟩
        simp only [List.set_cons_succ, List.set_cons_zero]
        have hz : (iL ds).length < sizeLine := by rw [iL_len, hl]; show j < 2 ^ 24; omega
        have el : (st ++ [Ob.lst (iL ds)])[st.length]? = some (.lst (iL ds)) := by simp
        have es : ∀ o, (st ++ [Ob.lst (iL ds)]).set st.length o = st ++ [o] := fun o => by simp
        have cg : ∀ st, cmEv .ge (.int left) (.int most) st = .ok (.bl (decide (most ≤ left))) st := fun _ => rfl
        have mm := fun a st => md a most st hb (by omega)
        by_cases hp : most ≤ left
        · rw [decide_eq_true hp] at cg
          refine W_if1 (st' := st ++ [.lst (iL ds)]) (by simp only [ev, evs, evk, evf, evi, evo, fin_false, fin_bl, List.getElem?_cons_zero, List.getElem?_cons_succ, List.set_cons_succ, List.set_cons_zero, Pv.R.bind_ok, putK0, cg]) ?_
          rw [List.cons_append, List.cons_append, List.nil_append]
          refine W_exp (v := .non) (st' := st ++ [.lst (iL (ds ++ [left % most]))]) (by simp only [ev, evs, evk, evf, evi, evo, fin_false, fin_bl, List.getElem?_cons_zero, List.getElem?_cons_succ, List.set_cons_succ, List.set_cons_zero, Pv.R.bind_ok, putK0, mlist, el, b2, mm, appEv, hz, if_true, es, iL_snoc]) ?_
          have fd : ∀ st, binEv .fdiv (.int left) (.int most) st = .ok (.int (left / most)) st := fun st => by
            have : most < 18446744073709551616 := by omega
            simp [binEv, opI, div_ok, hb, this]
          refine W_set (v := .int (left / most)) (st' := st ++ [.lst (iL (ds ++ [left % most]))]) (by simp only [ev, evs, evk, evf, evi, evo, fin_false, fin_bl, List.getElem?_cons_zero, List.getElem?_cons_succ, List.set_cons_succ, List.set_cons_zero, Pv.R.bind_ok, putK0, fd]) ?_
          simp only [List.set_cons_succ, List.set_cons_zero]
          exact W_end ⟨_, _, _, _, _, ds ++ [left % most], rfl, rfl, by simp [hl], snoc_all hd ⟨Int.emod_nonneg _ (by omega), Int.emod_lt_of_pos _ hb⟩⟩
        · rw [decide_eq_false hp] at cg
          refine W_if0 (st' := st ++ [.lst (iL ds)]) (by simp only [ev, evs, evk, evf, evi, evo, fin_false, fin_bl, List.getElem?_cons_zero, List.getElem?_cons_succ, List.set_cons_succ, List.set_cons_zero, Pv.R.bind_ok, putK0, cg]) ?_
          rw [List.cons_append, List.cons_append, List.cons_append, List.cons_append, List.nil_append]
          obtain ⟨f, hf⟩ : ∃ f, f = (z * 48271 + ((j : Int) + 1) * 69621) % 2147483647 := ⟨_, rfl⟩
          obtain ⟨g, hg⟩ : ∃ g, g = (f * f + ((j : Int) + 1) * 40692) % 2147483399 := ⟨_, rfl⟩
          obtain ⟨k, hk⟩ : ∃ k, k = (g * g + f) % 2147483647 := ⟨_, rfl⟩
          have fb : 0 ≤ f ∧ f < 2147483647 := by rw [hf]; exact ⟨Int.emod_nonneg _ (by decide), Int.emod_lt_of_pos _ (by decide)⟩
          have gb : 0 ≤ g ∧ g < 2147483399 := by rw [hg]; exact ⟨Int.emod_nonneg _ (by decide), Int.emod_lt_of_pos _ (by decide)⟩
          have q1 := fun st => ml z 48271 st (mul_r (by decide) (by decide))
          have q2 := fun st => ml ((j : Int) + 1) 69621 st (mul_r (by decide) (by decide))
          have q3 := fun st => md (z * 48271 + ((j : Int) + 1) * 69621) 2147483647 st (by decide) (by decide)
          rw [← hf] at q3
          refine W_set (v := .int f) (st' := st ++ [.lst (iL ds)]) (by simp only [ev, evs, evk, evf, evi, evo, fin_false, fin_bl, List.getElem?_cons_zero, List.getElem?_cons_succ, List.set_cons_succ, List.set_cons_zero, Pv.R.bind_ok, putK0, q1, q2, ad, b2, q3]) ?_
          simp only [List.set_cons_succ, List.set_cons_zero]
          have q4 := fun st => ml f f st (mul_l (by omega) (by omega))
          have q5 := fun st => ml ((j : Int) + 1) 40692 st (mul_r (by decide) (by decide))
          have q6 := fun st => md (f * f + ((j : Int) + 1) * 40692) 2147483399 st (by decide) (by decide)
          rw [← hg] at q6
          refine W_set (v := .int g) (st' := st ++ [.lst (iL ds)]) (by simp only [ev, evs, evk, evf, evi, evo, fin_false, fin_bl, List.getElem?_cons_zero, List.getElem?_cons_succ, List.set_cons_succ, List.set_cons_zero, Pv.R.bind_ok, putK0, q4, q5, ad, b2, q6]) ?_
          simp only [List.set_cons_succ, List.set_cons_zero]
          have q7 := fun st => ml g g st (mul_l (by omega) (by omega))
          have q8 := fun st => md (g * g + f) 2147483647 st (by decide) (by decide)
          rw [← hk] at q8
          refine W_set (v := .int k) (st' := st ++ [.lst (iL ds)]) (by simp only [ev, evs, evk, evf, evi, evo, fin_false, fin_bl, List.getElem?_cons_zero, List.getElem?_cons_succ, List.set_cons_succ, List.set_cons_zero, Pv.R.bind_ok, putK0, q7, ad, b2, q8]) ?_
          simp only [List.set_cons_succ, List.set_cons_zero]
          refine W_exp (v := .non) (st' := st ++ [.lst (iL (ds ++ [k % most]))]) (by simp only [ev, evs, evk, evf, evi, evo, fin_false, fin_bl, List.getElem?_cons_zero, List.getElem?_cons_succ, List.set_cons_succ, List.set_cons_zero, Pv.R.bind_ok, putK0, mlist, el, mm, appEv, hz, if_true, es, iL_snoc]) ?_
          exact W_end ⟨_, _, _, _, _, ds ++ [k % most], rfl, rfl, by simp [hl], snoc_all hd ⟨Int.emod_nonneg _ (by omega), Int.emod_lt_of_pos _ hb⟩⟩
      · rintro l s ⟨left, x5, x6, x7, x8, ds, rfl, rfl, hl, hd⟩
        have el : (st ++ [Ob.lst (iL ds)])[st.length]? = some (.lst (iL ds)) := by simp
        refine W_frz (n := st.length) rfl el (thaw_ints ds) ?_
        simp only [List.set_cons_succ, List.set_cons_zero]
        exact W_rt (v := .lst (iL ds)) (st' := st ++ [.gone]) (by
          simp only [killAll]
          simp only [ev, evs, evk, evf, evi, evo, fin_false, fin_bl, List.getElem?_cons_zero, List.getElem?_cons_succ, List.set_cons_succ, List.set_cons_zero, Pv.R.bind_ok, putK0]
          simp) ⟨⟨[.gone], rfl⟩, by simp only [belowV]; exact below_ints _ _, ds, rfl, hl, hd⟩
    have pw : ∀ st, binEv .pow (.int 10) (.int 18) st = .ok (.int 1000000000000000000) st := fun st => by simp [binEv, opI, powOk]
    have cg : ∀ st, cmEv .ge (.int z) (.int 1000000000000000000) st = .ok (.bl (decide ((1000000000000000000 : Int) ≤ z))) st := fun _ => rfl
    by_cases hc : (1000000000000000000 : Int) ≤ z
    · rw [decide_eq_true hc] at cg
      refine W_if1 (st' := st) (by simp only [ev, evs, evk, evf, evi, evo, fin_false, fin_bl, List.getElem?_cons_zero, List.getElem?_cons_succ, List.set_cons_succ, List.set_cons_zero, Pv.R.bind_ok, putK0, pw, cg]) ?_
      rw [List.cons_append, List.nil_append]
      refine W_set (v := .int z) (st' := st) (by simp only [ev, evs, evk, evf, evi, evo, fin_false, fin_bl, List.getElem?_cons_zero, List.getElem?_cons_succ, List.set_cons_succ, List.set_cons_zero, Pv.R.bind_ok, putK0]) ?_
      simp only [List.set_cons_succ, List.set_cons_zero]
      exact main z
    · rw [decide_eq_false hc] at cg
      refine W_if0 (st' := st) (by simp only [ev, evs, evk, evf, evi, evo, fin_false, fin_bl, List.getElem?_cons_zero, List.getElem?_cons_succ, List.set_cons_succ, List.set_cons_zero, Pv.R.bind_ok, putK0, pw, cg]) ?_
      rw [List.nil_append]
      exact main 0)
  exact ⟨ds, h1, h2, e⟩
def srI (M : List (List Int)) (st : Sto) (j : Nat) (e : Env) (s : Sto) : Prop := ∃ x2 x3, e = [some (.tup (rows M)), some (.tup (rows M)), x2, x3] ∧ s = st
def srJ (M : List (List Int)) (i : Nat) (st : Sto) (j : Nat) (e : Env) (s : Sto) : Prop := ∃ x3, e = [some (.tup (rows M)), some (.tup (rows M)), some (.int i), x3] ∧ s = st
theorem i_int (z : Int) (st : Sto) : bfEv .int [.int z] st = .ok (.int z) st := rfl
theorem mod_n (a b : Int) (st : Sto) (h1 : 0 < b) (h2 : b < 18446744073709551616) : binEv .mod (.int a) (.int b) st = .ok (.int (a % b)) st := by simp [binEv, opI, div_ok, h1, h2]
theorem div_n (a b : Int) (st : Sto) (h1 : 0 < b) (h2 : b < 18446744073709551616) : binEv .fdiv (.int a) (.int b) st = .ok (.int (a / b)) st := by simp [binEv, opI, div_ok, h1, h2]
theorem add_n (a b : Int) (st : Sto) : binEv .add (.int a) (.int b) st = .ok (.int (a + b)) st := rfl
theorem sub_n (a b : Int) (st : Sto) : binEv .sub (.int a) (.int b) st = .ok (.int (a - b)) st := rfl
theorem mul_n (a b : Int) (st : Sto) (h1 : -10000000 ≤ b) (h2 : b ≤ 10000000) : binEv .mul (.int a) (.int b) st = .ok (.int (a * b)) st := by simp [binEv, opI, mul_r, h1, h2, show (-18446744073709551616 : Int) < b by omega, show b < 18446744073709551616 by omega]
theorem pick_ok {c : Cn} {l : Env} {st st' : Sto} {es : List Xp} {i : Xp} {L : List Int} {x : Int} (he : evs c es l st = .ok (iL L) st) (hi : ev c false i l st = .ok (.int x) st') (h0 : 0 ≤ x) (hx : x < L.length) (hz : L.length ≤ 1000) :
    ev c false (.idx (.lst false es) i) l st = .ok (.int (gi L x.toNat)) st' := by
  have hz' : (iL L).length ≤ sizeLine := by rw [iL_len]; show _ ≤ 2 ^ 24; omega
  have e := gi_at (l := L) (k := x.toNat) (z := x) (by omega) (by omega)
  rw [ev, ev]
  simp only [he, R.bind_ok, hz', if_true, newL, fin_false, hi, idxEv, sview, e]
theorem gi_in {l : List Int} {lo hi : Int} (h : ∀ z ∈ l, lo ≤ z ∧ z ≤ hi) {k : Nat} (hk : k < l.length) : lo ≤ gi l k ∧ gi l k ≤ hi := by
  have : gi l k = l[k] := by simp [gi, hk]
  rw [this]
  exact h _ (List.getElem_mem hk)
def cutM (vs : List Int) (h w : Nat) : List (List Int) := (List.range h).map fun d => (vs.drop (d * w)).take w
theorem cutM_pic {vs : List Int} {h w : Nat} (hl : vs.length = h * w) (hv : ∀ z ∈ vs, 0 ≤ z ∧ z ≤ 255) (hh : sideB h = true) (hw : sideB w = true) : Pic (cutM vs h w) h w := by
  have h1 := sideB_iff.mp hh
  have w1 := sideB_iff.mp hw
  have row : ∀ r ∈ cutM vs h w, r.length = w ∧ ∀ z ∈ r, 0 ≤ z ∧ z ≤ 255 := fun r hr => by
    obtain ⟨d, hd, rfl⟩ := List.mem_map.mp hr
    have hd := List.mem_range.mp hd
    have : d * w + w ≤ h * w := by
      rw [← Nat.succ_mul]
      exact Nat.mul_le_mul_right _ hd
    refine ⟨by rw [List.length_take, List.length_drop, hl]; omega, fun z hz => hv z (List.mem_of_mem_drop (List.mem_of_mem_take hz))⟩
  exact ⟨⟨by simp [cutM], fun r hr => (row r hr).1, by omega, by omega, by omega, by omega⟩, row, hh, hw⟩
def wrL (l : List Val) (d : Nat) (u : Val) : List Val := l.take d ++ [u] ++ l.drop (d + 1)
theorem vks_wr {l : List Val} {d : Nat} {u : Val} (hl : vks l = true) (hu : vk u = true) : vks (wrL l d u) = true := by
  unfold wrL
  refine vks_app (vks_app ?_ ?_) ?_
  · exact vks_all' fun v hv => vks_in hl v (List.mem_of_mem_take hv)
  · rw [vks, hu]; rfl
  · exact vks_all' fun v hv => vks_in hl v (List.mem_of_mem_drop hv)
theorem wr_set {l : List Val} {d : Nat} {u : Val} (hd : d < l.length) : wrL l d u = l.set d u := by
  unfold wrL
  rw [List.set_eq_take_append_cons_drop, if_pos hd]
  simp
structure Ek (k b : Nat) (u : Val) : Prop where
  ok : vk u = true
  blk : vblk u ≤ b
  dep : vdep u ≤ k
theorem Ek.mono {k b k' b' : Nat} {u : Val} (h : Ek k b u) (h1 : k ≤ k') (h2 : b ≤ b') : Ek k' b' u := ⟨h.ok, Nat.le_trans h.blk h2, Nat.le_trans h.dep h1⟩
theorem ek_blks {b : Nat} : ∀ {l : List Val}, (∀ u ∈ l, vblk u ≤ b) → vblks l ≤ l.length * (b + 1)
  | [], _ => by simp [vblks]
  | x :: l, h => by
    have h1 := h x List.mem_cons_self
    have h2 := ek_blks fun u hu => h u (List.mem_cons_of_mem x hu)
    rw [vblks, List.length_cons, Nat.succ_mul]
    omega
theorem ek_deps {k : Nat} : ∀ {l : List Val}, (∀ u ∈ l, vdep u ≤ k) → vdeps l ≤ k
  | [], _ => Nat.zero_le _
  | x :: l, h => by
    have h1 := h x List.mem_cons_self
    have h2 := ek_deps fun u hu => h u (List.mem_cons_of_mem x hu)
    rw [vdeps]
    omega
theorem ek_tup {k b n : Nat} {l : List Val} (h : ∀ u ∈ l, Ek k b u) (hn : l.length ≤ n) : Ek (k + 1) (n * (b + 1)) (.tup l) := by
  refine ⟨by rw [vk]; exact vks_all' fun u hu => (h u hu).ok, ?_, ?_⟩
  · have := ek_blks fun u hu => (h u hu).blk
    rw [vblk]
    exact Nat.le_trans this (Nat.mul_le_mul_right _ hn)
  · have := ek_deps fun u hu => (h u hu).dep
    rw [vdep]
    omega
theorem ek_lst {k b n : Nat} {l : List Val} (h : ∀ u ∈ l, Ek k b u) (hn : l.length ≤ n) : Ek (k + 1) (n * (b + 1)) (.lst l) := by
  refine ⟨by rw [vk]; exact vks_all' fun u hu => (h u hu).ok, ?_, ?_⟩
  · have := ek_blks fun u hu => (h u hu).blk
    rw [vblk]
    exact Nat.le_trans this (Nat.mul_le_mul_right _ hn)
  · have := ek_deps fun u hu => (h u hu).dep
    rw [vdep]
    omega
theorem ek_int {k b : Nat} (z : Int) : Ek k b (.int z) := ⟨rfl, Nat.zero_le _, Nat.zero_le _⟩
theorem ek_ints {k b : Nat} {l : List Int} : ∀ u ∈ iL l, Ek k b u := fun u hu => by
  obtain ⟨z, _, rfl⟩ := List.mem_map.mp hu
  exact ek_int z
theorem ek_row {r : List Int} {n : Nat} (h : r.length ≤ n) : Ek 1 n (.tup (iL r)) := by
  have := ek_tup (k := 0) (b := 0) (n := n) (ek_ints (l := r)) (by rw [iL_len]; exact h)
  rw [Nat.zero_add, Nat.mul_one] at this
  exact this
theorem pic_inv {l : List Val} (h : isPic (.tup l) = true) : sideB l.length = true ∧ ∃ c : Nat, sideB c = true ∧ ∀ u ∈ l, ∃ r, u = .tup r ∧ r.length = c ∧ r.all (nbB 256) = true := by
  unfold isPic at h
  simp only [Bool.and_eq_true] at h
  obtain ⟨h1, h2⟩ := h
  refine ⟨h1, ?_⟩
  cases e : l[0]? with
  | none =>
    rw [e] at h2
    cases h2
  | some r0 =>
    rw [e] at h2
    cases r0 with
    | tup r =>
      simp only [Bool.and_eq_true] at h2
      refine ⟨r.length, h2.1, fun u hu => ?_⟩
      have := List.all_eq_true.mp h2.2 u hu
      cases u with
      | tup q =>
        simp only [pRowB, Bool.and_eq_true, decide_eq_true_eq] at this
        exact ⟨q, rfl, this.1, this.2⟩
      | _ => cases this
    | _ => cases h2
structure Sp (v : Val) : Prop where
  pk : Pk v
  dep : vdep v ≤ 50
  no : isPic v = false
theorem no_pic {v : Val} (h : isPic v = true → False) : isPic v = false := by
  cases q : isPic v with
  | false => rfl
  | true => exact (h q).elim
theorem sp_of {v : Val} {k b : Nat} (h : Ek k b v) (hk : k ≤ 50) (hb : b ≤ 90000) (hn : isPic v = false) : Sp v := ⟨⟨h.ok, Nat.le_trans h.blk hb⟩, Nat.le_trans h.dep hk, hn⟩
theorem row_mem {M : List (List Int)} {h w : Nat} (hM : Pic M h w) : ∀ u ∈ rows M, ∃ r : List Int, u = .tup (iL r) ∧ r.length = w := fun u hu => by
  obtain ⟨r, hr, rfl⟩ := List.mem_map.mp hu
  exact ⟨r, rfl, hM.1.col r hr⟩
theorem ek_rows {M : List (List Int)} {h w : Nat} (hM : Pic M h w) : ∀ u ∈ rows M, Ek 1 200 u := fun u hu => by
  obtain ⟨r, rfl, hr⟩ := row_mem hM u hu
  have := hM.1.c1
  exact (ek_row (Nat.le_refl _)).mono (Nat.le_refl _) (by omega)
theorem wr_mem {l : List Val} {d : Nat} {u v : Val} (h : v ∈ wrL l d u) : v ∈ l ∨ v = u := by
  unfold wrL at h
  rcases List.mem_append.mp h with h | h
  · rcases List.mem_append.mp h with h | h
    · exact .inl (List.mem_of_mem_take h)
    · exact .inr (List.mem_singleton.mp h)
  · exact .inl (List.mem_of_mem_drop h)
theorem wr_in {l : List Val} {d : Nat} {u : Val} : u ∈ wrL l d u := by
  unfold wrL
  simp
theorem wr_len {l : List Val} {d : Nat} {u : Val} (hd : d < l.length) : (wrL l d u).length = l.length := by rw [wr_set hd, List.length_set]
/-- a bad row makes no picture -/
theorem sp_row {M : List (List Int)} {h w d : Nat} {u : Val} (hM : Pic M h w) (hd : d < h) (hu : Ek 3 1000 u) (hb : ∀ r, u = .tup r → r.length = w → r.all (nbB 256) = true → False) : Sp (.tup (wrL (rows M) d u)) := by
  have h1 := hM.1.r1
  have hl : (rows M).length = h := by rw [rows_len, hM.1.len]
  have hlen : (wrL (rows M) d u).length = h := by rw [wr_len (by omega), hl]
  refine sp_of (ek_tup (k := 3) (b := 1000) (n := 80) (fun v hv => ?_) (by
    have := sideB_iff.mp hM.2.2.1
    omega)) (by decide) (by decide) (no_pic fun q => ?_)
  · rcases wr_mem hv with z | rfl
    · exact (ek_rows hM v z).mono (by decide) (by decide)
    · exact hu
  · obtain ⟨_, c, _, hall⟩ := pic_inv q
    obtain ⟨r, er, hr, hn⟩ := hall u wr_in
    -- another row
    obtain ⟨e, he, hne⟩ : ∃ e, e < h ∧ e ≠ d := by
      have := sideB_iff.mp hM.2.2.1
      by_cases hd0 : d = 0
      · exact ⟨1, by omega, by omega⟩
      · exact ⟨0, by omega, by omega⟩
    have hm : (rows M)[e]'(by omega) ∈ wrL (rows M) d u := by
      rw [wr_set (by omega)]
      refine List.mem_iff_getElem.mpr ⟨e, by rw [List.length_set]; omega, ?_⟩
      rw [List.getElem_set_ne (by omega)]
    obtain ⟨r2, er2, hr2, _⟩ := hall _ hm
    obtain ⟨r3, er3, hr3⟩ := row_mem hM _ (List.getElem_mem (by omega : e < (rows M).length))
    rw [er3] at er2
    injection er2 with er2
    rw [← er2, iL_len, hr3] at hr2
    exact hb r er (by omega) hn
theorem sp_val {M : List (List Int)} {h w d a : Nat} {u : Val} (hM : Pic M h w) (hd : d < h) (ha : a < w) (hu : Ek 1 10 u) (hb : nbB 256 u = false) : Sp (.tup (wrL (rows M) d (.tup (wrL (iL (gr M d)) a u)))) := by
  have hdl : d < M.length := by rw [hM.1.len]; exact hd
  have hrl := hM.1.col _ (gr_mem hdl)
  have hw1 := sideB_iff.mp hM.2.2.2
  refine sp_row hM hd ((ek_tup (k := 1) (b := 10) (n := 40) (fun v hv => ?_) (by rw [wr_len (by rw [iL_len]; omega), iL_len]; omega)).mono (by decide) (by decide)) fun r hr hl hn => ?_
  · rcases wr_mem hv with z | rfl
    · exact ek_ints v z
    · exact hu
  · injection hr with hr
    have := List.all_eq_true.mp hn u (by rw [← hr]; exact wr_in)
    rw [hb] at this
    cases this
theorem menu_ok {c : Cn} {l : Env} {st : Sto} {p k : Nat} {L : List Val} {i : Xp} {a : Xp} {z : Int} (ha : ev c false a l st = .ok (.ref p) st) (hp : st[p]? = some (.lst L)) (hi : ev c false i l st = .ok (.int z) st) (hz : z = k) (hk : k < L.length) : ev c false (.idx a i) l st = .ok L[k] st := by
  have : L2.atI L z = some L[k] := by rw [hz]; exact atI_nat hk
  rw [ev, ha]
  simp only [R.bind_ok, hi, fin_false, idxEv, sview, hp, this]
theorem gi_nn {l : List Int} (h : ∀ z ∈ l, (0 : Int) ≤ z ∧ z < 10000000) {k : Nat} (hk : k < l.length) : 0 ≤ gi l k ∧ gi l k < 10000000 := by
  have : gi l k = l[k] := by simp [gi, hk]
  rw [this]
  exact h _ (List.getElem_mem hk)
theorem dl_at {ds : List Int} {k : Nat} {z : Int} (hz : z = k) (hk : k < ds.length) (st : Sto) : idxEv (.lst (iL ds)) (.int z) st = .ok (.int (gi ds k)) st := by
  subst hz
  have : L2.atI (iL ds) (k : Int) = some (.int (gi ds k)) := gi_at hk rfl
  unfold idxEv
  simp only [sview, this]
end Pv

set_option Elab.async false
set_option linter.all false
set_option maxRecDepth 100000
set_option maxHeartbeats 1000000
/-! Texts as lists of signs. -/
namespace Pv
open PySem
abbrev tX (l : List Nat) : Val := .str (SX.S l)
def FIG : List Nat := [48, 49, 50, 51, 52, 53, 54, 55, 56, 57, 97, 98, 99, 100, 101, 102]
theorem fig_S : Val.str (Str.ofString "0123456789abcdef") = tX FIG := by
  have : Str.ofString "0123456789abcdef" = SX.S FIG := by decide +kernel
  rw [this]
theorem sl_S : Val.str (Str.ofString "/") = tX [47] := by
  have : Str.ofString "/" = SX.S [47] := by decide +kernel
  rw [this]
theorem nil_S : Val.str (Str.ofString "") = tX [] := by
  have : Str.ofString "" = SX.S [] := by decide +kernel
  rw [this]
theorem sz_S {n : Nat} (h : n ≤ 1000000) : n ≤ sizeLine := by
  show n ≤ 2 ^ 24
  omega
theorem len_S {l : List Nat} (h : l.length ≤ 1000000) (st : Sto) : bfEv .len [tX l] st = .ok (.int (l.length : Nat)) st := by
  have e : (SX.S l).length = l.length := SX.S_len l
  simp only [bfEv, sview, e]
  rw [if_pos (sz_S h)]
theorem idx_S {l : List Nat} {k : Nat} {z : Int} (hz : z = k) (hk : k < l.length) (h : l.length ≤ 1000000) (st : Sto) : idxEv (tX l) (.int z) st = .ok (tX [l.getD k 0]) st := by
  subst hz
  have e : (SX.S l).length = l.length := SX.S_len l
  have e2 : L2.atI l (k : Int) = some l[k] := atI_nat hk
  have e3 : l.getD k 0 = l[k] := by simp [hk]
  unfold idxEv
  simp only [sview]
  rw [e2, e]
  simp only
  rw [if_pos (sz_S h), e3]
theorem cut_key (l : List Nat) (a b : Nat) : (l.drop (min a l.length)).take (min b l.length - min a l.length) = (l.drop a).take (b - a) := by
  by_cases ha : a ≤ l.length
  · rw [Nat.min_eq_left ha]
    by_cases hb : b ≤ l.length
    · rw [Nat.min_eq_left hb]
    · rw [Nat.min_eq_right (by omega), List.take_of_length_le (by rw [List.length_drop]; omega), List.take_of_length_le (by rw [List.length_drop]; omega)]
  · rw [show min a l.length = l.length by omega, List.drop_of_length_le (Nat.le_refl _), List.drop_of_length_le (show l.length ≤ a by omega)]
    simp
theorem slc_S (m : Bool) (l : List Nat) (a b : Nat) {x y : Int} (hx : x = a) (hy : y = b) (h : l.length ≤ 1000000) (st : Sto) : slcEv m (tX l) (some x) (some y) st = .ok (tX ((l.drop a).take (b - a))) st := by
  subst hx hy
  have e : (SX.S l).length = l.length := SX.S_len l
  unfold slcEv
  simp only [e]
  rw [if_pos (sz_S h)]
  unfold L2.cutS
  rw [e, HT.sIx_nat, HT.sIx_nat]
  have e4 : (SX.S l).cps.toList = l := by simp [SX.S]
  rw [e4]
  rw [cut_key]
theorem slo_S (m : Bool) (l : List Nat) (b : Nat) {y : Int} (hy : y = b) (h : l.length ≤ 1000000) (st : Sto) : slcEv m (tX l) none (some y) st = .ok (tX (l.take b)) st := by
  have := slc_S m l 0 b (x := 0) rfl hy h st
  rw [List.drop_zero, Nat.sub_zero] at this
  rw [← this]
  have e : (SX.S l).length = l.length := SX.S_len l
  unfold slcEv
  simp only [e]
  rfl
theorem shi_S (m : Bool) (l : List Nat) (a : Nat) {x : Int} (hx : x = a) (h : l.length ≤ 1000000) (st : Sto) : slcEv m (tX l) (some x) none st = .ok (tX (l.drop a)) st := by
  have := slc_S m l a l.length hx rfl h st
  rw [List.take_of_length_le (by rw [List.length_drop]; omega)] at this
  rw [← this]
  have e : (SX.S l).length = l.length := SX.S_len l
  unfold slcEv
  simp only [e]
  unfold L2.cutS
  rw [e, HT.sIx_nat]
  have : HT.sIx l.length l.length none = l.length := rfl
  rw [this, Nat.min_self]
theorem cat_S (a b : List Nat) (h : a.length + b.length ≤ 1000000) (st : Sto) : binEv .add (tX a) (tX b) st = .ok (tX (a ++ b)) st := by
  have e1 : (SX.S a).length = a.length := SX.S_len a
  have e2 : (SX.S b).length = b.length := SX.S_len b
  simp only [binEv, e1, e2]
  rw [if_pos (sz_S h), SX.S_cat]
theorem dec_S (a b : List Nat) : decide (SX.S a = SX.S b) = decide (a = b) := by
  by_cases h : a = b
  · subst h
    simp
  · rw [decide_eq_false h, decide_eq_false fun z => h (SX.S_inj z)]
theorem ceq_S (a b : List Nat) (st : Sto) : cmEv .eq (tX a) (tX b) st = .ok (.bl (decide (a = b))) st := by
  simp only [cmEv, eqEv, dec_S]
theorem cne_S (a b : List Nat) (st : Sto) : cmEv .ne (tX a) (tX b) st = .ok (.bl (!decide (a = b))) st := by
  simp only [cmEv, eqEv, dec_S]
theorem cin_S (c : Nat) (l : List Nat) (st : Sto) : cmEv .in' (tX [c]) (tX l) st = .ok (.bl (decide (c ∈ l))) st := by
  simp only [cmEv, inEv, SX.in_one]
theorem cnin_S (c : Nat) (l : List Nat) (st : Sto) : cmEv .nin (tX [c]) (tX l) st = .ok (.bl (!decide (c ∈ l))) st := by
  simp only [cmEv, inEv, SX.in_one]
def dig (v : Nat) : Nat := if v < 10 then 48 + v else 87 + v
def vl (c : Nat) : Nat := if c < 58 then c - 48 else c - 87
theorem dig_fig {v : Nat} (h : v < 16) : dig v ∈ FIG := (by decide : ∀ v < 16, dig v ∈ FIG) v h
theorem vl_dig {v : Nat} (h : v < 16) : vl (dig v) = v := (by decide : ∀ v < 16, vl (dig v) = v) v h
theorem fig_vl {c : Nat} (h : c ∈ FIG) : vl c < 16 ∧ dig (vl c) = c := (by decide : ∀ c ∈ FIG, vl c < 16 ∧ dig (vl c) = c) c h
theorem fig_no {c : Nat} (h : c ∈ FIG) : c ≠ 47 := (by decide : ∀ c ∈ FIG, c ≠ 47) c h
theorem occ_fig : ∀ v < 16, Builtin.Str.occurrences (SX.S FIG) (SX.S [dig v]) 0 16 1 = [v] := by decide +kernel
theorem ixs_S {c : Nat} (h : c ∈ FIG) (st : Sto) : ixsEv (tX FIG) (tX [c]) st = .ok (.int (vl c : Nat)) st := by
  have e := occ_fig (vl c) (fig_vl h).1
  rw [(fig_vl h).2] at e
  have e1 : (SX.S FIG).length = 16 := rfl
  unfold ixsEv
  simp only [e1, e]
theorem strL_S (l : List Nat) : strL (SX.S l) = l.map fun c => tX [c] := by
  unfold strL
  simp [SX.S]
theorem jn_S (a : List Nat) (ys : List (List Nat)) (h : (ys.map (·.length)).sum + ys.length * a.length ≤ 1000000) (st : Sto) : jnEv (tX a) (.lst (ys.map fun y => tX y)) st = .ok (tX (TL.joinL a ys)) st := by
  have eA : ∀ ys : List (List Nat), allS (ys.map fun y => tX y) = some (ys.map SX.S) := fun ys => by
    induction ys with
    | nil => rfl
    | cons y ys ih =>
      rw [List.map_cons, List.map_cons]
      show (allS _).map (SX.S y :: ·) = _
      rw [ih]
      rfl
  have e1 : (SX.S a).length = a.length := SX.S_len a
  have e2 : (ys.map SX.S).map (·.length) = ys.map (·.length) := SX.lens ys
  unfold jnEv
  simp only [lview, Option.bind_some, eA]
  rw [e2, e1, List.length_map, if_pos (by omega), SX.join_S]
theorem spl_S (m : Bool) (a : List Nat) (c : Nat) (hc : c < 256) (h : a.length ≤ 1000000) (st : Sto) : splEv m (tX a) (tX [c]) st = newL m ((TL.spl [c] 0 [] a).map fun y => tX y) st := by
  have e1 : (SX.S a).length = a.length := SX.S_len a
  have e2 : (SX.S [c]).length = 1 := SX.S_len [c]
  unfold splEv
  simp only [e1, e2]
  rw [if_pos ⟨rfl, by show _ ≤ 2 ^ 24; omega⟩, SX.split_S (by simp) (by simp [hc]), List.map_map]
  rfl
end Pv

set_option Elab.async false
set_option linter.all false
set_option maxRecDepth 100000
set_option maxHeartbeats 1000000
set_option exponentiation.threshold 600
/-! Drawn values. -/
namespace Pv
open PySem
theorem lg_lt {n : Nat} (h : n < 2 ^ 500) : n.log2 < 500 := by
  by_cases h0 : n = 0
  · rw [h0]
    decide
  · exact (Nat.log2_lt h0).mpr h
theorem div_big {x y : Int} (h1 : 0 < y) (h2 : y < 2 ^ 500) : divOk x y := by
  have : y.natAbs < 2 ^ 500 := by omega
  exact ⟨h1, .inl (Nat.lt_trans (lg_lt this) (by decide))⟩
theorem mul_big {x y : Int} (h1 : x.natAbs < 2 ^ 500) (h2 : y.natAbs < 2 ^ 500) : mulOk x y := by
  have a := lg_lt h1
  have b := lg_lt h2
  exact .inr (.inr (by omega))
theorem drB_ok (n0 : Nat) (z most : Int) (m : Nat) (st : Sto) (hm : m ≤ 10000) (hb : 0 < most) (hb2 : most < 2 ^ 500) :
    ∃ ds : List Int, ds.length = m ∧ (∀ d ∈ ds, 0 ≤ d ∧ d < most) ∧ runF tabT tabG (n0 + 1) 1 [.int z, .int m, .int most] st = .ok (.lst (iL ds)) st := by
  obtain ⟨v, ⟨ds, rfl, h1, h2⟩, e⟩ := call_W (T := tabT) (G := tabG) (n := n0) (i := 1) (d := f_l_draws) (args := [.int z, .int m, .int most]) (st := st) (fun v => ∃ ds : List Int, v = .lst (iL ds) ∧ ds.length = m ∧ ∀ d ∈ ds, 0 ≤ d ∧ d < most) rfl rfl (by
    show W (evSs _ (_ :: _ :: f_l_draws.body.drop 2) [some (.int z), some (.int m), some (.int most), none, none, none, none, none, none] st) _
    refine W_set (v := .int 0) (st' := st) (by simp only [ev, evs, evk, evf, evi, evo, fin_false, fin_bl, List.getElem?_cons_zero, List.getElem?_cons_succ, List.set_cons_succ, List.set_cons_zero, Pv.R.bind_ok, putK0]) ?_
    simp only [List.set_cons_succ, List.set_cons_zero]
    have z0 : (0 : Nat) ≤ sizeLine := Nat.zero_le _
    have b2 : ∀ (z : Int) st, bfEv .int [.int z] st = .ok (.int z) st := fun _ _ => rfl
    have md : ∀ (a b : Int) st, 0 < b → True → binEv .mod (.int a) (.int b) st = .ok (.int (a % b)) st := fun a b st h1 h2 => by simp [binEv, opI, h1]
    have ml : ∀ (a b : Int) st, mulOk a b → binEv .mul (.int a) (.int b) st = .ok (.int (a * b)) st := fun a b st h => by simp [binEv, opI, h]
    have ad : ∀ (a b : Int) st, binEv .add (.int a) (.int b) st = .ok (.int (a + b)) st := fun _ _ _ => rfl
    have main : ∀ left : Int, W (evSs ⟨runF tabT tabG n0, tabG⟩ (f_l_draws.body.drop 2) [some (.int z), some (.int m), some (.int most), some (.int left), none, none, none, none, none] st)
        { N := fun _ st' => (∃ e, st' = st ++ e) ∧ ∃ ds : List Int, Val.non = .lst (iL ds) ∧ ds.length = m ∧ ∀ d ∈ ds, 0 ≤ d ∧ d < most, R := fun v st' => (∃ e, st' = st ++ e) ∧ belowV st.length v = true ∧ ∃ ds : List Int, v = .lst (iL ds) ∧ ds.length = m ∧ ∀ d ∈ ds, 0 ≤ d ∧ d < most } := by
      intro left0
      show W (evSs _ (_ :: _ :: _ :: _ :: []) _ _) _
      refine W_set (v := .ref st.length) (st' := st ++ [.lst []]) (by simp only [ev, evs, evk, evf, evi, evo, fin_false, fin_bl, List.getElem?_cons_zero, List.getElem?_cons_succ, List.set_cons_succ, List.set_cons_zero, Pv.R.bind_ok, putK0, newL, List.length_nil, z0, if_true]) ?_
      simp only [List.set_cons_succ, List.set_cons_zero]
      refine W_fr0 (drI z most m st) (n := m) (by simp only [ev, evs, evk, evf, evi, evo, fin_false, fin_bl, List.getElem?_cons_zero, List.getElem?_cons_succ, List.set_cons_succ, List.set_cons_zero, Pv.R.bind_ok, putK0]; exact rng_n (by omega) _) ⟨left0, none, none, none, none, [], rfl, rfl, rfl, fun d hd => by cases hd⟩ ?_ ?_
      · rintro j l s hj ⟨left, x5, x6, x7, x8, ds, rfl, rfl, hl, hd⟩
        simp only [List.set_cons_succ, List.set_cons_zero]
        have hz : (iL ds).length < sizeLine := by rw [iL_len, hl]; show j < 2 ^ 24; omega
        have el : (st ++ [Ob.lst (iL ds)])[st.length]? = some (.lst (iL ds)) := by simp
        have es : ∀ o, (st ++ [Ob.lst (iL ds)]).set st.length o = st ++ [o] := fun o => by simp
        have cg : ∀ st, cmEv .ge (.int left) (.int most) st = .ok (.bl (decide (most ≤ left))) st := fun _ => rfl
        have mm := fun a st => md a most st hb trivial
        by_cases hp : most ≤ left
        · rw [decide_eq_true hp] at cg
          refine W_if1 (st' := st ++ [.lst (iL ds)]) (by simp only [ev, evs, evk, evf, evi, evo, fin_false, fin_bl, List.getElem?_cons_zero, List.getElem?_cons_succ, List.set_cons_succ, List.set_cons_zero, Pv.R.bind_ok, putK0, cg]) ?_
          rw [List.cons_append, List.cons_append, List.nil_append]
          refine W_exp (v := .non) (st' := st ++ [.lst (iL (ds ++ [left % most]))]) (by simp only [ev, evs, evk, evf, evi, evo, fin_false, fin_bl, List.getElem?_cons_zero, List.getElem?_cons_succ, List.set_cons_succ, List.set_cons_zero, Pv.R.bind_ok, putK0, mlist, el, b2, mm, appEv, hz, if_true, es, iL_snoc]) ?_
          have fd : ∀ st, binEv .fdiv (.int left) (.int most) st = .ok (.int (left / most)) st := fun st => by
            simp [binEv, opI, div_big hb hb2]
          refine W_set (v := .int (left / most)) (st' := st ++ [.lst (iL (ds ++ [left % most]))]) (by simp only [ev, evs, evk, evf, evi, evo, fin_false, fin_bl, List.getElem?_cons_zero, List.getElem?_cons_succ, List.set_cons_succ, List.set_cons_zero, Pv.R.bind_ok, putK0, fd]) ?_
          simp only [List.set_cons_succ, List.set_cons_zero]
          exact W_end ⟨_, _, _, _, _, ds ++ [left % most], rfl, rfl, by simp [hl], snoc_all hd ⟨Int.emod_nonneg _ (by omega), Int.emod_lt_of_pos _ hb⟩⟩
        · rw [decide_eq_false hp] at cg
          refine W_if0 (st' := st ++ [.lst (iL ds)]) (by simp only [ev, evs, evk, evf, evi, evo, fin_false, fin_bl, List.getElem?_cons_zero, List.getElem?_cons_succ, List.set_cons_succ, List.set_cons_zero, Pv.R.bind_ok, putK0, cg]) ?_
          rw [List.cons_append, List.cons_append, List.cons_append, List.cons_append, List.nil_append]
          obtain ⟨f, hf⟩ : ∃ f, f = (z * 48271 + ((j : Int) + 1) * 69621) % 2147483647 := ⟨_, rfl⟩
          obtain ⟨g, hg⟩ : ∃ g, g = (f * f + ((j : Int) + 1) * 40692) % 2147483399 := ⟨_, rfl⟩
          obtain ⟨k, hk⟩ : ∃ k, k = (g * g + f) % 2147483647 := ⟨_, rfl⟩
          have fb : 0 ≤ f ∧ f < 2147483647 := by rw [hf]; exact ⟨Int.emod_nonneg _ (by decide), Int.emod_lt_of_pos _ (by decide)⟩
          have gb : 0 ≤ g ∧ g < 2147483399 := by rw [hg]; exact ⟨Int.emod_nonneg _ (by decide), Int.emod_lt_of_pos _ (by decide)⟩
          have q1 := fun st => ml z 48271 st (mul_r (by decide) (by decide))
          have q2 := fun st => ml ((j : Int) + 1) 69621 st (mul_r (by decide) (by decide))
          have q3 := fun st => md (z * 48271 + ((j : Int) + 1) * 69621) 2147483647 st (by decide) trivial
          rw [← hf] at q3
          refine W_set (v := .int f) (st' := st ++ [.lst (iL ds)]) (by simp only [ev, evs, evk, evf, evi, evo, fin_false, fin_bl, List.getElem?_cons_zero, List.getElem?_cons_succ, List.set_cons_succ, List.set_cons_zero, Pv.R.bind_ok, putK0, q1, q2, ad, b2, q3]) ?_
          simp only [List.set_cons_succ, List.set_cons_zero]
          have q4 := fun st => ml f f st (mul_l (by omega) (by omega))
          have q5 := fun st => ml ((j : Int) + 1) 40692 st (mul_r (by decide) (by decide))
          have q6 := fun st => md (f * f + ((j : Int) + 1) * 40692) 2147483399 st (by decide) trivial
          rw [← hg] at q6
          refine W_set (v := .int g) (st' := st ++ [.lst (iL ds)]) (by simp only [ev, evs, evk, evf, evi, evo, fin_false, fin_bl, List.getElem?_cons_zero, List.getElem?_cons_succ, List.set_cons_succ, List.set_cons_zero, Pv.R.bind_ok, putK0, q4, q5, ad, b2, q6]) ?_
          simp only [List.set_cons_succ, List.set_cons_zero]
          have q7 := fun st => ml g g st (mul_l (by omega) (by omega))
          have q8 := fun st => md (g * g + f) 2147483647 st (by decide) trivial
          rw [← hk] at q8
          refine W_set (v := .int k) (st' := st ++ [.lst (iL ds)]) (by simp only [ev, evs, evk, evf, evi, evo, fin_false, fin_bl, List.getElem?_cons_zero, List.getElem?_cons_succ, List.set_cons_succ, List.set_cons_zero, Pv.R.bind_ok, putK0, q7, ad, b2, q8]) ?_
          simp only [List.set_cons_succ, List.set_cons_zero]
          refine W_exp (v := .non) (st' := st ++ [.lst (iL (ds ++ [k % most]))]) (by simp only [ev, evs, evk, evf, evi, evo, fin_false, fin_bl, List.getElem?_cons_zero, List.getElem?_cons_succ, List.set_cons_succ, List.set_cons_zero, Pv.R.bind_ok, putK0, mlist, el, mm, appEv, hz, if_true, es, iL_snoc]) ?_
          exact W_end ⟨_, _, _, _, _, ds ++ [k % most], rfl, rfl, by simp [hl], snoc_all hd ⟨Int.emod_nonneg _ (by omega), Int.emod_lt_of_pos _ hb⟩⟩
      · rintro l s ⟨left, x5, x6, x7, x8, ds, rfl, rfl, hl, hd⟩
        have el : (st ++ [Ob.lst (iL ds)])[st.length]? = some (.lst (iL ds)) := by simp
        refine W_frz (n := st.length) rfl el (thaw_ints ds) ?_
        simp only [List.set_cons_succ, List.set_cons_zero]
        exact W_rt (v := .lst (iL ds)) (st' := st ++ [.gone]) (by
          simp only [killAll]
          simp only [ev, evs, evk, evf, evi, evo, fin_false, fin_bl, List.getElem?_cons_zero, List.getElem?_cons_succ, List.set_cons_succ, List.set_cons_zero, Pv.R.bind_ok, putK0]
          simp) ⟨⟨[.gone], rfl⟩, by simp only [belowV]; exact below_ints _ _, ds, rfl, hl, hd⟩
    have pw : ∀ st, binEv .pow (.int 10) (.int 18) st = .ok (.int 1000000000000000000) st := fun st => by simp [binEv, opI, powOk]
    have cg : ∀ st, cmEv .ge (.int z) (.int 1000000000000000000) st = .ok (.bl (decide ((1000000000000000000 : Int) ≤ z))) st := fun _ => rfl
    by_cases hc : (1000000000000000000 : Int) ≤ z
    · rw [decide_eq_true hc] at cg
      refine W_if1 (st' := st) (by simp only [ev, evs, evk, evf, evi, evo, fin_false, fin_bl, List.getElem?_cons_zero, List.getElem?_cons_succ, List.set_cons_succ, List.set_cons_zero, Pv.R.bind_ok, putK0, pw, cg]) ?_
      rw [List.cons_append, List.nil_append]
      refine W_set (v := .int z) (st' := st) (by simp only [ev, evs, evk, evf, evi, evo, fin_false, fin_bl, List.getElem?_cons_zero, List.getElem?_cons_succ, List.set_cons_succ, List.set_cons_zero, Pv.R.bind_ok, putK0]) ?_
      simp only [List.set_cons_succ, List.set_cons_zero]
      exact main z
    · rw [decide_eq_false hc] at cg
      refine W_if0 (st' := st) (by simp only [ev, evs, evk, evf, evi, evo, fin_false, fin_bl, List.getElem?_cons_zero, List.getElem?_cons_succ, List.set_cons_succ, List.set_cons_zero, Pv.R.bind_ok, putK0, pw, cg]) ?_
      rw [List.nil_append]
      exact main 0)
  exact ⟨ds, h1, h2, e⟩
mutual
theorem below_vk (n : Nat) : ∀ v : Val, vk v = true → belowV n v = true
  | .non, _ => rfl
  | .bl _, _ => rfl
  | .int _, _ => rfl
  | .str _, _ => rfl
  | .tup l, h => by
    rw [belowV]
    exact below_vks n l (by simpa [vk] using h)
  | .lst l, h => by
    rw [belowV]
    exact below_vks n l (by simpa [vk] using h)
  | .scr _, h => by simp [vk] at h
  | .ref _, h => by simp [vk] at h
  | .rng _ _ _, h => by simp [vk] at h
  | .exc _ _, h => by simp [vk] at h
  | .gtp _, h => by simp [vk] at h
theorem below_vks (n : Nat) : ∀ l : List Val, vks l = true → belowVs n l = true
  | [], _ => rfl
  | v :: l, h => by
    rw [vks, Bool.and_eq_true] at h
    rw [belowVs, below_vk n v h.1, below_vks n l h.2]
    rfl
end
theorem str_ok {T : List Nat} {k : Nat} (h : ∀ c ∈ T, c < 1114112) (hl : T.length ≤ 20) : Ek k 20 (tX T) := by
  refine ⟨?_, ?_, Nat.zero_le _⟩
  · show PyData.strOk (SX.S T) = true
    unfold PyData.strOk
    rw [← Array.all_toList, List.all_eq_true]
    intro c hc
    exact decide_eq_true (h c hc)
  · show (SX.S T).cps.size ≤ 20
    have : (SX.S T).cps.size = T.length := by simp [SX.S]
    omega
def AL1 : List Nat := (Str.ofString "abcdefghijklmnopqrstuvwxyz 0123456789").cps.toList
def AL2 : List Nat := (Str.ofString "abcdefghijklmnopqrstuvwxyz").cps.toList
theorem al1 : AL1.length = 37 ∧ ∀ c ∈ AL1, c < 1114112 := by decide +kernel
theorem al2 : AL2.length = 26 ∧ ∀ c ∈ AL2, c < 1114112 := by decide +kernel
theorem al1_S : Val.str (Str.ofString "abcdefghijklmnopqrstuvwxyz 0123456789") = tX AL1 := by
  show Val.str _ = Val.str (SX.S _)
  unfold AL1
  rw [SX.S_tl]
theorem al2_S : Val.str (Str.ofString "abcdefghijklmnopqrstuvwxyz") = tX AL2 := by
  show Val.str _ = Val.str (SX.S _)
  unfold AL2
  rw [SX.S_tl]
theorem joinL_nil : ∀ ys : List (List Nat), TL.joinL [] ys = ys.flatten
  | [] => rfl
  | [p] => by simp [TL.joinL]
  | p :: q :: r => by
    rw [TL.joinL, joinL_nil (q :: r)]
    simp
theorem ev_jn {c : Cn} {o a : Xp} {l : Env} {st s1 s2 : Sto} {z : List Nat} {y : Val} {r : R Val} (h1 : ev c false o l st = .ok (tX z) s1) (h2 : ev c false a l s1 = .ok y s2) (h3 : jnEv (tX z) y s2 = r) : ev c false (.jn o a) l st = r := by
  rw [ev, h1]
  simp only [R.bind_ok, h2, fin_false, h3]
theorem flat_one {α : Type} (f : α → Nat) (l : List α) : (l.map fun d => [f d]).flatten = l.map f := by
  induction l with
  | nil => rfl
  | cons a l ih => simp [ih]
/-- letters drawn -/
theorem letters (A : List Nat) (L : List Int) (hL : L.length ≤ 20) (st : Sto) : jnEv (tX []) (.lst (L.map fun d => tX [A.getD d.toNat 0])) st = .ok (tX (L.map fun d => A.getD d.toNat 0)) st := by
  have e := jn_S [] (L.map fun d => [A.getD d.toNat 0]) (by
    have : ∀ L : List Int, ((L.map fun d => [A.getD d.toNat 0]).map (·.length)).sum = L.length := fun L => by
      induction L with
      | nil => rfl
      | cons a L ih => rw [List.map_cons, List.map_cons, List.sum_cons, ih, List.length_cons]; simp; omega
    rw [this]
    simp
    omega) st
  rw [joinL_nil, flat_one (fun d : Int => A.getD d.toNat 0), List.map_map] at e
  exact e
theorem text_ok (n0 : Nat) (z : Int) (st : Sto) : ∃ v, (∀ k, Ek k 20 v) ∧ (∃ T, v = tX T ∧ T.length ≤ 12) ∧ runF tabT tabG (n0 + 2) 2 [.int z] st = .ok v st := by
  obtain ⟨v, ⟨h, h2⟩, e⟩ := call_W (T := tabT) (G := tabG) (n := n0 + 1) (i := 2) (d := f_l_text) (args := [.int z]) (st := st) (fun v => (∀ k, Ek k 20 v) ∧ ∃ T, v = tX T ∧ T.length ≤ 12) rfl rfl (by
    show W (evSs _ (_ :: _ :: _ :: []) [some (.int z), none, none, none] st) _
    refine W_set (v := tX AL1) (st' := st) (by
      simp only [ev, evs, evk, evf, evi, evo, fin_false, fin_bl, List.getElem?_cons_zero, List.getElem?_cons_succ, List.set_cons_succ, List.set_cons_zero, Pv.R.bind_ok, putK0]
      rw [al1_S]) ?_
    simp only [List.set_cons_succ, List.set_cons_zero]
    obtain ⟨ds, l1, d1, e2⟩ := drB_ok n0 z 37 13 st (by decide) (by decide) (by decide)
    replace e2 : runF tabT tabG (n0 + 1) 1 [.int z, .int 13, .int 37] st = .ok (.lst (iL ds)) st := e2
    refine W_set (v := .lst (iL ds)) (st' := st) (by simp only [ev, evs, evk, evf, evi, evo, fin_false, fin_bl, List.getElem?_cons_zero, List.getElem?_cons_succ, List.set_cons_succ, List.set_cons_zero, Pv.R.bind_ok, putK0, e2]) ?_
    simp only [List.set_cons_succ, List.set_cons_zero]
    have j0 := fun st => dl_at (ds := ds) (k := 0) (z := 0) rfl (by omega) st
    have m13 := fun st => mod_n (gi ds 0) 13 st (by decide) (by decide)
    obtain ⟨q, hq⟩ : ∃ q : Nat, (q : Int) = gi ds 0 % 13 := ⟨(gi ds 0 % 13).toNat, by omega⟩
    rw [← hq] at m13
    have a1 : ∀ st, binEv .add (.int 1) (.int (q : Nat)) st = .ok (.int ((1 + q : Nat) : Int)) st := fun st => by
      rw [Int.natCast_add]
      rfl
    have sl : ∀ st, slcEv false (.lst (iL ds)) (some 1) (some ((1 + q : Nat) : Int)) st = .ok (.lst (iL ((ds.drop 1).take q))) st := fun st => by
      show newL false (cutL (iL ds) (some ((1 : Nat) : Int)) (some ((1 + q : Nat) : Int))) st = _
      rw [cut_mid (by omega) (by omega), show 1 + q - 1 = q by omega]
      rfl
    obtain ⟨L, hL⟩ : ∃ L, L = (ds.drop 1).take q := ⟨_, rfl⟩
    have hLm : ∀ d ∈ L, 0 ≤ d ∧ d < 37 := fun d hd => by
      rw [hL] at hd
      exact d1 d (List.mem_of_mem_drop (List.mem_of_mem_take hd))
    have hLl : L.length ≤ 12 := by rw [hL, List.length_take]; omega
    rw [← hL] at sl
    have e3 := ev_lcM (c := ⟨runF tabT tabG (n0 + 1), tabG⟩) (m := false) (e := .idx (.var 1) (.var 3)) (tg := .nm 3) (it := .seq (.slc false (.var 2) (some (.num 1)) (some (.bin .add (.num 1) (.bin .mod (.blt .int [.idx (.var 2) (.num 0)]) (.num 13)))))) (l := [some (.int z), some (tX AL1), some (.lst (iL ds)), none]) (st := st) (L := L) (g := fun d => .int d) (h := fun d => tX [AL1.getD d.toNat 0]) (gs := []) (by
      simp only [ev, evs, evk, evf, evi, evo, fin_false, fin_bl, List.getElem?_cons_zero, List.getElem?_cons_succ, List.set_cons_succ, List.set_cons_zero, Pv.R.bind_ok, putK0, j0, i_int, m13, a1, sl, seqV_lst]) guard_nil (fun d hd => ⟨_, rfl, by
        have := hLm d hd
        have ix := fun st => idx_S (l := AL1) (k := d.toNat) (z := d) (by omega) (by rw [al1.1]; omega) (by rw [al1.1]; omega) st
        simp only [Tg.slots, wipeE, List.set_cons_succ, List.set_cons_zero]
        simp only [ev, evs, evk, evf, evi, evo, fin_false, fin_bl, List.getElem?_cons_zero, List.getElem?_cons_succ, List.set_cons_succ, List.set_cons_zero, Pv.R.bind_ok, putK0, ix]⟩) (by show _ ≤ 2 ^ 24; omega)
    have e4 := letters AL1 L (by omega) st
    exact W_rt (v := tX (L.map fun d => AL1.getD d.toNat 0)) (st' := st) (ev_jn (z := []) (by
      simp only [ev, evs, evk, evf, evi, evo, fin_false, fin_bl, List.getElem?_cons_zero, List.getElem?_cons_succ, List.set_cons_succ, List.set_cons_zero, Pv.R.bind_ok, putK0]
      rw [nil_S]) e3 e4) ⟨⟨[], by simp⟩, rfl, fun k => str_ok (fun c hc => by
        obtain ⟨d, hd, rfl⟩ := List.mem_map.mp hc
        have := hLm d hd
        have e : AL1.getD d.toNat 0 = AL1[d.toNat]'(by rw [al1.1]; omega) := by simp [show d.toNat < AL1.length by rw [al1.1]; omega]
        rw [e]
        exact al1.2 _ (List.getElem_mem _)) (by rw [List.length_map]; omega), _, rfl, by rw [List.length_map]; omega⟩)
  exact ⟨v, h, h2, e⟩
theorem word_ok (n0 : Nat) (z : Int) (st : Sto) : ∃ v, (∀ k, Ek k 20 v) ∧ runF tabT tabG (n0 + 2) 3 [.int z] st = .ok v st := by
  obtain ⟨v, h, e⟩ := call_W (T := tabT) (G := tabG) (n := n0 + 1) (i := 3) (d := f_l_word) (args := [.int z]) (st := st) (fun v => ∀ k, Ek k 20 v) rfl rfl (by
    show W (evSs _ (_ :: _ :: []) [some (.int z), none, none] st) _
    obtain ⟨ds, l1, d1, e2⟩ := drB_ok n0 z 26 9 st (by decide) (by decide) (by decide)
    replace e2 : runF tabT tabG (n0 + 1) 1 [.int z, .int 9, .int 26] st = .ok (.lst (iL ds)) st := e2
    refine W_set (v := .lst (iL ds)) (st' := st) (by simp only [ev, evs, evk, evf, evi, evo, fin_false, fin_bl, List.getElem?_cons_zero, List.getElem?_cons_succ, List.set_cons_succ, List.set_cons_zero, Pv.R.bind_ok, putK0, e2]) ?_
    simp only [List.set_cons_succ, List.set_cons_zero]
    have j0 := fun st => dl_at (ds := ds) (k := 0) (z := 0) rfl (by omega) st
    have m8 := fun st => mod_n (gi ds 0) 8 st (by decide) (by decide)
    obtain ⟨q, hq⟩ : ∃ q : Nat, (q : Int) = gi ds 0 % 8 := ⟨(gi ds 0 % 8).toNat, by omega⟩
    rw [← hq] at m8
    have a1 : ∀ st, binEv .add (.int 2) (.int (q : Nat)) st = .ok (.int ((2 + q : Nat) : Int)) st := fun st => by
      rw [Int.natCast_add]
      rfl
    have sl : ∀ st, slcEv false (.lst (iL ds)) (some 1) (some ((2 + q : Nat) : Int)) st = .ok (.lst (iL ((ds.drop 1).take (1 + q)))) st := fun st => by
      show newL false (cutL (iL ds) (some ((1 : Nat) : Int)) (some ((2 + q : Nat) : Int))) st = _
      rw [cut_mid (by omega) (by omega), show 2 + q - 1 = 1 + q by omega]
      rfl
    obtain ⟨L, hL⟩ : ∃ L, L = (ds.drop 1).take (1 + q) := ⟨_, rfl⟩
    have hLm : ∀ d ∈ L, 0 ≤ d ∧ d < 26 := fun d hd => by
      rw [hL] at hd
      exact d1 d (List.mem_of_mem_drop (List.mem_of_mem_take hd))
    have hLl : L.length ≤ 8 := by rw [hL, List.length_take]; omega
    rw [← hL] at sl
    have e3 := ev_lcM (c := ⟨runF tabT tabG (n0 + 1), tabG⟩) (m := false) (e := .idx (.str "abcdefghijklmnopqrstuvwxyz") (.var 2)) (tg := .nm 2) (it := .seq (.slc false (.var 1) (some (.num 1)) (some (.bin .add (.num 2) (.bin .mod (.blt .int [.idx (.var 1) (.num 0)]) (.num 8)))))) (l := [some (.int z), some (.lst (iL ds)), none]) (st := st) (L := L) (g := fun d => .int d) (h := fun d => tX [AL2.getD d.toNat 0]) (gs := []) (by
      simp only [ev, evs, evk, evf, evi, evo, fin_false, fin_bl, List.getElem?_cons_zero, List.getElem?_cons_succ, List.set_cons_succ, List.set_cons_zero, Pv.R.bind_ok, putK0, j0, i_int, m8, a1, sl, seqV_lst]) guard_nil (fun d hd => ⟨_, rfl, by
        have := hLm d hd
        have ix := fun st => idx_S (l := AL2) (k := d.toNat) (z := d) (by omega) (by rw [al2.1]; omega) (by rw [al2.1]; omega) st
        simp only [Tg.slots, wipeE, List.set_cons_succ, List.set_cons_zero]
        simp only [ev, evs, evk, evf, evi, evo, fin_false, fin_bl, List.getElem?_cons_zero, List.getElem?_cons_succ, List.set_cons_succ, List.set_cons_zero, Pv.R.bind_ok, putK0]
        rw [al2_S, ix]⟩) (by show _ ≤ 2 ^ 24; omega)
    have e4 := letters AL2 L (by omega) st
    exact W_rt (v := tX (L.map fun d => AL2.getD d.toNat 0)) (st' := st) (ev_jn (z := []) (by
      simp only [ev, evs, evk, evf, evi, evo, fin_false, fin_bl, List.getElem?_cons_zero, List.getElem?_cons_succ, List.set_cons_succ, List.set_cons_zero, Pv.R.bind_ok, putK0]
      rw [nil_S]) e3 e4) ⟨⟨[], by simp⟩, rfl, fun k => str_ok (fun c hc => by
        obtain ⟨d, hd, rfl⟩ := List.mem_map.mp hc
        have := hLm d hd
        have e : AL2.getD d.toNat 0 = AL2[d.toNat]'(by rw [al2.1]; omega) := by simp [show d.toNat < AL2.length by rw [al2.1]; omega]
        rw [e]
        exact al2.2 _ (List.getElem_mem _)) (by rw [List.length_map]; omega)⟩)
  exact ⟨v, h, e⟩
end Pv

set_option Elab.async false
set_option linter.all false
set_option maxRecDepth 100000
set_option maxHeartbeats 1000000
set_option exponentiation.threshold 600
/-! Drawn values; the same values. -/
namespace Pv
open PySem
def bL : List Int := [10 ^ 13, 10 ^ 45, 10 ^ 140]
theorem bL_ok : ∀ k < 3, 0 < gi bL k ∧ gi bL k < 2 ^ 500 := by decide +kernel
theorem pow_n (i j : Int) (st : Sto) (h0 : 0 ≤ j) (h1 : j ≤ 1000000) (h2 : i.natAbs < 2 ^ 64) : binEv .pow (.int i) (.int j) st = .ok (.int (i ^ j.toNat)) st := by
  simp only [binEv, opI]
  rw [if_pos ⟨h0, h1, h2⟩]
theorem bases {c : Cn} {l : Env} (st : Sto) : evs c [.bin .pow (.num 10) (.num 13), .bin .pow (.num 10) (.num 45), .bin .mul (.bin .mul (.bin .pow (.num 10) (.num 60)) (.bin .pow (.num 10) (.num 60))) (.bin .pow (.num 10) (.num 20))] l st = .ok (iL bL) st := by
  have p : ∀ j : Int, 0 ≤ j → j ≤ 1000000 → ∀ st, binEv .pow (.int 10) (.int j) st = .ok (.int (10 ^ j.toNat)) st := fun j h0 h1 st => pow_n 10 j st h0 h1 (by decide)
  have p13 := p 13 (by decide) (by decide)
  have p45 := p 45 (by decide) (by decide)
  have p60 := p 60 (by decide) (by decide)
  have p20 := p 20 (by decide) (by decide)
  have m : ∀ (a b : Int) st, a.natAbs < 2 ^ 500 → b.natAbs < 2 ^ 500 → binEv .mul (.int a) (.int b) st = .ok (.int (a * b)) st := fun a b st h1 h2 => by
    simp only [binEv, opI]
    rw [if_pos (mul_big h1 h2)]
  have m1 := fun st => m (10 ^ (60 : Int).toNat) (10 ^ (60 : Int).toNat) st (by decide +kernel) (by decide +kernel)
  have m2 := fun st => m (10 ^ (60 : Int).toNat * 10 ^ (60 : Int).toNat) (10 ^ (20 : Int).toNat) st (by decide +kernel) (by decide +kernel)
  simp only [ev, evs, evk, evf, evi, evo, fin_false, fin_bl, List.getElem?_cons_zero, List.getElem?_cons_succ, List.set_cons_succ, List.set_cons_zero, Pv.R.bind_ok, putK0, p13, p45, p60, p20, m1, m2]
  have e1 : (10 : Int) ^ (13 : Int).toNat = 10 ^ 13 := by decide +kernel
  have e2 : (10 : Int) ^ (45 : Int).toNat = 10 ^ 45 := by decide +kernel
  have e3 : (10 : Int) ^ (60 : Int).toNat * 10 ^ (60 : Int).toNat * 10 ^ (20 : Int).toNat = 10 ^ 140 := by decide +kernel
  rw [e1, e2, e3]
  rfl
theorem mod_nb (a b : Int) (st : Sto) (h1 : 0 < b) : binEv .mod (.int a) (.int b) st = .ok (.int (a % b)) st := by simp [binEv, opI, h1]
def bnd (k : Nat) : Nat := 20 * 5 ^ k
theorem bnd_s (k : Nat) : 2 * (bnd k + 1) ≤ bnd (k + 1) := by
  unfold bnd
  rw [Nat.pow_succ]
  have : 1 ≤ 5 ^ k := Nat.one_le_pow _ _ (by decide)
  omega
theorem bnd_1 (k : Nat) : 20 ≤ bnd k := by
  unfold bnd
  have : 1 ≤ 5 ^ k := Nat.one_le_pow _ _ (by decide)
  omega
theorem ek_flat {k b : Nat} {u : Val} (h : vk u = true) (h1 : vblk u = 0) (h2 : vdep u = 0) : Ek k b u := ⟨h, by omega, by omega⟩
theorem value_step (k : Nat) (hk : k ≤ 2) (n0 : Nat) (z : Int) (st : Sto) (ih : k ≠ 0 → ∀ z : Int, ∃ v, Ek (k - 1) (bnd (k - 1)) v ∧ runF tabT tabG (n0 + 2) 4 [.int z, .int ((k - 1 : Nat) : Int)] st = .ok v st) : ∃ v, Ek k (bnd k) v ∧ runF tabT tabG (n0 + 3) 4 [.int z, .int k] st = .ok v st := by
  obtain ⟨v, h, e⟩ := call_W (T := tabT) (G := tabG) (n := n0 + 2) (i := 4) (d := f_l_value) (args := [.int z, .int k]) (st := st) (fun v => Ek k (bnd k) v) rfl rfl (by
    show W (evSs _ (_ :: _ :: _ :: _ :: _ :: _ :: _ :: _ :: _ :: _ :: _ :: []) [some (.int z), some (.int k), none, none, none, none, none, none] st) _
    obtain ⟨B, hB⟩ : ∃ B, B = gi bL k := ⟨_, rfl⟩
    have hBb := bL_ok k (by omega)
    rw [← hB] at hBb
    have e0 := pick_ok (c := ⟨runF tabT tabG (n0 + 2), tabG⟩) (l := [some (.int z), some (.int k), none, none, none, none, none, none]) (st := st) (st' := st) (es := [.bin .pow (.num 10) (.num 13), .bin .pow (.num 10) (.num 45), .bin .mul (.bin .mul (.bin .pow (.num 10) (.num 60)) (.bin .pow (.num 10) (.num 60))) (.bin .pow (.num 10) (.num 20))]) (L := bL) (i := .var 1) (x := k) (bases st) (by simp only [ev, evs, evk, evf, evi, evo, fin_false, fin_bl, List.getElem?_cons_zero, List.getElem?_cons_succ, List.set_cons_succ, List.set_cons_zero, Pv.R.bind_ok, putK0]) (by omega) (by
      have : bL.length = 3 := rfl
      omega) (by
      have : bL.length = 3 := rfl
      omega)
    rw [show ((k : Nat) : Int).toNat = k by omega, ← hB] at e0
    refine W_set e0 ?_
    simp only [List.set_cons_succ, List.set_cons_zero]
    obtain ⟨ds, l1, d1, e2⟩ := drB_ok (n0 + 1) z B 3 st (by decide) hBb.1 hBb.2
    replace e2 : runF tabT tabG (n0 + 2) 1 [.int z, .int 3, .int B] st = .ok (.lst (iL ds)) st := e2
    refine W_set (v := .lst (iL ds)) (st' := st) (by simp only [ev, evs, evk, evf, evi, evo, fin_false, fin_bl, List.getElem?_cons_zero, List.getElem?_cons_succ, List.set_cons_succ, List.set_cons_zero, Pv.R.bind_ok, putK0, e2]) ?_
    simp only [List.set_cons_succ, List.set_cons_zero]
    have i0 := fun st => dl_at (ds := ds) (k := 0) (z := 0) rfl (by omega) st
    have i1 := fun st => dl_at (ds := ds) (k := 1) (z := 1) rfl (by omega) st
    have i2 := fun st => dl_at (ds := ds) (k := 2) (z := 2) rfl (by omega) st
    have hx2 : (gi ds 2).natAbs < 2 ^ 500 := by
      have : gi ds 2 = ds[2]'(by omega) := by simp [gi, l1]
      rw [this]
      have := d1 _ (List.getElem_mem (by omega : 2 < ds.length))
      omega
    generalize gi ds 0 = x0 at i0
    generalize gi ds 1 = x1 at i1
    generalize gi ds 2 = x2 at i2 hx2
    have m8 := fun st => mod_n x0 8 st (by decide) (by decide)
    obtain ⟨q, hq⟩ : ∃ q : Int, q = x0 % 8 := ⟨_, rfl⟩
    have hq0 : 0 ≤ q := by omega
    have hq8 : q < 8 := by omega
    rw [← hq] at m8
    refine W_set (v := .int q) (st' := st) (by simp only [ev, evs, evk, evf, evi, evo, fin_false, fin_bl, List.getElem?_cons_zero, List.getElem?_cons_succ, List.set_cons_succ, List.set_cons_zero, Pv.R.bind_ok, putK0, i0, i_int, m8]) ?_
    simp only [List.set_cons_succ, List.set_cons_zero]
    have mB : ∀ st, binEv .mul (.int x2) (.int B) st = .ok (.int (x2 * B)) st := fun st => by
      simp only [binEv, opI]
      rw [if_pos (mul_big hx2 (by omega))]
    obtain ⟨r, hr⟩ : ∃ r, r = x1 + x2 * B := ⟨_, rfl⟩
    have aB := fun st => add_n x1 (x2 * B) st
    rw [← hr] at aB
    refine W_set (v := .int r) (st' := st) (by simp only [ev, evs, evk, evf, evi, evo, fin_false, fin_bl, List.getElem?_cons_zero, List.getElem?_cons_succ, List.set_cons_succ, List.set_cons_zero, Pv.R.bind_ok, putK0, i1, i2, mB, aB]) ?_
    simp only [List.set_cons_succ, List.set_cons_zero]
    have ce : ∀ (a b : Int) st, cmEv .eq (.int a) (.int b) st = .ok (.bl (decide (a = b))) st := fun a b st => by simp only [cmEv, eqEv]
    have cl : ∀ (a b : Int) st, cmEv .lt (.int a) (.int b) st = .ok (.bl (decide (a < b))) st := fun a b st => rfl
    have cg : ∀ (a b : Int) st, cmEv .gt (.int a) (.int b) st = .ok (.bl (decide (b < a))) st := fun a b st => rfl
    have q0 := fun st => ce q 0 st
    by_cases h0 : q = 0
    · rw [decide_eq_true h0] at q0
      refine W_if1 (st' := st) (by simp only [ev, evs, evk, evf, evi, evo, fin_false, fin_bl, List.getElem?_cons_zero, List.getElem?_cons_succ, List.set_cons_succ, List.set_cons_zero, Pv.R.bind_ok, putK0, q0]) ?_
      exact W_rt (v := .non) (st' := st) (by simp only [ev, evs, evk, evf, evi, evo, fin_false, fin_bl, List.getElem?_cons_zero, List.getElem?_cons_succ, List.set_cons_succ, List.set_cons_zero, Pv.R.bind_ok, putK0]) ⟨⟨[], by simp⟩, rfl, ek_flat rfl rfl rfl⟩
    rw [decide_eq_false h0] at q0
    refine W_if0 (st' := st) (by simp only [ev, evs, evk, evf, evi, evo, fin_false, fin_bl, List.getElem?_cons_zero, List.getElem?_cons_succ, List.set_cons_succ, List.set_cons_zero, Pv.R.bind_ok, putK0, q0]) ?_
    rw [List.nil_append]
    have q1 := fun st => ce q 1 st
    by_cases h1 : q = 1
    · rw [decide_eq_true h1] at q1
      refine W_if1 (st' := st) (by simp only [ev, evs, evk, evf, evi, evo, fin_false, fin_bl, List.getElem?_cons_zero, List.getElem?_cons_succ, List.set_cons_succ, List.set_cons_zero, Pv.R.bind_ok, putK0, q1]) ?_
      have m2 := fun st => mod_n x1 2 st (by decide) (by decide)
      exact W_rt (v := .bl (decide (x1 % 2 = 1))) (st' := st) (by simp only [ev, evs, evk, evf, evi, evo, fin_false, fin_bl, List.getElem?_cons_zero, List.getElem?_cons_succ, List.set_cons_succ, List.set_cons_zero, Pv.R.bind_ok, putK0, i1, i_int, m2, ce]) ⟨⟨[], by simp⟩, rfl, ek_flat rfl rfl rfl⟩
    rw [decide_eq_false h1] at q1
    refine W_if0 (st' := st) (by simp only [ev, evs, evk, evf, evi, evo, fin_false, fin_bl, List.getElem?_cons_zero, List.getElem?_cons_succ, List.set_cons_succ, List.set_cons_zero, Pv.R.bind_ok, putK0, q1]) ?_
    rw [List.nil_append]
    have ec : ev ⟨runF tabT tabG (n0 + 2), tabG⟩ true (.or (.cmp .lt (.var 4) (.num 4)) (.and (.cmp .eq (.var 1) (.num 0)) (.cmp .gt (.var 4) (.num 5)))) [some (.int z), some (.int k), some (.int B), some (.lst (iL ds)), some (.int q), some (.int r), none, none] st = .ok (.bl (decide (q < 4) || (decide ((k : Int) = 0) && decide (5 < q)))) st := by
      simp only [ev, evs, evk, evf, evi, evo, fin_false, fin_bl, List.getElem?_cons_zero, List.getElem?_cons_succ, List.set_cons_succ, List.set_cons_zero, Pv.R.bind_ok, putK0, cl, ce, cg]
      cases decide (q < 4) <;> cases decide ((k : Int) = 0) <;> rfl
    refine W_ifb ec (fun hz => ?_) (fun hz => ?_)
    · rw [List.cons_append, List.cons_append, List.nil_append]
      have p12 : ∀ st, binEv .pow (.int 10) (.int 12) st = .ok (.int 1000000000000) st := fun st => by simp [binEv, opI, powOk]
      have m3 := fun st => mod_n r 3 st (by decide) (by decide)
      have m12 := fun st => mod_n r 1000000000000 st (by decide) (by decide)
      have s1 := fun st => sub_n 1000000000000 1 st
      have s2 := fun st => sub_n (1000000000000 - 1) (r % 1000000000000) st
      have d16 := fun st => div_n x0 16 st (by decide) (by decide)
      have m3' := fun st => mod_n (x0 / 16) 3 st (by decide) (by decide)
      have eN := pick_ok (c := ⟨runF tabT tabG (n0 + 2), tabG⟩) (l := [some (.int z), some (.int k), some (.int B), some (.lst (iL ds)), some (.int q), some (.int r), none, none]) (st := st) (st' := st) (es := [.bin .mod (.blt .int [.var 5]) (.num 3), .bin .mod (.blt .int [.var 5]) (.bin .pow (.num 10) (.num 12)), .bin .sub (.bin .sub (.bin .pow (.num 10) (.num 12)) (.num 1)) (.bin .mod (.blt .int [.var 5]) (.bin .pow (.num 10) (.num 12)))]) (L := [r % 3, r % 1000000000000, 1000000000000 - 1 - r % 1000000000000]) (i := .bin .mod (.blt .int [.bin .fdiv (.idx (.var 3) (.num 0)) (.num 16)]) (.num 3)) (x := x0 / 16 % 3) (by
        simp only [ev, evs, evk, evf, evi, evo, fin_false, fin_bl, List.getElem?_cons_zero, List.getElem?_cons_succ, List.set_cons_succ, List.set_cons_zero, Pv.R.bind_ok, putK0, i_int, m3, p12, m12, s1, s2]
        rfl) (by simp only [ev, evs, evk, evf, evi, evo, fin_false, fin_bl, List.getElem?_cons_zero, List.getElem?_cons_succ, List.set_cons_succ, List.set_cons_zero, Pv.R.bind_ok, putK0, i0, d16, i_int, m3']) (by omega) (by simp only [List.length_cons, List.length_nil]; omega) (by simp)
      refine W_set eN ?_
      simp only [List.set_cons_succ, List.set_cons_zero]
      generalize gi [r % 3, r % 1000000000000, 1000000000000 - 1 - r % 1000000000000] (x0 / 16 % 3).toNat = m
      have d8 := fun st => div_n x0 8 st (by decide) (by decide)
      have m2 := fun st => mod_n (x0 / 8) 2 st (by decide) (by decide)
      have eM := pick_ok (c := ⟨runF tabT tabG (n0 + 2), tabG⟩) (l := [some (.int z), some (.int k), some (.int B), some (.lst (iL ds)), some (.int q), some (.int r), none, some (.int m)]) (st := st) (st' := st) (es := [.var 7, .neg (.var 7)]) (L := [m, -m]) (i := .bin .mod (.blt .int [.bin .fdiv (.idx (.var 3) (.num 0)) (.num 8)]) (.num 2)) (x := x0 / 8 % 2) (by
        simp only [ev, evs, evk, evf, evi, evo, fin_false, fin_bl, List.getElem?_cons_zero, List.getElem?_cons_succ, List.set_cons_succ, List.set_cons_zero, Pv.R.bind_ok, putK0]
        rfl) (by simp only [ev, evs, evk, evf, evi, evo, fin_false, fin_bl, List.getElem?_cons_zero, List.getElem?_cons_succ, List.set_cons_succ, List.set_cons_zero, Pv.R.bind_ok, putK0, i0, d8, i_int, m2]) (by omega) (by simp only [List.length_cons, List.length_nil]; omega) (by simp)
      exact W_rt eM ⟨⟨[], by simp⟩, rfl, ek_int _⟩
    · rw [List.nil_append]
      have hz' : ¬ q < 4 ∧ ¬ (k = 0 ∧ 5 < q) := by
        constructor
        · intro h
          rw [decide_eq_true h] at hz
          cases hz
        · rintro ⟨h, h'⟩
          rw [decide_eq_true (show (k : Int) = 0 by omega), decide_eq_true h'] at hz
          simp at hz
      have q6 := fun st => cl q 6 st
      by_cases h6 : q < 6
      · rw [decide_eq_true h6] at q6
        refine W_if1 (st' := st) (by simp only [ev, evs, evk, evf, evi, evo, fin_false, fin_bl, List.getElem?_cons_zero, List.getElem?_cons_succ, List.set_cons_succ, List.set_cons_zero, Pv.R.bind_ok, putK0, q6]) ?_
        obtain ⟨v, hv, ⟨T, rfl, _⟩, et⟩ := text_ok n0 r st
        exact W_rt (v := tX T) (st' := st) (by simp only [ev, evs, evk, evf, evi, evo, fin_false, fin_bl, List.getElem?_cons_zero, List.getElem?_cons_succ, List.set_cons_succ, List.set_cons_zero, Pv.R.bind_ok, putK0, et]) ⟨⟨[], by simp⟩, rfl, (hv k).mono (Nat.le_refl _) (bnd_1 k)⟩
      rw [decide_eq_false h6] at q6
      refine W_if0 (st' := st) (by simp only [ev, evs, evk, evf, evi, evo, fin_false, fin_bl, List.getElem?_cons_zero, List.getElem?_cons_succ, List.set_cons_succ, List.set_cons_zero, Pv.R.bind_ok, putK0, q6]) ?_
      rw [List.nil_append]
      have hk0 : k ≠ 0 := fun z => hz'.2 ⟨z, by omega⟩
      obtain ⟨a, ha, ea⟩ := ih hk0 x1
      obtain ⟨b, hb, eb⟩ := ih hk0 x2
      have sk : ∀ st, binEv .sub (.int (k : Nat)) (.int 1) st = .ok (.int ((k - 1 : Nat) : Int)) st := fun st => by
        rw [show ((k - 1 : Nat) : Int) = (k : Int) - 1 by omega]
        rfl
      have z2 : 2 ≤ sizeLine := by show 2 ≤ 2 ^ 24; decide
      refine W_set (v := .lst [a, b]) (st' := st) (by simp only [ev, evs, evk, evf, evi, evo, fin_false, fin_bl, List.getElem?_cons_zero, List.getElem?_cons_succ, List.set_cons_succ, List.set_cons_zero, Pv.R.bind_ok, putK0, i1, i2, sk, ea, eb, List.length_cons, List.length_nil, Nat.zero_add, Nat.reduceAdd, z2, if_true, newL]) ?_
      simp only [List.set_cons_succ, List.set_cons_zero]
      have hb2 := bnd_s (k - 1)
      rw [show k - 1 + 1 = k by omega] at hb2
      have mem : ∀ u ∈ [a, b], Ek (k - 1) (bnd (k - 1)) u := fun u hu => by
        simp only [List.mem_cons, List.not_mem_nil, or_false] at hu
        rcases hu with rfl | rfl
        · exact ha
        · exact hb
      have below : belowVs st.length [a, b] = true := by
        rw [belowVs, belowVs, belowVs, below_vk _ _ ha.ok, below_vk _ _ hb.ok]
        rfl
      have c6 := fun st => ce q 6 st
      by_cases h6' : q = 6
      · rw [decide_eq_true h6'] at c6
        refine W_if1 (st' := st) (by simp only [ev, evs, evk, evf, evi, evo, fin_false, fin_bl, List.getElem?_cons_zero, List.getElem?_cons_succ, List.set_cons_succ, List.set_cons_zero, Pv.R.bind_ok, putK0, c6]) ?_
        have ek := ek_tup (n := 2) mem (by simp)
        rw [show k - 1 + 1 = k by omega] at ek
        exact W_rt (v := .tup [a, b]) (st' := st) (by simp only [ev, evs, evk, evf, evi, evo, fin_false, fin_bl, List.getElem?_cons_zero, List.getElem?_cons_succ, List.set_cons_succ, List.set_cons_zero, Pv.R.bind_ok, putK0, bfEv, lview]) ⟨⟨[], by simp⟩, by rw [belowV]; exact below, ek.mono (Nat.le_refl _) hb2⟩
      · rw [decide_eq_false h6'] at c6
        refine W_if0 (st' := st) (by simp only [ev, evs, evk, evf, evi, evo, fin_false, fin_bl, List.getElem?_cons_zero, List.getElem?_cons_succ, List.set_cons_succ, List.set_cons_zero, Pv.R.bind_ok, putK0, c6]) ?_
        rw [List.nil_append]
        have ek := ek_lst (n := 2) mem (by simp)
        rw [show k - 1 + 1 = k by omega] at ek
        exact W_rt (v := .lst [a, b]) (st' := st) (by simp only [ev, evs, evk, evf, evi, evo, fin_false, fin_bl, List.getElem?_cons_zero, List.getElem?_cons_succ, List.set_cons_succ, List.set_cons_zero, Pv.R.bind_ok, putK0]) ⟨⟨[], by simp⟩, by rw [belowV]; exact below, ek.mono (Nat.le_refl _) hb2⟩)
  exact ⟨v, h, e⟩
theorem value_ok : ∀ (k : Nat), k ≤ 2 → ∀ (n0 : Nat) (z : Int) (st : Sto), ∃ v, Ek k (bnd k) v ∧ runF tabT tabG (n0 + k + 3) 4 [.int z, .int k] st = .ok v st
  | 0, hk, n0, z, st => value_step 0 hk n0 z st (fun h => absurd rfl h)
  | k + 1, hk, n0, z, st => value_step (k + 1) hk (n0 + k + 1) z st (fun _ z => value_ok k (by omega) n0 z st)
/-! the same -/
def smI (v : Val) (l : List Val) (st : Sto) (j : Nat) (e : Env) (s : Sto) : Prop := ∃ x2, e = [some v, some v, x2] ∧ s = st
theorem blks_len : ∀ l : List Val, l.length ≤ vblks l
  | [] => Nat.zero_le _
  | x :: l => by
    have := blks_len l
    rw [vblks, List.length_cons]
    omega
theorem blks_mem {l : List Val} {u : Val} (h : u ∈ l) : vblk u ≤ vblks l ∧ vdep u ≤ vdeps l := by
  induction l with
  | nil => cases h
  | cons x l ih =>
    rw [vblks, vdeps]
    rcases List.mem_cons.mp h with rfl | h
    · omega
    · have := ih h
      omega
theorem same_seq (n0 : Nat) (v : Val) (l : List Val) (b : Bool) (st : Sto) (hs : ∀ st, sview st v = some l) (hi : ∀ st, issEv st .list .tuple v = some true) (hb : ∀ st, isiEv st .list v = some b) (hl : l.length ≤ 100000)
    (ih : ∀ u ∈ l, ∀ st, runF tabT tabG n0 5 [u, u] st = .ok (.bl true) st) : runF tabT tabG (n0 + 1) 5 [v, v] st = .ok (.bl true) st := by
  refine call_eq (d := f_l_same) rfl rfl rfl ?_
  show W (evSs _ (_ :: _ :: _ :: _ :: []) [some v, some v, none] st) _
  refine W_if1 (st' := st) (by simp only [ev, evs, evk, evf, evi, evo, fin_false, fin_bl, List.getElem?_cons_zero, List.getElem?_cons_succ, List.set_cons_succ, List.set_cons_zero, Pv.R.bind_ok, putK0, hi]) ?_
  rw [List.cons_append, List.cons_append, List.cons_append, List.cons_append, List.nil_append]
  have cb : ∀ st, cmEv .ne (.bl b) (.bl b) st = .ok (.bl false) st := fun st => by simp [cmEv, eqEv]
  refine W_if0 (st' := st) (by
    simp only [ev, evs, evk, evf, evi, evo, fin_false, fin_bl, List.getElem?_cons_zero, List.getElem?_cons_succ, List.set_cons_succ, List.set_cons_zero, Pv.R.bind_ok, putK0, hi, hb, cb]
    rfl) ?_
  rw [List.nil_append]
  have ln : ∀ st, bfEv .len [v] st = .ok (.int (l.length : Nat)) st := fun st => by simp only [bfEv, hs]
  have cn : ∀ st, cmEv .ne (.int (l.length : Nat)) (.int (l.length : Nat)) st = .ok (.bl false) st := fun st => by simp [cmEv, eqEv]
  refine W_if0 (st' := st) (by simp only [ev, evs, evk, evf, evi, evo, fin_false, fin_bl, List.getElem?_cons_zero, List.getElem?_cons_succ, List.set_cons_succ, List.set_cons_zero, Pv.R.bind_ok, putK0, ln, cn]) ?_
  rw [List.nil_append]
  refine W_fr0 (smI v l st) (n := l.length) (st1 := st) (by simp only [ev, evs, evk, evf, evi, evo, fin_false, fin_bl, List.getElem?_cons_zero, List.getElem?_cons_succ, List.set_cons_succ, List.set_cons_zero, Pv.R.bind_ok, putK0, ln]; exact rng_n (by omega) _) ⟨none, rfl, rfl⟩ ?_ ?_
  · rintro j e s hj ⟨x2, rfl, rfl⟩
    simp only [List.set_cons_succ, List.set_cons_zero]
    have ix : ∀ st, idxEv v (.int (j : Nat)) st = .ok l[j] st := fun st => by
      have : L2.atI l (j : Int) = some l[j] := atI_nat hj
      unfold idxEv
      simp only [hs, this]
    have e1 := ih l[j] (List.getElem_mem hj) s
    refine W_if0 (st' := s) (by
      simp only [ev, evs, evk, evf, evi, evo, fin_false, fin_bl, List.getElem?_cons_zero, List.getElem?_cons_succ, List.set_cons_succ, List.set_cons_zero, Pv.R.bind_ok, putK0, ix, e1]
      rfl) ?_
    rw [List.nil_append]
    exact W_end ⟨_, rfl, rfl⟩
  · rintro e s ⟨x2, rfl, rfl⟩
    exact W_rt (v := .bl true) (st' := s) (by simp only [ev, evs, evk, evf, evi, evo, fin_false, fin_bl, List.getElem?_cons_zero, List.getElem?_cons_succ, List.set_cons_succ, List.set_cons_zero, Pv.R.bind_ok, putK0]) ⟨⟨[], by simp⟩, rfl⟩
theorem same_flat (n0 : Nat) (v : Val) (st : Sto) (hf : flat v = true) (hk : vk v = true) : runF tabT tabG (n0 + 1) 5 [v, v] st = .ok (.bl true) st := by
  refine call_eq (d := f_l_same) rfl rfl rfl ?_
  show W (evSs _ (_ :: _ :: _ :: _ :: []) [some v, some v, none] st) _
  have cv : ∀ st, cmEv .eq v v st = .ok (.bl true) st := fun st => by simp only [cmEv, eq_self hk (by cases v <;> first | exact Nat.zero_le 50 | cases hf) st]
  have cb : ∀ (b : Bool) st, cmEv .eq (.bl b) (.bl b) st = .ok (.bl true) st := fun b st => by simp [cmEv, eqEv]
  have hi : ∀ st, issEv st .list .tuple v = some false := fun st => by cases v <;> first | rfl | cases hf
  refine W_if0 (st' := st) (by simp only [ev, evs, evk, evf, evi, evo, fin_false, fin_bl, List.getElem?_cons_zero, List.getElem?_cons_succ, List.set_cons_succ, List.set_cons_zero, Pv.R.bind_ok, putK0, hi]) ?_
  rw [List.nil_append]
  cases v with
  | non =>
    have c1 : ∀ st, cmEv .is' .non .non st = .ok (.bl true) st := fun _ => rfl
    refine W_if1 (st' := st) (by simp only [ev, evs, evk, evf, evi, evo, fin_false, fin_bl, List.getElem?_cons_zero, List.getElem?_cons_succ, List.set_cons_succ, List.set_cons_zero, Pv.R.bind_ok, putK0, c1]) ?_
    exact W_rt (v := .bl true) (st' := st) (by simp only [ev, evs, evk, evf, evi, evo, fin_false, fin_bl, List.getElem?_cons_zero, List.getElem?_cons_succ, List.set_cons_succ, List.set_cons_zero, Pv.R.bind_ok, putK0, c1]) ⟨⟨[], by simp⟩, rfl⟩
  | str z =>
    have c1 : ∀ st, cmEv .is' (.str z) .non st = .ok (.bl false) st := fun _ => rfl
    have s1 : ∀ st, isiEv st .str (.str z) = some true := fun _ => rfl
    refine W_if0 (st' := st) (by simp only [ev, evs, evk, evf, evi, evo, fin_false, fin_bl, List.getElem?_cons_zero, List.getElem?_cons_succ, List.set_cons_succ, List.set_cons_zero, Pv.R.bind_ok, putK0, c1]) ?_
    rw [List.nil_append]
    refine W_if1 (st' := st) (by simp only [ev, evs, evk, evf, evi, evo, fin_false, fin_bl, List.getElem?_cons_zero, List.getElem?_cons_succ, List.set_cons_succ, List.set_cons_zero, Pv.R.bind_ok, putK0, s1]) ?_
    exact W_rt (v := .bl true) (st' := st) (by simp only [ev, evs, evk, evf, evi, evo, fin_false, fin_bl, List.getElem?_cons_zero, List.getElem?_cons_succ, List.set_cons_succ, List.set_cons_zero, Pv.R.bind_ok, putK0, s1, cv]) ⟨⟨[], by simp⟩, rfl⟩
  | bl b =>
    have c1 : ∀ st, cmEv .is' (.bl b) .non st = .ok (.bl false) st := fun _ => rfl
    have s1 : ∀ st, isiEv st .str (.bl b) = some false := fun _ => rfl
    have s2 : ∀ st, isiEv st .int (.bl b) = some true := fun _ => rfl
    have s3 : ∀ st, isiEv st .bool (.bl b) = some true := fun _ => rfl
    refine W_if0 (st' := st) (by simp only [ev, evs, evk, evf, evi, evo, fin_false, fin_bl, List.getElem?_cons_zero, List.getElem?_cons_succ, List.set_cons_succ, List.set_cons_zero, Pv.R.bind_ok, putK0, c1]) ?_
    rw [List.nil_append]
    refine W_if0 (st' := st) (by simp only [ev, evs, evk, evf, evi, evo, fin_false, fin_bl, List.getElem?_cons_zero, List.getElem?_cons_succ, List.set_cons_succ, List.set_cons_zero, Pv.R.bind_ok, putK0, s1]) ?_
    rw [List.nil_append]
    exact W_rt (v := .bl true) (st' := st) (by simp only [ev, evs, evk, evf, evi, evo, fin_false, fin_bl, List.getElem?_cons_zero, List.getElem?_cons_succ, List.set_cons_succ, List.set_cons_zero, Pv.R.bind_ok, putK0, s2, s3, cb, cv]) ⟨⟨[], by simp⟩, rfl⟩
  | int i =>
    have c1 : ∀ st, cmEv .is' (.int i) .non st = .ok (.bl false) st := fun _ => rfl
    have s1 : ∀ st, isiEv st .str (.int i) = some false := fun _ => rfl
    have s2 : ∀ st, isiEv st .int (.int i) = some true := fun _ => rfl
    have s3 : ∀ st, isiEv st .bool (.int i) = some false := fun _ => rfl
    refine W_if0 (st' := st) (by simp only [ev, evs, evk, evf, evi, evo, fin_false, fin_bl, List.getElem?_cons_zero, List.getElem?_cons_succ, List.set_cons_succ, List.set_cons_zero, Pv.R.bind_ok, putK0, c1]) ?_
    rw [List.nil_append]
    refine W_if0 (st' := st) (by simp only [ev, evs, evk, evf, evi, evo, fin_false, fin_bl, List.getElem?_cons_zero, List.getElem?_cons_succ, List.set_cons_succ, List.set_cons_zero, Pv.R.bind_ok, putK0, s1]) ?_
    rw [List.nil_append]
    exact W_rt (v := .bl true) (st' := st) (by simp only [ev, evs, evk, evf, evi, evo, fin_false, fin_bl, List.getElem?_cons_zero, List.getElem?_cons_succ, List.set_cons_succ, List.set_cons_zero, Pv.R.bind_ok, putK0, s2, s3, cb, cv]) ⟨⟨[], by simp⟩, rfl⟩
  | _ => cases hf
theorem same_val : ∀ (n : Nat) (v : Val) (n0 : Nat) (st : Sto), vdep v ≤ n → vk v = true → vblk v ≤ 90000 → runF tabT tabG (n0 + n + 1) 5 [v, v] st = .ok (.bl true) st := by
  intro n
  induction n with
  | zero =>
    intro v n0 st hd hk hb
    cases v with
    | tup l => rw [vdep] at hd; omega
    | lst l => rw [vdep] at hd; omega
    | scr l => simp [vk] at hk
    | ref n => simp [vk] at hk
    | rng a b c => simp [vk] at hk
    | exc a b => simp [vk] at hk
    | gtp l => simp [vk] at hk
    | _ => exact same_flat n0 _ st rfl hk
  | succ n ih =>
    intro v n0 st hd hk hb
    cases v with
    | tup l =>
      rw [vdep] at hd
      rw [vk] at hk
      rw [vblk] at hb
      have := blks_len l
      exact same_seq (n0 + n + 1) _ l false st (fun _ => rfl) (fun _ => rfl) (fun _ => rfl) (by omega) fun u hu st => by
        have := blks_mem hu
        exact ih u n0 st (by omega) (vks_in hk u hu) (by omega)
    | lst l =>
      rw [vdep] at hd
      rw [vk] at hk
      rw [vblk] at hb
      have := blks_len l
      exact same_seq (n0 + n + 1) _ l true st (fun _ => rfl) (fun _ => rfl) (fun _ => rfl) (by omega) fun u hu st => by
        have := blks_mem hu
        exact ih u n0 st (by omega) (vks_in hk u hu) (by omega)
    | scr l => simp [vk] at hk
    | ref n => simp [vk] at hk
    | rng a b c => simp [vk] at hk
    | exc a b => simp [vk] at hk
    | gtp l => simp [vk] at hk
    | _ => exact same_flat (n0 + n + 1) _ st rfl hk
end Pv

set_option Elab.async false
set_option linter.all false
set_option maxRecDepth 100000
set_option maxHeartbeats 1000000
/-! The errors' arguments, the errors made. -/
namespace Pv
open PySem
def xAll : List Str := ["TideError", "InvalidPicture", "InvalidStream", "InvalidPlan", "InvalidTree", "InvalidNumber", "InvalidText", "InvalidLine", "InvalidClaim", "Refused", "NoKey", "TooLong", "UnknownName", "NothingToUndo", "Undefined", "ValueError"]
def mkX (n : Str) (fs : List Str) : Xc := ⟨n, fs, ["TideError", n, "ValueError"], xAll⟩
def xN : List Str := ["InvalidPicture", "InvalidStream", "InvalidPlan", "InvalidTree", "InvalidNumber", "InvalidText", "InvalidLine", "InvalidClaim", "Refused", "NoKey", "TooLong", "UnknownName", "NothingToUndo", "Undefined"]
def XS : List Xc := [mkX "InvalidPicture" ["value"], mkX "InvalidStream" ["value"], mkX "InvalidPlan" ["value"], mkX "InvalidTree" ["value"], mkX "InvalidNumber" ["value"], mkX "InvalidText" ["text", "at"], mkX "InvalidLine" ["line", "at"], mkX "InvalidClaim" ["value"], mkX "Refused" ["claim"], mkX "NoKey" ["number"], mkX "TooLong" ["number"], mkX "UnknownName" ["name"], mkX "NothingToUndo" ["word"], mkX "Undefined" ["what"]]
def xAt (i : Nat) : Xc := XS.getD i (mkX "" [])
theorem cls_ok : ∀ i < 14, ∀ j < 14, (xAt i).all.contains (xN.getD j "") = true ∧ (xAt i).anc.contains (xN.getD j "") = decide (i = j) := by decide +kernel
theorem tide_ok : ∀ i < 14, (xAt i).all.contains "TideError" = true ∧ (xAt i).anc.contains "TideError" = true ∧ (xAt i).all.contains "ValueError" = true ∧ (xAt i).anc.contains "ValueError" = true := by decide +kernel
theorem isx_of {d : Xc} {C : Str} {b : Bool} {vs : List Val} (h1 : d.all.contains C = true) (h2 : d.anc.contains C = b) : isxEv C (.exc d vs) = some b := by
  simp only [isxEv, h1, h2, if_true]
theorem att_1 {d : Xc} {f : Str} {v : Val} (h : d.fs = [f]) (st : Sto) : attEv f (.exc d [v]) st = .ok v st := by
  have : List.lookup f (d.fs.zip [v]) = some v := by
    rw [h]
    simp [List.zip, List.lookup]
  simp only [attEv, this]
theorem att_2a {d : Xc} {f g : Str} {v w : Val} (h : d.fs = [f, g]) (st : Sto) : attEv f (.exc d [v, w]) st = .ok v st := by
  have : List.lookup f (d.fs.zip [v, w]) = some v := by
    rw [h]
    simp [List.zip, List.lookup]
  simp only [attEv, this]
theorem att_2b {d : Xc} {f g : Str} {v w : Val} (h : d.fs = [f, g]) (hn : (g == f) = false) (st : Sto) : attEv g (.exc d [v, w]) st = .ok w st := by
  have : List.lookup g (d.fs.zip [v, w]) = some w := by
    rw [h]
    simp only [List.zip, List.zipWith, List.lookup, hn]
    rw [beq_self_eq_true]
  simp only [attEv, this]
def AG (v0 v1 v2 t0 p0 t1 p1 cl n0 n1 w7 u w : Val) : List (List Val) := [[v0], [v1], [v2], [v0], [v1], [t0, p0], [t1, p1], [v2], [cl], [n0], [n1], [w7], [u], [w]]
/-- the arguments of the fourteen errors -/
def Arg (A : List (List Val)) : Prop := ∃ v0 v1 v2 t0 p0 t1 p1 cl n0 n1 w7 u w : Val, A = AG v0 v1 v2 t0 p0 t1 p1 cl n0 n1 w7 u w ∧ ∀ x ∈ [v0, v1, v2, t0, p0, t1, p1, cl, n0, n1, w7, u, w], Ek 3 2000 x
def lA (A : List (List Val)) : Val := .lst (A.map .lst)
def eA (A : List (List Val)) : List Val := (List.range 14).map fun i => .exc (xAt i) (A.getD i [])
theorem arg_mem {A : List (List Val)} (h : Arg A) : A.length = 14 ∧ ∀ l ∈ A, l.length ≤ 2 ∧ ∀ x ∈ l, Ek 3 2000 x := by
  obtain ⟨v0, v1, v2, t0, p0, t1, p1, cl, n0, n1, w7, u, w, rfl, hx⟩ := h
  refine ⟨rfl, fun l hl => ?_⟩
  unfold AG at hl
  simp only [List.mem_cons, List.not_mem_nil, or_false] at hl hx
  rcases hl with rfl | rfl | rfl | rfl | rfl | rfl | rfl | rfl | rfl | rfl | rfl | rfl | rfl | rfl <;>
    exact ⟨by simp, fun x hm => hx x (by
      simp only [List.mem_cons, List.not_mem_nil, or_false] at hm
      revert hm
      clear hx
      rintro (rfl | rfl) <;> simp)⟩
theorem lst_ek {l : List Val} (h : l.length ≤ 2 ∧ ∀ x ∈ l, Ek 3 2000 x) : Ek 4 4002 (.lst l) := ek_lst (n := 2) h.2 h.1
theorem lA_ek {A : List (List Val)} (h : Arg A) : Ek 5 60000 (lA A) := by
  obtain ⟨h1, h2⟩ := arg_mem h
  refine (ek_lst (n := 14) (k := 4) (b := 4002) (fun u hu => ?_) (by rw [List.length_map, h1]; exact Nat.le_refl _)).mono (Nat.le_refl _) (by decide)
  obtain ⟨l, hl, rfl⟩ := List.mem_map.mp hu
  exact lst_ek (h2 l hl)
theorem made_ok (n0 : Nat) (A : List (List Val)) (st : Sto) (hA : Arg A) : runF tabT tabG (n0 + 1) 7 [lA A] st = .ok (.lst (eA A)) st := by
  have hek := lA_ek hA
  obtain ⟨h14, hm⟩ := arg_mem hA
  have hb : belowV st.length (.lst (eA A)) = true := by
    rw [belowV]
    refine below_map (fun i => ?_) _
    rw [belowV]
    by_cases hi : i < A.length
    · have : A.getD i [] = A[i] := by simp [hi]
      rw [this]
      exact below_vks _ _ (vks_all' fun v hv => ((hm _ (List.getElem_mem hi)).2 v hv).ok)
    · have : A.getD i [] = [] := by simp [hi]
      rw [this]
      rfl
  refine call_eq (d := f_l_made) rfl rfl hb ?_
  obtain ⟨v0, v1, v2, t0, p0, t1, p1, cl, n0, n1, w7, u, w, rfl, hx⟩ := hA
  show W (evSs _ (_ :: []) [some (lA _)] st) _
  have z14 : 14 ≤ sizeLine := by show 14 ≤ 2 ^ 24; decide
  have q1 : ∀ x st, idxEv (.lst [x]) (.int 0) st = .ok x st := fun _ _ => rfl
  have q2 : ∀ x y st, idxEv (.lst [x, y]) (.int 0) st = .ok x st := fun _ _ _ => rfl
  have q3 : ∀ x y st, idxEv (.lst [x, y]) (.int 1) st = .ok y st := fun _ _ _ => rfl
  have i0 : ∀ st, idxEv (lA (AG v0 v1 v2 t0 p0 t1 p1 cl n0 n1 w7 u w)) (.int 0) st = .ok (.lst [v0]) st := fun _ => rfl
  have i1 : ∀ st, idxEv (lA (AG v0 v1 v2 t0 p0 t1 p1 cl n0 n1 w7 u w)) (.int 1) st = .ok (.lst [v1]) st := fun _ => rfl
  have i2 : ∀ st, idxEv (lA (AG v0 v1 v2 t0 p0 t1 p1 cl n0 n1 w7 u w)) (.int 2) st = .ok (.lst [v2]) st := fun _ => rfl
  have i3 : ∀ st, idxEv (lA (AG v0 v1 v2 t0 p0 t1 p1 cl n0 n1 w7 u w)) (.int 3) st = .ok (.lst [v0]) st := fun _ => rfl
  have i4 : ∀ st, idxEv (lA (AG v0 v1 v2 t0 p0 t1 p1 cl n0 n1 w7 u w)) (.int 4) st = .ok (.lst [v1]) st := fun _ => rfl
  have i5 : ∀ st, idxEv (lA (AG v0 v1 v2 t0 p0 t1 p1 cl n0 n1 w7 u w)) (.int 5) st = .ok (.lst [t0, p0]) st := fun _ => rfl
  have i6 : ∀ st, idxEv (lA (AG v0 v1 v2 t0 p0 t1 p1 cl n0 n1 w7 u w)) (.int 6) st = .ok (.lst [t1, p1]) st := fun _ => rfl
  have i7 : ∀ st, idxEv (lA (AG v0 v1 v2 t0 p0 t1 p1 cl n0 n1 w7 u w)) (.int 7) st = .ok (.lst [v2]) st := fun _ => rfl
  have i8 : ∀ st, idxEv (lA (AG v0 v1 v2 t0 p0 t1 p1 cl n0 n1 w7 u w)) (.int 8) st = .ok (.lst [cl]) st := fun _ => rfl
  have i9 : ∀ st, idxEv (lA (AG v0 v1 v2 t0 p0 t1 p1 cl n0 n1 w7 u w)) (.int 9) st = .ok (.lst [n0]) st := fun _ => rfl
  have i10 : ∀ st, idxEv (lA (AG v0 v1 v2 t0 p0 t1 p1 cl n0 n1 w7 u w)) (.int 10) st = .ok (.lst [n1]) st := fun _ => rfl
  have i11 : ∀ st, idxEv (lA (AG v0 v1 v2 t0 p0 t1 p1 cl n0 n1 w7 u w)) (.int 11) st = .ok (.lst [w7]) st := fun _ => rfl
  have i12 : ∀ st, idxEv (lA (AG v0 v1 v2 t0 p0 t1 p1 cl n0 n1 w7 u w)) (.int 12) st = .ok (.lst [u]) st := fun _ => rfl
  have i13 : ∀ st, idxEv (lA (AG v0 v1 v2 t0 p0 t1 p1 cl n0 n1 w7 u w)) (.int 13) st = .ok (.lst [w]) st := fun _ => rfl
  exact W_rt (v := .lst (eA (AG v0 v1 v2 t0 p0 t1 p1 cl n0 n1 w7 u w))) (st' := st) (by
    simp only [ev, evs, evk, evf, evi, evo, fin_false, fin_bl, List.getElem?_cons_zero, List.getElem?_cons_succ, List.set_cons_succ, List.set_cons_zero, Pv.R.bind_ok, putK0, i0, i1, i2, i3, i4, i5, i6, i7, i8, i9, i10, i11, i12, i13, q1, q2, q3, List.length_cons, List.length_nil, Nat.zero_add, Nat.reduceAdd, if_true, z14, newL]
    rfl) ⟨⟨[], by simp⟩, rfl⟩
theorem at_E {A : List (List Val)} {i : Nat} {z : Int} (hz : z = i) (hi : i < 14) (st : Sto) : idxEv (.lst (eA A)) (.int z) st = .ok (.exc (xAt i) (A.getD i [])) st := by
  have hl : i < (eA A).length := by simp [eA, hi]
  have : L2.atI (eA A) z = some (.exc (xAt i) (A.getD i [])) := by
    rw [hz, atI_nat hl]
    simp [eA]
  unfold idxEv
  simp only [sview, this]
theorem fields_ok (n0 : Nat) (A : List (List Val)) (st : Sto) (hA : Arg A) : runF tabT tabG (n0 + 1) 8 [.lst (eA A)] st = .ok (lA A) st := by
  have hek := lA_ek hA
  refine call_eq (d := f_l_fields) rfl rfl (below_vk _ _ hek.ok) ?_
  obtain ⟨v0, v1, v2, t0, p0, t1, p1, cl, n0, n1, w7, u, w, rfl, hx⟩ := hA
  show W (evSs _ (_ :: []) [some (.lst (eA _))] st) _
  have z14 : 14 ≤ sizeLine := by show 14 ≤ 2 ^ 24; decide
  have z1 : 1 ≤ sizeLine := by show 1 ≤ 2 ^ 24; decide
  have z2 : 2 ≤ sizeLine := by show 2 ≤ 2 ^ 24; decide
  obtain ⟨A, hA⟩ : ∃ A, A = AG v0 v1 v2 t0 p0 t1 p1 cl n0 n1 w7 u w := ⟨_, rfl⟩
  have j0 := fun st => at_E (A := A) (i := 0) (z := 0) rfl (by decide) st
  have j1 := fun st => at_E (A := A) (i := 1) (z := 1) rfl (by decide) st
  have j2 := fun st => at_E (A := A) (i := 2) (z := 2) rfl (by decide) st
  have j3 := fun st => at_E (A := A) (i := 3) (z := 3) rfl (by decide) st
  have j4 := fun st => at_E (A := A) (i := 4) (z := 4) rfl (by decide) st
  have j5 := fun st => at_E (A := A) (i := 5) (z := 5) rfl (by decide) st
  have j6 := fun st => at_E (A := A) (i := 6) (z := 6) rfl (by decide) st
  have j7 := fun st => at_E (A := A) (i := 7) (z := 7) rfl (by decide) st
  have j8 := fun st => at_E (A := A) (i := 8) (z := 8) rfl (by decide) st
  have j9 := fun st => at_E (A := A) (i := 9) (z := 9) rfl (by decide) st
  have j10 := fun st => at_E (A := A) (i := 10) (z := 10) rfl (by decide) st
  have j11 := fun st => at_E (A := A) (i := 11) (z := 11) rfl (by decide) st
  have j12 := fun st => at_E (A := A) (i := 12) (z := 12) rfl (by decide) st
  have j13 := fun st => at_E (A := A) (i := 13) (z := 13) rfl (by decide) st
  have a0 : ∀ st, attEv "value" (.exc (xAt 0) (A.getD 0 [])) st = .ok v0 st := fun st => by rw [hA]; exact att_1 rfl st
  have a1 : ∀ st, attEv "value" (.exc (xAt 1) (A.getD 1 [])) st = .ok v1 st := fun st => by rw [hA]; exact att_1 rfl st
  have a2 : ∀ st, attEv "value" (.exc (xAt 2) (A.getD 2 [])) st = .ok v2 st := fun st => by rw [hA]; exact att_1 rfl st
  have a3 : ∀ st, attEv "value" (.exc (xAt 3) (A.getD 3 [])) st = .ok v0 st := fun st => by rw [hA]; exact att_1 rfl st
  have a4 : ∀ st, attEv "value" (.exc (xAt 4) (A.getD 4 [])) st = .ok v1 st := fun st => by rw [hA]; exact att_1 rfl st
  have a5 : ∀ st, attEv "text" (.exc (xAt 5) (A.getD 5 [])) st = .ok t0 st := fun st => by rw [hA]; exact att_2a rfl st
  have b5 : ∀ st, attEv "at" (.exc (xAt 5) (A.getD 5 [])) st = .ok p0 st := fun st => by rw [hA]; exact att_2b rfl (by decide +kernel) st
  have a6 : ∀ st, attEv "line" (.exc (xAt 6) (A.getD 6 [])) st = .ok t1 st := fun st => by rw [hA]; exact att_2a rfl st
  have b6 : ∀ st, attEv "at" (.exc (xAt 6) (A.getD 6 [])) st = .ok p1 st := fun st => by rw [hA]; exact att_2b rfl (by decide +kernel) st
  have a7 : ∀ st, attEv "value" (.exc (xAt 7) (A.getD 7 [])) st = .ok v2 st := fun st => by rw [hA]; exact att_1 rfl st
  have a8 : ∀ st, attEv "claim" (.exc (xAt 8) (A.getD 8 [])) st = .ok cl st := fun st => by rw [hA]; exact att_1 rfl st
  have a9 : ∀ st, attEv "number" (.exc (xAt 9) (A.getD 9 [])) st = .ok n0 st := fun st => by rw [hA]; exact att_1 rfl st
  have a10 : ∀ st, attEv "number" (.exc (xAt 10) (A.getD 10 [])) st = .ok n1 st := fun st => by rw [hA]; exact att_1 rfl st
  have a11 : ∀ st, attEv "name" (.exc (xAt 11) (A.getD 11 [])) st = .ok w7 st := fun st => by rw [hA]; exact att_1 rfl st
  have a12 : ∀ st, attEv "word" (.exc (xAt 12) (A.getD 12 [])) st = .ok u st := fun st => by rw [hA]; exact att_1 rfl st
  have a13 : ∀ st, attEv "what" (.exc (xAt 13) (A.getD 13 [])) st = .ok w st := fun st => by rw [hA]; exact att_1 rfl st
  rw [← hA]
  exact W_rt (v := lA A) (st' := st) (by
    simp only [ev, evs, evk, evf, evi, evo, fin_false, fin_bl, List.getElem?_cons_zero, List.getElem?_cons_succ, List.set_cons_succ, List.set_cons_zero, Pv.R.bind_ok, putK0, j0, j1, j2, j3, j4, j5, j6, j7, j8, j9, j10, j11, j12, j13, a0, a1, a2, a3, a4, a5, b5, a6, b6, a7, a8, a9, a10, a11, a12, a13, List.length_cons, List.length_nil, Nat.zero_add, Nat.reduceAdd, if_true, z14, z1, z2, newL]
    rw [hA]
    rfl) ⟨⟨[], by simp⟩, rfl⟩
def cL (i : Nat) : Val := .lst ((List.range 14).map fun j => .bl (decide (i = j)))
theorem classes_ok (n0 : Nat) (i : Nat) (vs : List Val) (st : Sto) (hi : i < 14) : runF tabT tabG (n0 + 1) 9 [.exc (xAt i) vs] st = .ok (cL i) st := by
  refine call_eq (d := f_l_classes) rfl rfl (by unfold cL; rw [belowV]; exact below_map (fun j => rfl) _) ?_
  show W (evSs _ (_ :: []) [some (.exc (xAt i) vs)] st) _
  have z14 : 14 ≤ sizeLine := by show 14 ≤ 2 ^ 24; decide
  have f : ∀ j, j < 14 → isxEv (xN.getD j "") (.exc (xAt i) vs) = some (decide (i = j)) := fun j hj => isx_of (cls_ok i hi j hj).1 (cls_ok i hi j hj).2
  have f0 : isxEv "InvalidPicture" (.exc (xAt i) vs) = some (decide (i = 0)) := f 0 (by decide)
  have f1 : isxEv "InvalidStream" (.exc (xAt i) vs) = some (decide (i = 1)) := f 1 (by decide)
  have f2 : isxEv "InvalidPlan" (.exc (xAt i) vs) = some (decide (i = 2)) := f 2 (by decide)
  have f3 : isxEv "InvalidTree" (.exc (xAt i) vs) = some (decide (i = 3)) := f 3 (by decide)
  have f4 : isxEv "InvalidNumber" (.exc (xAt i) vs) = some (decide (i = 4)) := f 4 (by decide)
  have f5 : isxEv "InvalidText" (.exc (xAt i) vs) = some (decide (i = 5)) := f 5 (by decide)
  have f6 : isxEv "InvalidLine" (.exc (xAt i) vs) = some (decide (i = 6)) := f 6 (by decide)
  have f7 : isxEv "InvalidClaim" (.exc (xAt i) vs) = some (decide (i = 7)) := f 7 (by decide)
  have f8 : isxEv "Refused" (.exc (xAt i) vs) = some (decide (i = 8)) := f 8 (by decide)
  have f9 : isxEv "NoKey" (.exc (xAt i) vs) = some (decide (i = 9)) := f 9 (by decide)
  have f10 : isxEv "TooLong" (.exc (xAt i) vs) = some (decide (i = 10)) := f 10 (by decide)
  have f11 : isxEv "UnknownName" (.exc (xAt i) vs) = some (decide (i = 11)) := f 11 (by decide)
  have f12 : isxEv "NothingToUndo" (.exc (xAt i) vs) = some (decide (i = 12)) := f 12 (by decide)
  have f13 : isxEv "Undefined" (.exc (xAt i) vs) = some (decide (i = 13)) := f 13 (by decide)
  exact W_rt (v := cL i) (st' := st) (by
    simp only [ev, evs, evk, evf, evi, evo, fin_false, fin_bl, List.getElem?_cons_zero, List.getElem?_cons_succ, List.set_cons_succ, List.set_cons_zero, Pv.R.bind_ok, putK0, f0, f1, f2, f3, f4, f5, f6, f7, f8, f9, f10, f11, f12, f13, List.length_cons, List.length_nil, Nat.zero_add, Nat.reduceAdd, if_true, z14, newL]
    rfl) ⟨⟨[], by simp⟩, rfl⟩
end Pv

set_option Elab.async false
set_option linter.all false
set_option maxRecDepth 100000
set_option maxHeartbeats 1000000
set_option exponentiation.threshold 600
namespace Pv
open PySem
abbrev lvK : Nat := 12
abbrev lawI : Nat := 12
theorem arguments_ok (n0 : Nat) (ns : List Int) (a : Nat) (st : Sto) : ∃ A, Arg A ∧ runF tabT tabG (n0 + 6) 6 [.scr ns, .int a] st = .ok (lA A) st := by
  obtain ⟨v, ⟨A, rfl, hA⟩, e⟩ := call_W (T := tabT) (G := tabG) (n := n0 + 5) (i := 6) (d := f_l_arguments) (args := [.scr ns, .int a]) (st := st) (fun v => ∃ A, v = lA A ∧ Arg A) rfl rfl (by
    show W (evSs _ (_ :: _ :: _ :: _ :: _ :: _ :: _ :: _ :: []) [some (.scr ns), some (.int a), none, none, none, none, none, none, none, none] st) _
    have cel : ∀ k : Nat, ∃ z : Int, runF tabT tabG (n0 + 5) 0 [.scr ns, .int k] st = .ok (.int z) st := fun k => by
      obtain ⟨z, _, e⟩ := cell_ok (n0 + 4) ns k st
      exact ⟨z, e⟩
    obtain ⟨f, hf⟩ := Classical.axiomOfChoice cel
    obtain ⟨cs, hcs⟩ : ∃ cs, cs = tab 8 fun k => f (a + k) := ⟨_, rfl⟩
    have e1 := ev_lc (c := ⟨runF tabT tabG (n0 + 5), tabG⟩) (m := false) (e := .cal 0 [.var 0, .bin .add (.var 1) (.var 9)] []) (tg := .nm 9) (it := .rng [.num 8]) (l := [some (.scr ns), some (.int a), none, none, none, none, none, none, none, none]) (st := st) (items := rngL 0 1 8) (g := []) (fun k => .int (f (a + k))) (by
      simp only [ev, evs, evk, evf, evi, evo, fin_false, fin_bl, List.getElem?_cons_zero, List.getElem?_cons_succ, List.set_cons_succ, List.set_cons_zero, Pv.R.bind_ok, putK0]
      exact rng_n (n := 8) (by decide) st) guard_nil (fun k v hv => by
        obtain ⟨hk, rfl⟩ := rngL_get' hv
        refine ⟨_, rfl, ?_⟩
        rw [show (0 : Int) + (k : Nat) * 1 = (k : Nat) by omega]
        simp only [Tg.slots, wipeE, List.set_cons_succ, List.set_cons_zero]
        have a1 : ∀ st, binEv .add (.int (a : Nat)) (.int (k : Nat)) st = .ok (.int ((a + k : Nat) : Int)) st := fun st => by
          rw [Int.natCast_add]
          rfl
        have := hf (a + k)
        simp only [ev, evs, evk, evf, evi, evo, fin_false, fin_bl, List.getElem?_cons_zero, List.getElem?_cons_succ, List.set_cons_succ, List.set_cons_zero, Pv.R.bind_ok, putK0, a1, this]) (by rw [rngL_len]; show _ ≤ 2 ^ 24; decide)
    rw [rngL_len, ← iL_tab, ← hcs] at e1
    refine W_set (v := .lst (iL cs)) (st' := st) e1 ?_
    simp only [List.set_cons_succ, List.set_cons_zero]
    have hcl : cs.length = 8 := by rw [hcs, tab_len]
    have ci := fun (k : Nat) (hk : k < 8) st => dl_at (ds := cs) (k := k) (z := (k : Nat)) rfl (by omega) st
    have val : ∀ z : Int, ∃ v, Ek 2 500 v ∧ runF tabT tabG (n0 + 5) 4 [.int z, .int 2] st = .ok v st := fun z => value_ok 2 (by decide) n0 z st
    obtain ⟨g, hg⟩ := Classical.axiomOfChoice val
    have e2 := ev_lc (c := ⟨runF tabT tabG (n0 + 5), tabG⟩) (m := false) (e := .cal 4 [.idx (.var 2) (.var 9), .num 2] []) (tg := .nm 9) (it := .rng [.num 3]) (l := [some (.scr ns), some (.int a), some (.lst (iL cs)), none, none, none, none, none, none, none]) (st := st) (items := rngL 0 1 3) (g := []) (fun k => g (gi cs k)) (by
      simp only [ev, evs, evk, evf, evi, evo, fin_false, fin_bl, List.getElem?_cons_zero, List.getElem?_cons_succ, List.set_cons_succ, List.set_cons_zero, Pv.R.bind_ok, putK0]
      exact rng_n (n := 3) (by decide) st) guard_nil (fun k v hv => by
        obtain ⟨hk, rfl⟩ := rngL_get' hv
        refine ⟨_, rfl, ?_⟩
        rw [show (0 : Int) + (k : Nat) * 1 = (k : Nat) by omega]
        simp only [Tg.slots, wipeE, List.set_cons_succ, List.set_cons_zero]
        have i1 := ci k (by omega)
        have := (hg (gi cs k)).2
        simp only [ev, evs, evk, evf, evi, evo, fin_false, fin_bl, List.getElem?_cons_zero, List.getElem?_cons_succ, List.set_cons_succ, List.set_cons_zero, Pv.R.bind_ok, putK0, i1, this]) (by rw [rngL_len]; show _ ≤ 2 ^ 24; decide)
    rw [rngL_len] at e2
    have g0 := (hg (gi cs 0)).1
    have g1 := (hg (gi cs 1)).1
    have g2 := (hg (gi cs 2)).1
    obtain ⟨v0, hv0⟩ : ∃ v, v = g (gi cs 0) := ⟨_, rfl⟩
    obtain ⟨v1, hv1⟩ : ∃ v, v = g (gi cs 1) := ⟨_, rfl⟩
    obtain ⟨v2, hv2⟩ : ∃ v, v = g (gi cs 2) := ⟨_, rfl⟩
    have e2v : (List.range 3).map (fun k => g (gi cs k)) = [v0, v1, v2] := by
      rw [hv0, hv1, hv2]
      rfl
    rw [e2v] at e2
    rw [← hv0] at g0
    rw [← hv1] at g1
    rw [← hv2] at g2
    refine W_set (v := .lst [v0, v1, v2]) (st' := st) e2 ?_
    simp only [List.set_cons_succ, List.set_cons_zero]
    obtain ⟨_, ht0, ⟨T0, rfl, hT0⟩, et0⟩ := text_ok (n0 + 3) (gi cs 3) st
    obtain ⟨_, ht1, ⟨T1, rfl, hT1⟩, et1⟩ := text_ok (n0 + 3) (gi cs 4) st
    have z1 : 1 ≤ sizeLine := by show 1 ≤ 2 ^ 24; decide
    have z2 : 2 ≤ sizeLine := by show 2 ≤ 2 ^ 24; decide
    have z3 : 3 ≤ sizeLine := by show 3 ≤ 2 ^ 24; decide
    have z14 : 14 ≤ sizeLine := by show 14 ≤ 2 ^ 24; decide
    have c3 : ∀ st, idxEv (.lst (iL cs)) (.int 3) st = .ok (.int (gi cs 3)) st := ci 3 (by decide)
    have c4 : ∀ st, idxEv (.lst (iL cs)) (.int 4) st = .ok (.int (gi cs 4)) st := ci 4 (by decide)
    have c5 : ∀ st, idxEv (.lst (iL cs)) (.int 5) st = .ok (.int (gi cs 5)) st := ci 5 (by decide)
    have c6 : ∀ st, idxEv (.lst (iL cs)) (.int 6) st = .ok (.int (gi cs 6)) st := ci 6 (by decide)
    have c7 : ∀ st, idxEv (.lst (iL cs)) (.int 7) st = .ok (.int (gi cs 7)) st := ci 7 (by decide)
    refine W_set (v := .lst [tX T0, tX T1]) (st' := st) (by simp only [ev, evs, evk, evf, evi, evo, fin_false, fin_bl, List.getElem?_cons_zero, List.getElem?_cons_succ, List.set_cons_succ, List.set_cons_zero, Pv.R.bind_ok, putK0, c3, c4, et0, et1, List.length_cons, List.length_nil, Nat.zero_add, Nat.reduceAdd, z2, if_true, newL]) ?_
    simp only [List.set_cons_succ, List.set_cons_zero]
    obtain ⟨ds, l5, d5, e5⟩ := drB_ok (n0 + 4) (gi cs 5) 30000 4 st (by decide) (by decide) (by decide)
    replace e5 : runF tabT tabG (n0 + 5) 1 [.int (gi cs 5), .int 4, .int 30000] st = .ok (.lst (iL ds)) st := e5
    refine W_set (v := .lst (iL ds)) (st' := st) (by simp only [ev, evs, evk, evf, evi, evo, fin_false, fin_bl, List.getElem?_cons_zero, List.getElem?_cons_succ, List.set_cons_succ, List.set_cons_zero, Pv.R.bind_ok, putK0, c5, e5]) ?_
    simp only [List.set_cons_succ, List.set_cons_zero]
    have di := fun (k : Nat) (hk : k < 4) st => dl_at (ds := ds) (k := k) (z := (k : Nat)) rfl (by omega) st
    obtain ⟨tl, htl⟩ : ∃ tl : Nat → List Nat, tl = fun k => if k = 0 then T0 else T1 := ⟨_, rfl⟩
    have tlb : ∀ k, (tl k).length ≤ 12 := fun k => by rw [htl]; dsimp only; split <;> omega
    have ti : ∀ (k : Nat), k < 2 → ∀ st, idxEv (.lst [tX T0, tX T1]) (.int (k : Nat)) st = .ok (tX (tl k)) st := fun k hk st => by
      rw [htl]
      obtain rfl | rfl : k = 0 ∨ k = 1 := by omega
      · rfl
      · rfl
    have e6 := ev_lc (c := ⟨runF tabT tabG (n0 + 5), tabG⟩) (m := false) (e := .bin .mod (.blt .int [.idx (.var 5) (.var 9)]) (.bin .add (.blt .len [.idx (.var 4) (.var 9)]) (.num 1))) (tg := .nm 9) (it := .rng [.num 2]) (l := [some (.scr ns), some (.int a), some (.lst (iL cs)), some (.lst [v0, v1, v2]), some (.lst [tX T0, tX T1]), some (.lst (iL ds)), none, none, none, none]) (st := st) (items := rngL 0 1 2) (g := []) (fun k => .int (gi ds k % ((tl k).length + 1 : Nat))) (by
      simp only [ev, evs, evk, evf, evi, evo, fin_false, fin_bl, List.getElem?_cons_zero, List.getElem?_cons_succ, List.set_cons_succ, List.set_cons_zero, Pv.R.bind_ok, putK0]
      exact rng_n (n := 2) (by decide) st) guard_nil (fun k v hv => by
        obtain ⟨hk, rfl⟩ := rngL_get' hv
        refine ⟨_, rfl, ?_⟩
        rw [show (0 : Int) + (k : Nat) * 1 = (k : Nat) by omega]
        simp only [Tg.slots, wipeE, List.set_cons_succ, List.set_cons_zero]
        have i1 := di k (by omega)
        have i2 := ti k hk
        have ln := fun st => len_S (l := tl k) (by have := tlb k; omega) st
        have a1 : ∀ st, binEv .add (.int ((tl k).length : Nat)) (.int 1) st = .ok (.int (((tl k).length + 1 : Nat) : Int)) st := fun st => by
          rw [Int.natCast_add]
          rfl
        have m1 := fun st => mod_nb (gi ds k) (((tl k).length + 1 : Nat) : Int) st (by omega)
        simp only [ev, evs, evk, evf, evi, evo, fin_false, fin_bl, List.getElem?_cons_zero, List.getElem?_cons_succ, List.set_cons_succ, List.set_cons_zero, Pv.R.bind_ok, putK0, i1, i_int, i2, ln, a1, m1]) (by rw [rngL_len]; show _ ≤ 2 ^ 24; decide)
    rw [rngL_len] at e6
    obtain ⟨p0, hp0⟩ : ∃ p : Int, p = gi ds 0 % ((tl 0).length + 1 : Nat) := ⟨_, rfl⟩
    obtain ⟨p1, hp1⟩ : ∃ p : Int, p = gi ds 1 % ((tl 1).length + 1 : Nat) := ⟨_, rfl⟩
    have e6v : (List.range 2).map (fun k => Val.int (gi ds k % ((tl k).length + 1 : Nat))) = [.int p0, .int p1] := by
      rw [hp0, hp1]
      rfl
    rw [e6v] at e6
    refine W_set (v := .lst [.int p0, .int p1]) (st' := st) e6 ?_
    simp only [List.set_cons_succ, List.set_cons_zero]
    have e7 := ev_lc (c := ⟨runF tabT tabG (n0 + 5), tabG⟩) (m := false) (e := .bin .mul (.blt .int [.bin .fdiv (.idx (.var 5) (.bin .add (.num 2) (.var 9))) (.num 3)]) (.bin .mod (.blt .int [.idx (.var 5) (.bin .add (.num 2) (.var 9))]) (.num 3))) (tg := .nm 9) (it := .rng [.num 2]) (l := [some (.scr ns), some (.int a), some (.lst (iL cs)), some (.lst [v0, v1, v2]), some (.lst [tX T0, tX T1]), some (.lst (iL ds)), some (.lst [.int p0, .int p1]), none, none, none]) (st := st) (items := rngL 0 1 2) (g := []) (fun k => .int (gi ds (2 + k) / 3 * (gi ds (2 + k) % 3))) (by
      simp only [ev, evs, evk, evf, evi, evo, fin_false, fin_bl, List.getElem?_cons_zero, List.getElem?_cons_succ, List.set_cons_succ, List.set_cons_zero, Pv.R.bind_ok, putK0]
      exact rng_n (n := 2) (by decide) st) guard_nil (fun k v hv => by
        obtain ⟨hk, rfl⟩ := rngL_get' hv
        refine ⟨_, rfl, ?_⟩
        rw [show (0 : Int) + (k : Nat) * 1 = (k : Nat) by omega]
        simp only [Tg.slots, wipeE, List.set_cons_succ, List.set_cons_zero]
        have i1 := di (2 + k) (by omega)
        have a1 : ∀ st, binEv .add (.int 2) (.int (k : Nat)) st = .ok (.int ((2 + k : Nat) : Int)) st := fun st => by
          rw [Int.natCast_add]
          rfl
        have d3 := fun st => div_n (gi ds (2 + k)) 3 st (by decide) (by decide)
        have m3 := fun st => mod_n (gi ds (2 + k)) 3 st (by decide) (by decide)
        have ml : ∀ st, binEv .mul (.int (gi ds (2 + k) / 3)) (.int (gi ds (2 + k) % 3)) st = .ok (.int (gi ds (2 + k) / 3 * (gi ds (2 + k) % 3))) st := fun st => by
          simp only [binEv, opI]
          rw [if_pos (mul_r (by omega) (by omega))]
        simp only [ev, evs, evk, evf, evi, evo, fin_false, fin_bl, List.getElem?_cons_zero, List.getElem?_cons_succ, List.set_cons_succ, List.set_cons_zero, Pv.R.bind_ok, putK0, a1, i1, i_int, d3, m3, ml]) (by rw [rngL_len]; show _ ≤ 2 ^ 24; decide)
    rw [rngL_len] at e7
    obtain ⟨m0, hm0⟩ : ∃ p : Int, p = gi ds 2 / 3 * (gi ds 2 % 3) := ⟨_, rfl⟩
    obtain ⟨m1, hm1⟩ : ∃ p : Int, p = gi ds 3 / 3 * (gi ds 3 % 3) := ⟨_, rfl⟩
    have e7v : (List.range 2).map (fun k => Val.int (gi ds (2 + k) / 3 * (gi ds (2 + k) % 3))) = [.int m0, .int m1] := by
      rw [hm0, hm1]
      rfl
    rw [e7v] at e7
    refine W_set (v := .lst [.int m0, .int m1]) (st' := st) e7 ?_
    simp only [List.set_cons_succ, List.set_cons_zero]
    obtain ⟨w6, hw6, ew6⟩ := word_ok (n0 + 3) (gi cs 6) st
    obtain ⟨w7, hw7, ew7⟩ := word_ok (n0 + 3) (gi cs 7) st
    obtain ⟨w8, hw8, ew8⟩ := word_ok (n0 + 3) (gi cs 6 + 1) st
    have q0 : ∀ x y z st, idxEv (.lst [x, y, z]) (.int 0) st = .ok x st := fun _ _ _ _ => rfl
    have q1 : ∀ x y z st, idxEv (.lst [x, y, z]) (.int 1) st = .ok y st := fun _ _ _ _ => rfl
    have q2 : ∀ x y z st, idxEv (.lst [x, y, z]) (.int 2) st = .ok z st := fun _ _ _ _ => rfl
    refine W_set (v := .tup [w6, v0, v1]) (st' := st) (by simp only [ev, evs, evk, evf, evi, evo, fin_false, fin_bl, List.getElem?_cons_zero, List.getElem?_cons_succ, List.set_cons_succ, List.set_cons_zero, Pv.R.bind_ok, putK0, c6, ew6, q0, q1, List.length_cons, List.length_nil, Nat.zero_add, Nat.reduceAdd, z3, if_true]) ?_
    simp only [List.set_cons_succ, List.set_cons_zero]
    have r0 : ∀ x y st, idxEv (.lst [x, y]) (.int 0) st = .ok x st := fun _ _ _ => rfl
    have r1 : ∀ x y st, idxEv (.lst [x, y]) (.int 1) st = .ok y st := fun _ _ _ => rfl
    have m2 := fun st => mod_n m0 2 st (by decide) (by decide)
    obtain ⟨b, hb⟩ : ∃ b, b = m0 % 2 := ⟨_, rfl⟩
    rw [← hb] at m2
    obtain ⟨u, hu, ub⟩ : ∃ u, (∀ k, Ek k 20 u) ∧ ∀ st, idxEv (.lst [.str "undo", .str "redo"]) (.int b) st = .ok u st := by
      have s1 : vk (.str "undo") = true := sOk_str "undo"
      have s2 : vk (.str "redo") = true := sOk_str "redo"
      obtain h | h : b = 0 ∨ b = 1 := by omega
      · exact ⟨.str "undo", fun k => ⟨s1, by decide +kernel, Nat.zero_le _⟩, fun st => by rw [h]; rfl⟩
      · exact ⟨.str "redo", fun k => ⟨s2, by decide +kernel, Nat.zero_le _⟩, fun st => by rw [h]; rfl⟩
    have ad := fun st => add_n (gi cs 6) 1 st
    have hek : Arg (AG v0 v1 v2 (tX T0) (.int p0) (tX T1) (.int p1) (.tup [w6, v0, v1]) (.int m0) (.int m1) w7 u w8) := by
      refine ⟨_, _, _, _, _, _, _, _, _, _, _, _, _, rfl, fun x hx => ?_⟩
      simp only [List.mem_cons, List.not_mem_nil, or_false] at hx
      rcases hx with rfl | rfl | rfl | rfl | rfl | rfl | rfl | rfl | rfl | rfl | rfl | rfl | rfl
      · exact g0.mono (by decide) (by decide)
      · exact g1.mono (by decide) (by decide)
      · exact g2.mono (by decide) (by decide)
      · exact (ht0 0).mono (by decide) (by decide)
      · exact ek_int _
      · exact (ht1 0).mono (by decide) (by decide)
      · exact ek_int _
      · exact (ek_tup (n := 3) (k := 2) (b := 500) (fun y hy => by
          simp only [List.mem_cons, List.not_mem_nil, or_false] at hy
          rcases hy with rfl | rfl | rfl
          · exact (hw6 2).mono (Nat.le_refl _) (by decide)
          · exact g0
          · exact g1) (by simp)).mono (Nat.le_refl _) (by decide)
      · exact ek_int _
      · exact ek_int _
      · exact (hw7 0).mono (by decide) (by decide)
      · exact (hu 0).mono (by decide) (by decide)
      · exact (hw8 0).mono (by decide) (by decide)
    exact W_rt (v := lA (AG v0 v1 v2 (tX T0) (.int p0) (tX T1) (.int p1) (.tup [w6, v0, v1]) (.int m0) (.int m1) w7 u w8)) (st' := st) (by
      simp only [ev, evs, evk, evf, evi, evo, fin_false, fin_bl, List.getElem?_cons_zero, List.getElem?_cons_succ, List.set_cons_succ, List.set_cons_zero, Pv.R.bind_ok, putK0, q0, q1, q2, r0, r1, c7, ew7, c6, ad, ew8, i_int, m2, ub, List.length_cons, List.length_nil, Nat.zero_add, Nat.reduceAdd, z1, z2, z14, if_true, newL]
      rfl) ⟨⟨[], by simp⟩, below_vk _ _ (lA_ek hek).ok, _, rfl, hek⟩)
  exact ⟨A, hA, e⟩
/-! raised and caught -/
theorem try_one {c : Cn} {b : List Sm} {j : Nat} {es : List Xp} {l l1 : Env} {st : Sto} {x : Xn} {v : Val} {i : Nat} (hb : evSs c b l st = .exn x l1 st) (h1 : x.d.all.contains "TideError" = true) (h2 : x.d.anc.contains "TideError" = true)
    (he : ev c false (.lst false es) (l1.set i (some x.v)) st = .ok v st) : evS c (.tryx b [.mk "TideError" (some i) [.set j (.lst false es)]]) l st = .nx (((l1.set i (some x.v)).set j (some v)).set i none) st := by
  rw [evS, hb]
  simp only [evHs, h1, h2, bindX]
  rw [evSs_nx (evS_set he), evSs]
  rfl
theorem X_ifr {c : Cn} {d : Xp} {k : Xc} {es : List Xp} {ss : List Sm} {b : List Sm} {l : Env} {st st' st2 : Sto} {xs : List Val} (h : ev c true d l st = .ok (.bl true) st') (h2 : evs c es l st' = .ok xs st2) (hl : xs.length = k.fs.length) : evSs c (.ife d [.raise k es] b :: ss) l st = .exn ⟨k, xs⟩ l st2 := by
  refine evSs_exn ?_
  rw [evS_if1 h]
  exact evSs_exn (by simp only [evS, h2, R.fl_ok, if_pos hl])
theorem X_if0 {c : Cn} {d : Xp} {a ss : List Sm} {l : Env} {st st' : Sto} (h : ev c true d l st = .ok (.bl false) st') : evSs c (.ife d a [] :: ss) l st = evSs c ss l st' := by
  rw [evSs_nx (l' := l) (st' := st') (by rw [evS_if0 h, evSs])]
theorem at_A {A : List (List Val)} {i : Nat} {z : Int} (hz : z = i) (hi : i < A.length) (st : Sto) : idxEv (lA A) (.int z) st = .ok (.lst (A.getD i [])) st := by
  have : L2.atI (A.map Val.lst) z = some (.lst (A.getD i [])) := by
    rw [hz, atI_nat (by rw [List.length_map]; exact hi)]
    simp [hi]
  unfold lA idxEv
  simp only [sview, this]
theorem raisedv_ok (n0 : Nat) (k : Int) (A : List (List Val)) (st : Sto) (hA : Arg A) (h0 : 0 ≤ k) (h4 : k < 4) : runF tabT tabG (n0 + 10) 10 [.int k, lA A] st = .ok (.bl true) st := by
  refine call_eq (d := f_l_raised_value) rfl rfl rfl ?_
  show W (evSs _ (_ :: _ :: _ :: []) [some (.int k), some (lA A), none, none] st) _
  have z0 : (0 : Nat) ≤ sizeLine := Nat.zero_le _
  have z1 : 1 ≤ sizeLine := by show 1 ≤ 2 ^ 24; decide
  have z4 : 4 ≤ sizeLine := by show 4 ≤ 2 ^ 24; decide
  refine W_set (v := .lst []) (st' := st) (by simp only [ev, evs, evk, evf, evi, evo, fin_false, fin_bl, List.getElem?_cons_zero, List.getElem?_cons_succ, List.set_cons_succ, List.set_cons_zero, Pv.R.bind_ok, putK0, List.length_nil, z0, if_true, newL]) ?_
  simp only [List.set_cons_succ, List.set_cons_zero]
  have h14 := (arg_mem hA).1
  have ce : ∀ (a b : Int) st, cmEv .eq (.int a) (.int b) st = .ok (.bl (decide (a = b))) st := fun a b st => by simp only [cmEv, eqEv]
  have q1 : ∀ x st, idxEv (.lst [x]) (.int 0) st = .ok x st := fun _ _ => rfl
  -- which one is raised
  have key : ∀ i : Nat, i < 14 → ∀ v : Val, A.getD i [] = [v] → ∀ b : List Sm, evSs ⟨runF tabT tabG (n0 + 9), tabG⟩ b [some (.int k), some (lA A), some (.lst []), none] st = .exn ⟨xAt i, [v]⟩ [some (.int k), some (lA A), some (.lst []), none] st → (xAt i).fs = [("value" : Str)] →
      gi [0, 1, 4, 3] k.toNat = (i : Nat) →
      W (evSs ⟨runF tabT tabG (n0 + 9), tabG⟩ [.tryx b [.mk "TideError" (some 3) [.set 2 (.lst false [.att (.var 3) "value"])]], .ret (.cal 5 [.var 2, .idx (.var 1) (.idx (.lst false [.num 0, .num 1, .num 4, .num 3]) (.var 0))] [])] [some (.int k), some (lA A), some (.lst []), none] st) { R := fun u st' => (∃ e, st' = st ++ e) ∧ u = Val.bl true } := fun i hi v hv b hb hf hg => by
    have at1 := fun st => att_1 (d := xAt i) (f := "value") (v := v) hf st
    have et := try_one (c := ⟨runF tabT tabG (n0 + 9), tabG⟩) (j := 2) (es := [.att (.var 3) "value"]) (i := 3) (v := .lst [v]) hb (tide_ok i hi).1 (tide_ok i hi).2.1 (by
      simp only [Xn.v, List.set_cons_succ, List.set_cons_zero]
      simp only [ev, evs, evk, evf, evi, evo, fin_false, fin_bl, List.getElem?_cons_zero, List.getElem?_cons_succ, List.set_cons_succ, List.set_cons_zero, Pv.R.bind_ok, putK0, at1, List.length_cons, List.length_nil, Nat.zero_add, z1, if_true, newL])
    simp only [List.set_cons_succ, List.set_cons_zero] at et
    rw [evSs_nx et]
    have pk := pick_ok (c := ⟨runF tabT tabG (n0 + 9), tabG⟩) (l := [some (.int k), some (lA A), some (.lst [v]), none]) (st := st) (st' := st) (es := [.num 0, .num 1, .num 4, .num 3]) (L := [0, 1, 4, 3]) (i := .var 0) (x := k) (by
      simp only [ev, evs, evk, evf, evi, evo, fin_false, fin_bl, List.getElem?_cons_zero, List.getElem?_cons_succ, List.set_cons_succ, List.set_cons_zero, Pv.R.bind_ok, putK0]
      rfl) (by simp only [ev, evs, evk, evf, evi, evo, fin_false, fin_bl, List.getElem?_cons_zero, List.getElem?_cons_succ, List.set_cons_succ, List.set_cons_zero, Pv.R.bind_ok, putK0]) h0 (by simp only [List.length_cons, List.length_nil]; omega) (by simp)
    rw [hg] at pk
    have ia := fun st => at_A (A := A) (i := i) (z := (i : Nat)) rfl (by omega) st
    rw [hv] at ia
    have hm : [v] ∈ A := by
      rw [← hv]
      have : A.getD i [] = A[i]'(by omega) := by simp [show i < A.length by omega]
      rw [this]
      exact List.getElem_mem _
    have ek := lst_ek ((arg_mem hA).2 _ hm)
    have sm := same_val 4 (.lst [v]) (n0 + 4) st ek.dep ek.ok (Nat.le_trans ek.blk (by decide))
    replace sm : runF tabT tabG (n0 + 9) 5 [.lst [v], .lst [v]] st = .ok (.bl true) st := sm
    have e2 : ev ⟨runF tabT tabG (n0 + 9), tabG⟩ false (.idx (.var 1) (.idx (.lst false [.num 0, .num 1, .num 4, .num 3]) (.var 0))) [some (.int k), some (lA A), some (.lst [v]), none] st = .ok (.lst [v]) st := by
      have ev1 : ev ⟨runF tabT tabG (n0 + 9), tabG⟩ false (.var 1) [some (.int k), some (lA A), some (.lst [v]), none] st = .ok (lA A) st := by simp only [ev, evs, evk, evf, evi, evo, fin_false, fin_bl, List.getElem?_cons_zero, List.getElem?_cons_succ, List.set_cons_succ, List.set_cons_zero, Pv.R.bind_ok, putK0]
      rw [ev, ev1]
      simp only [R.bind_ok, pk, ia, fin_false]
    have e3 : evs ⟨runF tabT tabG (n0 + 9), tabG⟩ [.var 2, .idx (.var 1) (.idx (.lst false [.num 0, .num 1, .num 4, .num 3]) (.var 0))] [some (.int k), some (lA A), some (.lst [v]), none] st = .ok [.lst [v], .lst [v]] st := evs_cons (by simp only [ev, evs, evk, evf, evi, evo, fin_false, fin_bl, List.getElem?_cons_zero, List.getElem?_cons_succ, List.set_cons_succ, List.set_cons_zero, Pv.R.bind_ok, putK0]) (evs_cons e2 evs_nil)
    exact W_rt (ev_cal e3 sm) ⟨⟨[], by simp⟩, rfl⟩
  obtain ⟨v0, v1, v2, t0, p0, t1, p1, cl, m0, m1, w7, u, w, hAe, hx⟩ := id hA
  have i0 := fun st => at_A (A := A) (i := 0) (z := 0) rfl (by omega) st
  have i1 := fun st => at_A (A := A) (i := 1) (z := 1) rfl (by omega) st
  have i3 := fun st => at_A (A := A) (i := 3) (z := 3) rfl (by omega) st
  have i4 := fun st => at_A (A := A) (i := 4) (z := 4) rfl (by omega) st
  have g0 : A.getD 0 [] = [v0] := by rw [hAe]; rfl
  have g1 : A.getD 1 [] = [v1] := by rw [hAe]; rfl
  have g3 : A.getD 3 [] = [v0] := by rw [hAe]; rfl
  have g4 : A.getD 4 [] = [v1] := by rw [hAe]; rfl
  rw [g0] at i0
  rw [g1] at i1
  rw [g3] at i3
  rw [g4] at i4
  have k0 := fun st => ce k 0 st
  have k1 := fun st => ce k 1 st
  have k2 := fun st => ce k 2 st
  obtain rfl | rfl | rfl | rfl : k = 0 ∨ k = 1 ∨ k = 2 ∨ k = 3 := by omega
  · refine key 0 (by decide) v0 g0 _ ?_ rfl rfl
    refine X_ifr (k := xAt 0) (st' := st) (st2 := st) (xs := [v0]) ?_ ?_ rfl
    · simp only [ev, evs, evk, evf, evi, evo, fin_false, fin_bl, List.getElem?_cons_zero, List.getElem?_cons_succ, List.set_cons_succ, List.set_cons_zero, Pv.R.bind_ok, putK0, k0]
      rfl
    · simp only [ev, evs, evk, evf, evi, evo, fin_false, fin_bl, List.getElem?_cons_zero, List.getElem?_cons_succ, List.set_cons_succ, List.set_cons_zero, Pv.R.bind_ok, putK0, i0, q1]
  · refine key 1 (by decide) v1 g1 _ ?_ rfl rfl
    refine (X_if0 (st' := st) ?_).trans (X_ifr (k := xAt 1) (st' := st) (st2 := st) (xs := [v1]) ?_ ?_ rfl)
    · simp only [ev, evs, evk, evf, evi, evo, fin_false, fin_bl, List.getElem?_cons_zero, List.getElem?_cons_succ, List.set_cons_succ, List.set_cons_zero, Pv.R.bind_ok, putK0, k0]
      rfl
    · simp only [ev, evs, evk, evf, evi, evo, fin_false, fin_bl, List.getElem?_cons_zero, List.getElem?_cons_succ, List.set_cons_succ, List.set_cons_zero, Pv.R.bind_ok, putK0, k1]
      rfl
    · simp only [ev, evs, evk, evf, evi, evo, fin_false, fin_bl, List.getElem?_cons_zero, List.getElem?_cons_succ, List.set_cons_succ, List.set_cons_zero, Pv.R.bind_ok, putK0, i1, q1]
  · refine key 4 (by decide) v1 g4 _ ?_ rfl rfl
    refine (X_if0 (st' := st) ?_).trans ((X_if0 (st' := st) ?_).trans (X_ifr (k := xAt 4) (st' := st) (st2 := st) (xs := [v1]) ?_ ?_ rfl))
    · simp only [ev, evs, evk, evf, evi, evo, fin_false, fin_bl, List.getElem?_cons_zero, List.getElem?_cons_succ, List.set_cons_succ, List.set_cons_zero, Pv.R.bind_ok, putK0, k0]
      rfl
    · simp only [ev, evs, evk, evf, evi, evo, fin_false, fin_bl, List.getElem?_cons_zero, List.getElem?_cons_succ, List.set_cons_succ, List.set_cons_zero, Pv.R.bind_ok, putK0, k1]
      rfl
    · simp only [ev, evs, evk, evf, evi, evo, fin_false, fin_bl, List.getElem?_cons_zero, List.getElem?_cons_succ, List.set_cons_succ, List.set_cons_zero, Pv.R.bind_ok, putK0, k2]
      rfl
    · simp only [ev, evs, evk, evf, evi, evo, fin_false, fin_bl, List.getElem?_cons_zero, List.getElem?_cons_succ, List.set_cons_succ, List.set_cons_zero, Pv.R.bind_ok, putK0, i4, q1]
  · refine key 3 (by decide) v0 g3 _ ?_ rfl rfl
    refine (X_if0 (st' := st) ?_).trans ((X_if0 (st' := st) ?_).trans ((X_if0 (st' := st) ?_).trans (evSs_exn ?_)))
    · simp only [ev, evs, evk, evf, evi, evo, fin_false, fin_bl, List.getElem?_cons_zero, List.getElem?_cons_succ, List.set_cons_succ, List.set_cons_zero, Pv.R.bind_ok, putK0, k0]
      rfl
    · simp only [ev, evs, evk, evf, evi, evo, fin_false, fin_bl, List.getElem?_cons_zero, List.getElem?_cons_succ, List.set_cons_succ, List.set_cons_zero, Pv.R.bind_ok, putK0, k1]
      rfl
    · simp only [ev, evs, evk, evf, evi, evo, fin_false, fin_bl, List.getElem?_cons_zero, List.getElem?_cons_succ, List.set_cons_succ, List.set_cons_zero, Pv.R.bind_ok, putK0, k2]
      rfl
    · have e : evs ⟨runF tabT tabG (n0 + 9), tabG⟩ [.idx (.idx (.var 1) (.num 3)) (.num 0)] [some (.int 3), some (lA A), some (.lst []), none] st = .ok [v0] st := by simp only [ev, evs, evk, evf, evi, evo, fin_false, fin_bl, List.getElem?_cons_zero, List.getElem?_cons_succ, List.set_cons_succ, List.set_cons_zero, Pv.R.bind_ok, putK0, i3, q1]
      have hl : [v0].length = (xAt 3).fs.length := rfl
      show evS _ (.raise (xAt 3) _) _ _ = _
      simp only [evS, e, R.fl_ok, if_pos hl]
theorem raisedp_ok (n0 : Nat) (A : List (List Val)) (st : Sto) (hA : Arg A) : runF tabT tabG (n0 + 10) 11 [lA A] st = .ok (.bl true) st := by
  refine call_eq (d := f_l_raised_place) rfl rfl rfl ?_
  show W (evSs _ (_ :: _ :: _ :: []) [some (lA A), none, none] st) _
  have z0 : (0 : Nat) ≤ sizeLine := Nat.zero_le _
  have z2 : 2 ≤ sizeLine := by show 2 ≤ 2 ^ 24; decide
  refine W_set (v := .lst []) (st' := st) (by simp only [ev, evs, evk, evf, evi, evo, fin_false, fin_bl, List.getElem?_cons_zero, List.getElem?_cons_succ, List.set_cons_succ, List.set_cons_zero, Pv.R.bind_ok, putK0, List.length_nil, z0, if_true, newL]) ?_
  simp only [List.set_cons_succ, List.set_cons_zero]
  have h14 := (arg_mem hA).1
  obtain ⟨v0, v1, v2, t0, p0, t1, p1, cl, m0, m1, w7, u, w, hAe, hx⟩ := id hA
  have i5 := fun st => at_A (A := A) (i := 5) (z := 5) rfl (by omega) st
  have g5 : A.getD 5 [] = [t0, p0] := by rw [hAe]; rfl
  rw [g5] at i5
  have q2 : ∀ x y st, idxEv (.lst [x, y]) (.int 0) st = .ok x st := fun _ _ _ => rfl
  have q3 : ∀ x y st, idxEv (.lst [x, y]) (.int 1) st = .ok y st := fun _ _ _ => rfl
  have ee : evs ⟨runF tabT tabG (n0 + 9), tabG⟩ [.idx (.idx (.var 0) (.num 5)) (.num 0), .idx (.idx (.var 0) (.num 5)) (.num 1)] [some (lA A), some (.lst []), none] st = .ok [t0, p0] st := by simp only [ev, evs, evk, evf, evi, evo, fin_false, fin_bl, List.getElem?_cons_zero, List.getElem?_cons_succ, List.set_cons_succ, List.set_cons_zero, Pv.R.bind_ok, putK0, i5, q2, q3]
  have hl : [t0, p0].length = (xAt 5).fs.length := rfl
  have hb : evSs ⟨runF tabT tabG (n0 + 9), tabG⟩ [.raise (xAt 5) [.idx (.idx (.var 0) (.num 5)) (.num 0), .idx (.idx (.var 0) (.num 5)) (.num 1)]] [some (lA A), some (.lst []), none] st = .exn ⟨xAt 5, [t0, p0]⟩ [some (lA A), some (.lst []), none] st := evSs_exn (by
    simp only [evS, ee, R.fl_ok, if_pos hl])
  have at1 := fun st => att_2a (d := xAt 5) (f := "text") (g := "at") (v := t0) (w := p0) rfl st
  have at2 := fun st => att_2b (d := xAt 5) (f := "text") (g := "at") (v := t0) (w := p0) rfl (by decide +kernel) st
  have et := try_one (c := ⟨runF tabT tabG (n0 + 9), tabG⟩) (j := 1) (es := [.att (.var 2) "text", .att (.var 2) "at"]) (i := 2) (v := .lst [t0, p0]) hb (tide_ok 5 (by decide)).1 (tide_ok 5 (by decide)).2.1 (by
    simp only [Xn.v, List.set_cons_succ, List.set_cons_zero]
    simp only [ev, evs, evk, evf, evi, evo, fin_false, fin_bl, List.getElem?_cons_zero, List.getElem?_cons_succ, List.set_cons_succ, List.set_cons_zero, Pv.R.bind_ok, putK0, at1, at2, List.length_cons, List.length_nil, Nat.zero_add, Nat.reduceAdd, z2, if_true, newL])
  simp only [List.set_cons_succ, List.set_cons_zero] at et
  show W (evSs _ (.tryx [.raise (xAt 5) _] _ :: _) _ _) _
  rw [evSs_nx et]
  have hm : [t0, p0] ∈ A := by
    rw [hAe]
    unfold AG
    simp
  have ek := lst_ek ((arg_mem hA).2 _ hm)
  have sm := same_val 4 (.lst [t0, p0]) (n0 + 4) st ek.dep ek.ok (Nat.le_trans ek.blk (by decide))
  replace sm : runF tabT tabG (n0 + 9) 5 [.lst [t0, p0], .lst [t0, p0]] st = .ok (.bl true) st := sm
  exact W_rt (v := .bl true) (st' := st) (by simp only [ev, evs, evk, evf, evi, evo, fin_false, fin_bl, List.getElem?_cons_zero, List.getElem?_cons_succ, List.set_cons_succ, List.set_cons_zero, Pv.R.bind_ok, putK0, i5, sm]) ⟨⟨[], by simp⟩, rfl⟩
def lwI (ns : List Int) (S M : Val) (st : Sto) (j : Nat) (l : Env) (s : Sto) : Prop := ∃ x3 x4 x5, l = [some (.scr ns), some S, some M, x3, x4, x5] ∧ s = st
def lwJ (ns : List Int) (S M : Val) (k : Nat) (st : Sto) (j : Nat) (l : Env) (s : Sto) : Prop := ∃ x4 x5, l = [some (.scr ns), some S, some M, some (.int k), x4, x5] ∧ s = st
theorem law_run (n0 : Nat) (ns : List Int) (st : Sto) : runF tabT tabG (n0 + 11) lawI [.scr ns] st = .ok (.bl true) st := by
  refine call_eq (d := f_law) rfl rfl rfl ?_
  show W (evSs _ (_ :: _ :: _ :: _ :: []) [some (.scr ns), none, none, none, none, none] st) _
  obtain ⟨A, hA, eA0⟩ := arguments_ok (n0 + 4) ns 0 st
  obtain ⟨B, hB, eB0⟩ := arguments_ok (n0 + 4) ns 8 st
  replace eA0 : runF tabT tabG (n0 + 10) 6 [.scr ns, .int 0] st = .ok (lA A) st := eA0
  replace eB0 : runF tabT tabG (n0 + 10) 6 [.scr ns, .int 8] st = .ok (lA B) st := eB0
  have z2 : 2 ≤ sizeLine := by show 2 ≤ 2 ^ 24; decide
  refine W_set (v := .lst [lA A, lA B]) (st' := st) (by simp only [ev, evs, evk, evf, evi, evo, fin_false, fin_bl, List.getElem?_cons_zero, List.getElem?_cons_succ, List.set_cons_succ, List.set_cons_zero, Pv.R.bind_ok, putK0, eA0, eB0, List.length_cons, List.length_nil, Nat.zero_add, Nat.reduceAdd, z2, if_true, newL]) ?_
  simp only [List.set_cons_succ, List.set_cons_zero]
  have mA := made_ok (n0 + 9) A st hA
  have mB := made_ok (n0 + 9) B st hB
  have r0 : ∀ x y st, idxEv (.lst [x, y]) (.int 0) st = .ok x st := fun _ _ _ => rfl
  have r1 : ∀ x y st, idxEv (.lst [x, y]) (.int 1) st = .ok y st := fun _ _ _ => rfl
  refine W_set (v := .lst [.lst (eA A), .lst (eA B)]) (st' := st) (by simp only [ev, evs, evk, evf, evi, evo, fin_false, fin_bl, List.getElem?_cons_zero, List.getElem?_cons_succ, List.set_cons_succ, List.set_cons_zero, Pv.R.bind_ok, putK0, r0, r1, mA, mB, List.length_cons, List.length_nil, Nat.zero_add, Nat.reduceAdd, z2, if_true, newL]) ?_
  simp only [List.set_cons_succ, List.set_cons_zero]
  refine W_fr0 (lwI ns (.lst [lA A, lA B]) (.lst [.lst (eA A), .lst (eA B)]) st) (n := 2) (st1 := st) (by
    simp only [ev, evs, evk, evf, evi, evo, fin_false, fin_bl, List.getElem?_cons_zero, List.getElem?_cons_succ, List.set_cons_succ, List.set_cons_zero, Pv.R.bind_ok, putK0]
    exact rng_n (n := 2) (by decide) _) ⟨none, none, none, rfl, rfl⟩ ?_ ?_
  · rintro k l s hk ⟨x3, x4, x5, rfl, rfl⟩
    simp only [List.set_cons_succ, List.set_cons_zero]
    obtain ⟨D, hD, iS, iM⟩ : ∃ D, Arg D ∧ (∀ st, idxEv (.lst [lA A, lA B]) (.int (k : Nat)) st = .ok (lA D) st) ∧ (∀ st, idxEv (.lst [.lst (eA A), .lst (eA B)]) (.int (k : Nat)) st = .ok (.lst (eA D)) st) := by
      obtain rfl | rfl : k = 0 ∨ k = 1 := by omega
      · exact ⟨A, hA, fun _ => rfl, fun _ => rfl⟩
      · exact ⟨B, hB, fun _ => rfl, fun _ => rfl⟩
    have fd := fields_ok (n0 + 9) D s hD
    have ek := lA_ek hD
    have sm := same_val 5 (lA D) (n0 + 4) s ek.dep ek.ok (Nat.le_trans ek.blk (by decide))
    replace sm : runF tabT tabG (n0 + 10) 5 [lA D, lA D] s = .ok (.bl true) s := sm
    refine W_if0 (st' := s) (by
      simp only [ev, evs, evk, evf, evi, evo, fin_false, fin_bl, List.getElem?_cons_zero, List.getElem?_cons_succ, List.set_cons_succ, List.set_cons_zero, Pv.R.bind_ok, putK0, iS, iM, fd, sm]
      rfl) ?_
    rw [List.nil_append]
    refine W_fr0 (lwJ ns (.lst [lA A, lA B]) (.lst [.lst (eA A), .lst (eA B)]) k s) (n := 14) (st1 := s) (by
      simp only [ev, evs, evk, evf, evi, evo, fin_false, fin_bl, List.getElem?_cons_zero, List.getElem?_cons_succ, List.set_cons_succ, List.set_cons_zero, Pv.R.bind_ok, putK0]
      exact rng_n (n := 14) (by decide) _) ⟨_, _, rfl, rfl⟩ ?_ ?_
    · rintro i l s hi ⟨x4, x5, rfl, rfl⟩
      simp only [List.set_cons_succ, List.set_cons_zero]
      have ie := fun st => at_E (A := D) (i := i) (z := (i : Nat)) rfl hi st
      obtain ⟨t1, t2, t3, t4⟩ := tide_ok i hi
      have x1 : isxEv "TideError" (.exc (xAt i) (D.getD i [])) = some true := isx_of t1 t2
      have x2 : isxEv "ValueError" (.exc (xAt i) (D.getD i [])) = some true := isx_of t3 t4
      refine W_if0 (st' := s) (by
        simp only [ev, evs, evk, evf, evi, evo, fin_false, fin_bl, List.getElem?_cons_zero, List.getElem?_cons_succ, List.set_cons_succ, List.set_cons_zero, Pv.R.bind_ok, putK0, iM, ie, x1, x2]
        rfl) ?_
      rw [List.nil_append]
      have cl := classes_ok (n0 + 9) i (D.getD i []) s hi
      have el := ev_lc (c := ⟨runF tabT tabG (n0 + 10), tabG⟩) (m := false) (e := .cmp .eq (.var 4) (.var 5)) (tg := .nm 5) (it := .rng [.num 14]) (l := [some (.scr ns), some (.lst [lA A, lA B]), some (.lst [.lst (eA A), .lst (eA B)]), some (.int k), some (.int i), x5]) (st := s) (items := rngL 0 1 14) (g := []) (fun j => .bl (decide (i = j))) (by
        simp only [ev, evs, evk, evf, evi, evo, fin_false, fin_bl, List.getElem?_cons_zero, List.getElem?_cons_succ, List.set_cons_succ, List.set_cons_zero, Pv.R.bind_ok, putK0]
        exact rng_n (n := 14) (by decide) s) guard_nil (fun j v hv => by
          obtain ⟨hj, rfl⟩ := rngL_get' hv
          refine ⟨_, rfl, ?_⟩
          rw [show (0 : Int) + (j : Nat) * 1 = (j : Nat) by omega]
          simp only [Tg.slots, wipeE, List.set_cons_succ, List.set_cons_zero]
          have : ∀ st, cmEv .eq (.int (i : Nat)) (.int (j : Nat)) st = .ok (.bl (decide (i = j))) st := fun st => by
            have h : decide ((i : Int) = (j : Int)) = decide (i = j) := decide_eq_decide.mpr (by omega)
            simp only [cmEv, eqEv, h]
          simp only [ev, evs, evk, evf, evi, evo, fin_false, fin_bl, List.getElem?_cons_zero, List.getElem?_cons_succ, List.set_cons_succ, List.set_cons_zero, Pv.R.bind_ok, putK0, this]) (by rw [rngL_len]; show _ ≤ 2 ^ 24; decide)
      rw [rngL_len] at el
      have cn : cmEv .ne (cL i) (cL i) s = .ok (.bl false) s := by
        have hk : vk (cL i) = true := by
          unfold cL
          rw [vk]
          exact vks_all' fun v hv => by
            obtain ⟨j, _, rfl⟩ := List.mem_map.mp hv
            rfl
        have hd : vdep (cL i) ≤ 50 := by
          have := ek_deps (k := 0) (l := (List.range 14).map fun j => Val.bl (decide (i = j))) (fun v hv => by
            obtain ⟨j, _, rfl⟩ := List.mem_map.mp hv
            exact Nat.le_refl _)
          unfold cL
          rw [vdep]
          omega
        simp only [cmEv, eq_self hk hd s]
        rfl
      have e1 : ev ⟨runF tabT tabG (n0 + 10), tabG⟩ false (.cal 9 [.idx (.idx (.var 2) (.var 3)) (.var 4)] []) [some (.scr ns), some (.lst [lA A, lA B]), some (.lst [.lst (eA A), .lst (eA B)]), some (.int k), some (.int i), x5] s = .ok (cL i) s := by simp only [ev, evs, evk, evf, evi, evo, fin_false, fin_bl, List.getElem?_cons_zero, List.getElem?_cons_succ, List.set_cons_succ, List.set_cons_zero, Pv.R.bind_ok, putK0, iM, ie, cl]
      refine W_if0 (st' := s) (by
        rw [ev, e1]
        simp only [R.bind_ok, el]
        exact cn) ?_
      rw [List.nil_append]
      exact W_end ⟨_, _, rfl, rfl⟩
    · rintro l s ⟨x4, x5, rfl, rfl⟩
      exact W_end ⟨_, _, _, rfl, rfl⟩
  · rintro l s ⟨x3, x4, x5, rfl, rfl⟩
    obtain ⟨z, _, ec⟩ := cell_ok (n0 + 9) ns 16 s
    replace ec : runF tabT tabG (n0 + 10) 0 [.scr ns, .int 16] s = .ok (.int z) s := ec
    obtain ⟨ds, l1, d1, e2⟩ := drB_ok (n0 + 9) z 4 1 s (by decide) (by decide) (by decide)
    replace e2 : runF tabT tabG (n0 + 10) 1 [.int z, .int 1, .int 4] s = .ok (.lst (iL ds)) s := e2
    have j0 := fun st => dl_at (ds := ds) (k := 0) (z := 0) rfl (by omega) st
    have hg : 0 ≤ gi ds 0 ∧ gi ds 0 < 4 := by
      have : gi ds 0 = ds[0]'(by omega) := by simp [gi, l1]
      rw [this]
      exact d1 _ (List.getElem_mem _)
    have rv := raisedv_ok n0 (gi ds 0) A s hA hg.1 hg.2
    have rp := raisedp_ok n0 B s hB
    exact W_rt (v := .bl true) (st' := s) (by simp only [ev, evs, evk, evf, evi, evo, fin_false, fin_bl, List.getElem?_cons_zero, List.getElem?_cons_succ, List.set_cons_succ, List.set_cons_zero, Pv.R.bind_ok, putK0, r0, r1, ec, e2, j0, rv, rp]) ⟨⟨[], by simp⟩, rfl⟩
theorem law_ok (ns : List Int) (h : ns.length ≤ 63) : ∃ st, runF tabT tabG lvK lawI [.scr ns] [] = .ok (.bl true) st := ⟨[], law_run 1 ns []⟩
end Pv

set_option Elab.async false
set_option linter.all false
set_option maxRecDepth 100000
set_option maxHeartbeats 0
namespace Pv
open PySem PySem.Spec PyProof.Rows L2
theorem chk : textB tabT tabG tabX tabK PySem.Challenge.pw_picturetide_k01_errors.main.body = true := by decide +kernel
abbrev RR : PySem.W.OpenRow := PySem.W.OpenLaw.row PySem.Challenge.rw_picturetide_k01_errors
abbrev hk : PySem.W.Hook := hookP 5 (faOf tabT tabG tabX tabK) (fnOf tabT tabX PySem.Challenge.pw_picturetide_k01_errors.main.body) (ckOf tabG tabX)
def obH (s : PySem.W.SharedT) : He.AlD × Bool := obsP 5 (faOf tabT tabG tabX tabK) (fnOf tabT tabX PySem.Challenge.pw_picturetide_k01_errors.main.body) (ckOf tabG tabX) (HandSHeadRun.getT s)
theorem obH_eq (s : PySem.W.SharedT) : obH s = hk.obs s.abs := obsP_eq (HandSHeadRun.getT_eq s)
theorem runH (w : World) : HandSHeadRun.RunEq RR (PySem.W.view RR.prog [29]) hk obH 100000 (looseOf RR.prog.main.body) w := by
  intro os
  kernel_rfl
theorem nameH : (HandSHeadRun.topDef (PySem.W.OpenLaw.row PySem.Challenge.rw_picturetide_k01_errors).prog 29).name = f_law.name := by kernel_rfl
end Pv
open PySem PySem.W PySem.Calls PyProof.Rows
theorem PySem.Challenge.cw_picturetide_k01_errors_holds : PySem.Challenge.rw_picturetide_k01_errors.Holds := by
  w_on; o_law
  refine HandSHeadRun.head_any (r := OpenLaw.row PySem.Challenge.rw_picturetide_k01_errors) (q := view (OpenLaw.row PySem.Challenge.rw_picturetide_k01_errors).prog [29]) (H := Pv.hk) (ob := Pv.obH) (M := 100000) (loose := Pv.looseOf (OpenLaw.row PySem.Challenge.rw_picturetide_k01_errors).prog.main.body) (d := HandSHeadRun.topDef (OpenLaw.row PySem.Challenge.rw_picturetide_k01_errors).prog 29) (kwd := []) Pv.obH_eq
    (by kernel_rfl) (fun s => by kernel_rfl) Pv.runH (by kernel_rfl) (by kernel_rfl) (by kernel_rfl) (by rfl) (by first | assumption | decide +kernel) (by decide +kernel) ⟨rfl, rfl, rfl, rfl, rfl, by decide +kernel⟩ ?hw ?hc
  case hw => w_witness2
  case hc => exact Pv.walk_pv (l := PySem.Challenge.rw_picturetide_k01_errors) (n := 63) (k := Pv.lvK) (i := Pv.lawI) (x := "_law_script") (dl := Pv.f_law) rfl (by decide) (by kernel_rfl) ⟨rfl, by decide, by decide⟩ Pv.chk rfl rfl Pv.nameH rfl (by decide +kernel) Pv.law_ok
