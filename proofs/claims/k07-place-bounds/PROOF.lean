import PyProof.Rows.All
import Wide.All
import OpenK.AllK
import Wide.FinOn
import KE.KStateDown
import HandS.Base
import HandS.Call
import HandS.List
import HandS.Comp
import HandS.Ends
import HandS.Words
import HandS.WordsExc
import HandS.Dict
import HandS.Iter
import HandS.Exc
import HandS.TryOnly
import HandS.TryMany
import HandS.ExcInit
import HandS.IsInst
import HandS.Wide
import HandS.TupAny
import HandS.TupMul
import HandS.Zip
import HandS.Defaults
import HandS.Conv
import HandS.Head0
import HandS.Head1
import HandS.Head2
import HandS.HeadEnd
import HandS.HeadHook1
import HandS.HeadHook2
import HandS.WideMore
import PySem.Challenge.RW_picturetide_k07_whole_place_bounds
set_option Elab.async false
set_option linter.all false
set_option maxRecDepth 100000
/-! A pure evaluator for the subset of Python that the laws use. -/
namespace Pv
open PySem PySem.Spec PyProof.Rows L2
/-! ### values, store, results -/
inductive Val where
  | non | bl (b : Bool) | int (i : Int) | str (s : Str) | tup (l : List Val) | lst (l : List Val) | scr (l : List Int) | ref (n : Nat)
instance : Inhabited Val := ⟨.non⟩
inductive Ob where
  | lst (l : List Val) | gone
abbrev Sto := List Ob
abbrev Env := List (Option Val)
structure Xn where
  cls : Str
  fs : List (Str × Val)
inductive R (α : Type) where
  | ok (a : α) (st : Sto)
  | exn (x : Xn) (st : Sto)
  | stuck
def R.bind {α β : Type} (r : R α) (f : α → Sto → R β) : R β := match r with
  | .ok a st => f a st
  | .exn x st => .exn x st
  | .stuck => .stuck
@[simp] theorem R.bind_ok {α β : Type} {a : α} {st : Sto} {f : α → Sto → R β} : (R.ok a st).bind f = f a st := rfl
@[simp] theorem R.bind_exn {α β : Type} {x : Xn} {st : Sto} {f : α → Sto → R β} : (R.exn x st : R α).bind f = .exn x st := rfl
@[simp] theorem R.bind_stuck {α β : Type} {f : α → Sto → R β} : (R.stuck : R α).bind f = .stuck := rfl
inductive Fl where
  | nx (l : Env) (st : Sto)
  | ret (v : Val) (st : Sto)
  | brk (l : Env) (st : Sto)
  | cnt (l : Env) (st : Sto)
  | exn (x : Xn) (l : Env) (st : Sto)
  | stuck
/-! ### the text -/
inductive Op where
  | add | sub | mul | fdiv | mod | pow | shl | shr | band
  deriving DecidableEq
inductive Cm where
  | eq | ne | lt | le | gt | ge | is' | isN | in' | nin
  deriving DecidableEq
inductive Cl where
  | int | bool | str | tuple | list
  deriving DecidableEq
inductive Bf where
  | len | abs | int | tuple | min2 | max2 | sum | all | any
  deriving DecidableEq
/-- targets: a name; a tuple of targets -/
inductive Tg where
  | nm (i : Nat)
  | tp (is : List Nat)
mutual
inductive Xp where
  | var (i : Nat)
  | num (k : Int)
  | bol (b : Bool)
  | non
  | str (s : Str)
  | glo (k : Nat)
  | bin (o : Op) (a b : Xp)
  | neg (a : Xp)
  | cmp (o : Cm) (a b : Xp)
  | chn (o p : Cm) (a b c : Xp)
  | and (a b : Xp)
  | or (a b : Xp)
  | not (a : Xp)
  | ife (c a b : Xp)
  | tup (es : List Xp)
  | lst (m : Bool) (es : List Xp)
  | idx (a i : Xp)
  | slc (m : Bool) (a : Xp) (lo hi : Option Xp)
  | isi (a : Xp) (c : Cl)
  | blt (f : Bf) (es : List Xp)
  | mkl (m : Bool) (a : Xp)
  | cat (m : Bool) (a b : Xp)
  | rep (m : Bool) (a b : Xp)
  | cal (f : Nat) (es : List Xp) (ks : List (Nat × Xp))
  | lc (m : Bool) (e : Xp) (tg : Tg) (it : It) (ifs : List Xp)
  | app (o e : Xp)
  | ext (o e : Xp)
inductive It where
  | rng (es : List Xp)
  | seq (e : Xp)
  | zip (a b : Xp)
end
inductive Sm where
  | set (i : Nat) (e : Xp)
  | asg (tg : Tg) (e : Xp)
  | aug (i : Nat) (o : Op) (e : Xp)
  | setI (a i e : Xp)
  | exp (e : Xp)
  | ret (e : Xp)
  | retN
  | ife (c : Xp) (a b : List Sm)
  | for' (tg : Tg) (it : It) (b : List Sm)
  | whl (c : Xp) (b : List Sm)
  | brk | cnt | pas
  | try' (b : List Sm)
  | frz (i : Nat)
end Pv

set_option Elab.async false
set_option linter.all false
set_option maxRecDepth 100000
namespace Pv
open PySem PySem.Spec PyProof.Rows L2

noncomputable section
open Classical
/-! ### small functions -/
def lview (st : Sto) : Val → Option (List Val)
  | .lst l => some l
  | .ref n => match st[n]? with
    | some (.lst l) => some l
    | _ => none
  | _ => none
def sview (st : Sto) : Val → Option (List Val)
  | .tup l => some l
  | .scr l => some (l.map .int)
  | .lst l => some l
  | .ref n => match st[n]? with
    | some (.lst l) => some l
    | _ => none
  | _ => none
def newL (m : Bool) (l : List Val) (st : Sto) : R Val := match m with
  | true => .ok (.ref st.length) (st ++ [.lst l])
  | false => .ok (.lst l) st
mutual
def toD0 : Val → Option PyData
  | .non => some .none
  | .bl b => some (.bool b)
  | .int i => some (.int i)
  | .str s => some (.str s)
  | .tup l => (toDs0 l).map .tuple
  | .lst l => (toDs0 l).map .list
  | .scr l => some (.list (l.map .int))
  | .ref _ => none
def toDs0 : List Val → Option (List PyData)
  | [] => some []
  | x :: xs => match toD0 x, toDs0 xs with
    | some d, some ds => some (d :: ds)
    | _, _ => none
end
def toD (st : Sto) (v : Val) : Option PyData := match v with
  | .ref n => (match st[n]? with
    | some (.lst l) => (toDs0 l).map .list
    | _ => none)
  | v => toD0 v
def mulOk (i j : Int) : Prop := (-(2 ^ 64) < i ∧ i < 2 ^ 64) ∨ (-(2 ^ 64) < j ∧ j < 2 ^ 64) ∨ i.natAbs.log2 + j.natAbs.log2 < 1000000
def divOk (j : Int) : Prop := 0 < j ∧ j.natAbs.log2 < 9000
def powOk (i j : Int) : Prop := 0 ≤ j ∧ j ≤ 1000000 ∧ i.natAbs < 2 ^ 64
def opI : Op → Int → Int → Option Int
  | .add, i, j => some (i + j)
  | .sub, i, j => some (i - j)
  | .mul, i, j => if mulOk i j then some (i * j) else none
  | .fdiv, i, j => if divOk j then some (i / j) else none
  | .mod, i, j => if 0 < j then some (i % j) else none
  | .pow, i, j => if powOk i j then some (i ^ j.toNat) else none
  | .shl, i, j => if powOk i j then some (i * 2 ^ j.toNat) else none
  | .shr, i, j => if 0 ≤ j then some (i / 2 ^ j.toNat) else none
  | .band, i, j => some (Builtin.bitAnd i j)
def binEv (o : Op) (a b : Val) (st : Sto) : R Val := match a, b with
  | .int i, .int j => (match opI o i j with
    | some k => .ok (.int k) st
    | none => .stuck)
  | .tup xs, .tup ys => (match o with
    | .add => if xs.length + ys.length ≤ sizeLine then .ok (.tup (xs ++ ys)) st else .stuck
    | _ => .stuck)
  | .tup xs, .int k => (match o with
    | .mul => if xs ≠ [] ∧ 2 ≤ k ∧ k ≤ 1000 ∧ xs.length ≤ 1000 then .ok (.tup (List.replicate k.toNat xs).flatten) st else .stuck
    | _ => .stuck)
  | _, _ => .stuck
def eqEv (st : Sto) (a b : Val) : Option Bool := match a, b with
  | .int i, .int j => some (decide (i = j))
  | .bl i, .bl j => some (decide (i = j))
  | .str i, .str j => some (decide (i = j))
  | a, b => (match toD st a, toD st b with
    | some d, some e => if SeqAt.shaped d = true ∧ SeqAt.shaped e = true then some (PyData.eqv d e) else none
    | _, _ => none)
def flat : Val → Bool
  | .non => true
  | .bl _ => true
  | .int _ => true
  | .str _ => true
  | _ => false
def feq : Val → Val → Bool
  | .non, .non => true
  | .bl a, .bl b => a == b
  | .bl a, .int b => (if a then 1 else 0) == b
  | .int a, .bl b => a == (if b then 1 else 0)
  | .int a, .int b => a == b
  | .str a, .str b => a == b
  | _, _ => false
def inEv (st : Sto) (a b : Val) : Option Bool := match sview st b with
  | some l => if flat a = true ∧ l.all flat = true then some (l.any fun y => feq y a) else none
  | none => none
def isNon : Val → Bool
  | .non => true
  | _ => false
def cmEv (o : Cm) (a b : Val) (st : Sto) : R Val := match o with
  | .eq => (match eqEv st a b with
    | some c => .ok (.bl c) st
    | none => .stuck)
  | .ne => (match eqEv st a b with
    | some c => .ok (.bl (!c)) st
    | none => .stuck)
  | .lt => (match a, b with
    | .int i, .int j => .ok (.bl (decide (i < j))) st
    | _, _ => .stuck)
  | .le => (match a, b with
    | .int i, .int j => .ok (.bl (decide (i ≤ j))) st
    | _, _ => .stuck)
  | .gt => (match a, b with
    | .int i, .int j => .ok (.bl (decide (j < i))) st
    | _, _ => .stuck)
  | .ge => (match a, b with
    | .int i, .int j => .ok (.bl (decide (j ≤ i))) st
    | _, _ => .stuck)
  | .is' => (match b with
    | .non => .ok (.bl (isNon a)) st
    | _ => .stuck)
  | .isN => (match b with
    | .non => .ok (.bl (!isNon a)) st
    | _ => .stuck)
  | .in' => (match inEv st a b with
    | some c => .ok (.bl c) st
    | none => .stuck)
  | .nin => (match inEv st a b with
    | some c => .ok (.bl (!c)) st
    | none => .stuck)
def idxEv (a i : Val) (st : Sto) : R Val := match sview st a, i with
  | some l, .int k => (match L2.atI l k with
    | some v => .ok v st
    | none => .stuck)
  | _, _ => .stuck
def cutL (xs : List Val) (lo hi : Option Int) : List Val := (xs.drop (HT.sIx xs.length 0 lo)).take (HT.sIx xs.length xs.length hi - HT.sIx xs.length 0 lo)
def slcEv (m : Bool) (a : Val) (lo hi : Option Int) (st : Sto) : R Val := match a with
  | .tup l => .ok (.tup (cutL l lo hi)) st
  | a => (match lview st a with
    | some l => newL m (cutL l lo hi) st
    | none => .stuck)
def isiEv (st : Sto) (c : Cl) (a : Val) : Option Bool := match a, c with
  | .non, _ => some false
  | .bl _, .int => some true
  | .bl _, .bool => some true
  | .bl _, _ => some false
  | .int _, .int => some true
  | .int _, _ => some false
  | .str _, .str => some true
  | .str _, _ => some false
  | .tup _, .tuple => some true
  | .tup _, _ => some false
  | .lst _, .list => some true
  | .lst _, _ => some false
  | .scr _, .list => some true
  | .scr _, _ => some false
  | .ref n, c => (match st[n]? with
    | some (.lst _) => some (decide (c = .list))
    | _ => none)
def allI : List Val → Option (List Int)
  | [] => some []
  | .int i :: r => (allI r).map (i :: ·)
  | _ :: _ => none
def allB : List Val → Option (List Bool)
  | [] => some []
  | .bl i :: r => (allB r).map (i :: ·)
  | _ :: _ => none
def bfEv (f : Bf) (es : List Val) (st : Sto) : R Val := match f, es with
  | .len, [a] => (match sview st a with
    | some l => .ok (.int l.length) st
    | none => .stuck)
  | .abs, [.int i] => .ok (.int (if i < 0 then -i else i)) st
  | .int, [.int i] => .ok (.int i) st
  | .int, [.bl k] => .ok (.int (if k then 1 else 0)) st
  | .tuple, [.tup l] => .ok (.tup l) st
  | .tuple, [a] => (match lview st a with
    | some l => .ok (.tup l) st
    | none => .stuck)
  | .min2, [.int i, .int j] => .ok (.int (if j < i then j else i)) st
  | .max2, [.int i, .int j] => .ok (.int (if j > i then j else i)) st
  | .sum, [a] => (match (lview st a).bind allI with
    | some l => .ok (.int l.sum) st
    | none => .stuck)
  | .all, [a] => (match (lview st a).bind allB with
    | some l => .ok (.bl (l.all id)) st
    | none => .stuck)
  | .any, [a] => (match (lview st a).bind allB with
    | some l => .ok (.bl (l.any id)) st
    | none => .stuck)
  | _, _ => .stuck
def mklEv (m : Bool) (a : Val) (st : Sto) : R Val := match a with
  | .tup l => newL m l st
  | a => (match lview st a with
    | some l => newL m l st
    | none => .stuck)
def catEv (m : Bool) (a b : Val) (st : Sto) : R Val := match lview st a, lview st b with
  | some x, some y => if x.length + y.length ≤ sizeLine then newL m (x ++ y) st else .stuck
  | _, _ => .stuck
def repEv (m : Bool) (a b : Val) (st : Sto) : R Val := match lview st a, b with
  | some x, .int k => if -(2 ^ 63) ≤ k ∧ k < 2 ^ 63 ∧ x.length * k.toNat ≤ sizeLine then newL m (List.replicate k.toNat x).flatten st else .stuck
  | _, _ => .stuck
def mlist (st : Sto) : Val → Option (Nat × List Val)
  | .ref n => (match st[n]? with
    | some (.lst l) => some (n, l)
    | _ => none)
  | _ => none
def appEv (o e : Val) (st : Sto) : R Val := match mlist st o with
  | some (n, l) => if l.length < sizeLine then .ok .non (st.set n (.lst (l ++ [e]))) else .stuck
  | none => .stuck
def extEv (o e : Val) (st : Sto) : R Val := match mlist st o, lview st e with
  | some (n, l), some x => if l.length + x.length ≤ sizeLine then .ok .non (st.set n (.lst (l ++ x))) else .stuck
  | _, _ => .stuck
def setIEv (o i e : Val) (st : Sto) : Option Sto := match mlist st o, i with
  | some (n, l), .int k => (match L2.ixN l.length k with
    | some j => some (st.set n (.lst (l.set j e)))
    | none => none)
  | _, _ => none
def truth (st : Sto) (v : Val) : Option Bool := match v with
  | .non => some false
  | .bl b => some b
  | .int i => some (i != 0)
  | v => (match sview st v with
    | some l => some (!l.isEmpty)
    | none => none)
/-- as a test: the truth -/
def fin (t : Bool) (r : R Val) : R Val := match t with
  | false => r
  | true => r.bind fun v st => match truth st v with
    | some b => .ok (.bl b) st
    | none => .stuck
@[simp] theorem fin_false {r : R Val} : fin false r = r := rfl
theorem fin_true {r : R Val} : fin true r = r.bind fun v st => match truth st v with
    | some b => .ok (.bl b) st
    | none => .stuck := rfl
@[simp] theorem fin_bl {t : Bool} {b : Bool} {st : Sto} : fin t (.ok (.bl b) st) = .ok (.bl b) st := by cases t <;> rfl
@[simp] theorem fin_stuck {t : Bool} : fin t .stuck = .stuck := by cases t <;> rfl
/-! ### targets -/
def setAll : List Nat → List Val → Env → Env
  | i :: is, v :: vs, l => setAll is vs (l.set i (some v))
  | _, _, l => l
def tgSet (tg : Tg) (v : Val) (l : Env) : Option Env := match tg, v with
  | .nm i, v => some (l.set i (some v))
  | .tp is, .tup vs => if is.length = vs.length then some (setAll is vs l) else none
  | _, _ => none
def Tg.slots : Tg → List Nat
  | .nm i => [i]
  | .tp is => is
def wipeE (l : Env) : List Nat → Env
  | [] => l
  | v :: vs => (wipeE l vs).set v none
/-! ### what is walked -/
/-- the items, and the lists that must stand while they are walked -/
abbrev Its := List Val × List (Nat × List Val)
def gst (st : Sto) (v : Val) : List (Nat × List Val) := match mlist st v with
  | some p => [p]
  | none => []
def guardOk (st : Sto) (g : List (Nat × List Val)) : Prop := ∀ p ∈ g, st[p.1]? = some (.lst p.2)
def rngC (i j c : Int) : Prop := c ≠ 0 ∧ c.natAbs < 1073741824 ∧ Builtin.Range.small i j c = true
def rngL (lo c : Int) (n : Nat) : List Val := (List.range n).map fun k => Val.int (lo + (k : Nat) * c)
def inR (i : Int) : Prop := -(2 ^ 62) ≤ i ∧ i < 2 ^ 62
def rngEv (es : List Val) (st : Sto) : R Its := match es with
  | [.int j] => if inR j then .ok (rngL 0 1 j.toNat, []) st else .stuck
  | [.int i, .int j] => if inR i ∧ inR j then .ok (rngL i 1 (j - i).toNat, []) st else .stuck
  | [.int i, .int j, .int c] => if rngC i j c then .ok (rngL i c (Builtin.Range.rangeSize i j c).toNat, []) st else .stuck
  | _ => .stuck
def zipV : List Val → List Val → List Val
  | x :: xs, y :: ys => .tup [x, y] :: zipV xs ys
  | _, _ => []
def zipEv (a b : Val) (st : Sto) : R Its := match a, b with
  | .tup x, .tup y => .ok (zipV x y, []) st
  | a, b => (match lview st a, lview st b with
    | some x, some y => .ok (zipV x y, gst st a ++ gst st b) st
    | _, _ => .stuck)
/-! ### comprehensions, loops -/
def lcL (body : Val → Sto → R (Option Val)) (g : List (Nat × List Val)) : List Val → List Val → Sto → R (List Val)
  | [], acc, st => if guardOk st g then .ok acc st else .stuck
  | v :: vs, acc, st => if guardOk st g then (match body v st with
    | .ok (some x) st' => if acc.length < sizeLine then lcL body g vs (acc ++ [x]) st' else .stuck
    | .ok none st' => lcL body g vs acc st'
    | .exn _ _ => .stuck
    | .stuck => .stuck) else .stuck
def forL (body : Env → Sto → Fl) (tg : Tg) (g : List (Nat × List Val)) : List Val → Env → Sto → Fl
  | [], l, st => if guardOk st g then .nx l st else .stuck
  | v :: vs, l, st => if guardOk st g then (match tgSet tg v l with
    | none => .stuck
    | some l1 => match body l1 st with
      | .nx l2 st2 => forL body tg g vs l2 st2
      | .cnt l2 st2 => forL body tg g vs l2 st2
      | .brk l2 st2 => .nx l2 st2
      | .ret v st2 => .ret v st2
      | .exn x l2 st2 => .exn x l2 st2
      | .stuck => .stuck) else .stuck
def whL (c : Env → Sto → R Val) (body : Env → Sto → Fl) : Nat → Env → Sto → Fl
  | 0, _, _ => .stuck
  | n + 1, l, st => match c l st with
    | .ok (.bl true) st1 => (match body l st1 with
      | .nx l2 st2 => whL c body n l2 st2
      | .cnt l2 st2 => whL c body n l2 st2
      | .brk l2 st2 => .nx l2 st2
      | .ret v st2 => .ret v st2
      | .exn x l2 st2 => .exn x l2 st2
      | .stuck => .stuck)
    | .ok (.bl false) st1 => .nx l st1
    | .ok _ _ => .stuck
    | .exn x st1 => .exn x l st1
    | .stuck => .stuck
/-- the turns that a while may take -/
def wfuel : Nat := 1000000000
theorem wfuel_eq : wfuel = 1000000000 := rfl
/-- the arguments in the parameters' order -/
def putK (xs : List Val) (zs : List (Nat × Val)) : List Val := match zs with
  | [] => xs
  | zs => (List.range (xs.length + zs.length)).map fun i => (xs[i]?).getD ((zs.lookup i).getD .non)
abbrev CallT := Nat → List Val → Sto → R Val
/-- what the calls do; the globals that are read -/
structure Cn where
  call : CallT
  G : List (Str × Val)
mutual
def ev (c : Cn) (t : Bool) : Xp → Env → Sto → R Val
  | .var i, l, st => (match l[i]? with
    | some (some v) => fin t (.ok v st)
    | _ => .stuck)
  | .num k, _, st => fin t (.ok (.int k) st)
  | .bol b, _, st => .ok (.bl b) st
  | .non, _, st => fin t (.ok .non st)
  | .str s, _, st => fin t (.ok (.str s) st)
  | .glo k, _, st => (match c.G[k]? with
    | some p => fin t (.ok p.2 st)
    | none => .stuck)
  | .bin o a b, l, st => (ev c false a l st).bind fun x st => (ev c false b l st).bind fun y st => fin t (binEv o x y st)
  | .neg a, l, st => (ev c false a l st).bind fun x st => match x with
    | .int i => fin t (.ok (.int (-i)) st)
    | _ => .stuck
  | .cmp o a b, l, st => (ev c false a l st).bind fun x st => (ev c false b l st).bind fun y st => cmEv o x y st
  | .chn o p a b d, l, st => (ev c false a l st).bind fun x st => (ev c false b l st).bind fun y st => (cmEv o x y st).bind fun r st => match r with
    | .bl true => (ev c false d l st).bind fun z st => cmEv p y z st
    | .bl false => .ok (.bl false) st
    | _ => .stuck
  | .and a b, l, st => (ev c t a l st).bind fun x st => match x with
    | .bl true => ev c t b l st
    | .bl false => .ok (.bl false) st
    | _ => .stuck
  | .or a b, l, st => (ev c t a l st).bind fun x st => match x with
    | .bl true => .ok (.bl true) st
    | .bl false => ev c t b l st
    | _ => .stuck
  | .not a, l, st => (ev c t a l st).bind fun x st => match x with
    | .bl b => .ok (.bl (!b)) st
    | _ => .stuck
  | .ife d a b, l, st => match t with
    | true => .stuck
    | false => (ev c true d l st).bind fun x st => match x with
      | .bl true => ev c false a l st
      | .bl false => ev c false b l st
      | _ => .stuck
  | .tup es, l, st => (evs c es l st).bind fun xs st => if xs.length ≤ sizeLine then fin t (.ok (.tup xs) st) else .stuck
  | .lst m es, l, st => (evs c es l st).bind fun xs st => if xs.length ≤ sizeLine then fin t (newL m xs st) else .stuck
  | .idx a i, l, st => (ev c false a l st).bind fun x st => (ev c false i l st).bind fun y st => fin t (idxEv x y st)
  | .slc m a lo hi, l, st => (ev c false a l st).bind fun x st => (evo c lo l st).bind fun u st => (evo c hi l st).bind fun w st => fin t (slcEv m x u w st)
  | .isi a k, l, st => (ev c false a l st).bind fun x st => match isiEv st k x with
    | some b => .ok (.bl b) st
    | none => .stuck
  | .blt f es, l, st => (evs c es l st).bind fun xs st => fin t (bfEv f xs st)
  | .mkl m a, l, st => (ev c false a l st).bind fun x st => fin t (mklEv m x st)
  | .cat m a b, l, st => (ev c false a l st).bind fun x st => (ev c false b l st).bind fun y st => fin t (catEv m x y st)
  | .rep m a b, l, st => (ev c false a l st).bind fun x st => (ev c false b l st).bind fun y st => fin t (repEv m x y st)
  | .cal f es ks, l, st => (evs c es l st).bind fun xs st => (evk c ks l st).bind fun zs st => fin t (c.call f (putK xs zs) st)
  | .lc m e tg it ifs, l, st => (evi c it l st).bind fun J st =>
      (lcL (fun v st => match tgSet tg v (wipeE l tg.slots) with
        | none => .stuck
        | some l1 => (evf c ifs l1 st).bind fun b st => match b with
          | true => (ev c false e l1 st).bind fun x st => .ok (some x) st
          | false => .ok none st) J.2 J.1 [] st).bind fun xs st => fin t (newL m xs st)
  | .app o e, l, st => (ev c false o l st).bind fun x st => match mlist st x with
    | none => .stuck
    | some _ => (ev c false e l st).bind fun y st => fin t (appEv x y st)
  | .ext o e, l, st => (ev c false o l st).bind fun x st => match mlist st x with
    | none => .stuck
    | some _ => (ev c false e l st).bind fun y st => fin t (extEv x y st)
def evs (c : Cn) : List Xp → Env → Sto → R (List Val)
  | [], _, st => .ok [] st
  | e :: es, l, st => (ev c false e l st).bind fun x st => (evs c es l st).bind fun xs st => .ok (x :: xs) st
def evo (c : Cn) : Option Xp → Env → Sto → R (Option Int)
  | none, _, st => .ok none st
  | some e, l, st => (ev c false e l st).bind fun x st => match x with
    | .int i => .ok (some i) st
    | _ => .stuck
def evk (c : Cn) : List (Nat × Xp) → Env → Sto → R (List (Nat × Val))
  | [], _, st => .ok [] st
  | (k, e) :: es, l, st => (ev c false e l st).bind fun x st => (evk c es l st).bind fun xs st => .ok ((k, x) :: xs) st
def evf (c : Cn) : List Xp → Env → Sto → R Bool
  | [], _, st => .ok true st
  | e :: es, l, st => (ev c true e l st).bind fun x st => match x with
    | .bl true => evf c es l st
    | .bl false => .ok false st
    | _ => .stuck
def evi (c : Cn) : It → Env → Sto → R Its
  | .rng es, l, st => (evs c es l st).bind fun xs st => rngEv xs st
  | .seq e, l, st => (ev c false e l st).bind fun x st => match sview st x with
    | some xs => .ok (xs, gst st x) st
    | none => .stuck
  | .zip a b, l, st => (ev c false a l st).bind fun x st => (ev c false b l st).bind fun y st => zipEv x y st
end
/-! ### statements -/
def R.fl {α : Type} (r : R α) (l : Env) (f : α → Sto → Fl) : Fl := match r with
  | .ok v st => f v st
  | .exn x st => .exn x l st
  | .stuck => .stuck
@[simp] theorem R.fl_ok {α : Type} {l : Env} {v : α} {st : Sto} {f : α → Sto → Fl} : (R.ok v st).fl l f = f v st := rfl
@[simp] theorem R.fl_exn {α : Type} {l : Env} {x : Xn} {st : Sto} {f : α → Sto → Fl} : (R.exn x st).fl l f = .exn x l st := rfl
@[simp] theorem R.fl_stuck {α : Type} {l : Env} {f : α → Sto → Fl} : (R.stuck).fl l f = .stuck := rfl
mutual
def pureV : Val → Bool
  | .tup l => pureVs l
  | .lst l => pureVs l
  | .ref _ => false
  | _ => true
def pureVs : List Val → Bool
  | [] => true
  | x :: xs => pureV x && pureVs xs
end
/-- a list of one's own becomes one that stands: its items hold none of one's own, or lists of such -/
def thaw1 (st : Sto) (v : Val) : Option (Val × List Nat) := match v with
  | .ref n => (match st[n]? with
    | some (.lst l) => if pureVs l = true then some (.lst l, [n]) else none
    | _ => none)
  | v => if pureV v = true then some (v, []) else none
def thawL (st : Sto) : List Val → Option (List Val × List Nat)
  | [] => some ([], [])
  | v :: vs => match thaw1 st v, thawL st vs with
    | some (x, a), some (xs, b) => some (x :: xs, a ++ b)
    | _, _ => none
def killAll : List Nat → Sto → Sto
  | [], st => st
  | n :: ns, st => killAll ns (st.set n .gone)
def frzEv (i : Nat) (l : Env) (st : Sto) : Fl := match l[i]? with
  | some (some (.ref n)) => (match st[n]? with
    | some (.lst xs) => (match thawL st xs with
      | some (ys, ns) => .nx (l.set i (some (.lst ys))) (killAll (n :: ns) st)
      | none => .stuck)
    | _ => .stuck)
  | _ => .stuck
mutual
def evS (c : Cn) : Sm → Env → Sto → Fl
  | .set i e, l, st => (ev c false e l st).fl l fun x st => .nx (l.set i (some x)) st
  | .asg tg e, l, st => (ev c false e l st).fl l fun x st => match tgSet tg x l with
    | some l1 => .nx l1 st
    | none => .stuck
  | .aug i o e, l, st => (match l[i]? with
    | some (some x) => (ev c false e l st).fl l fun y st => (match x, y with
      | .int a, .int b => (match opI o a b with
        | some k => .nx (l.set i (some (.int k))) st
        | none => .stuck)
      | _, _ => .stuck)
    | _ => .stuck)
  | .setI a i e, l, st => (ev c false e l st).fl l fun z st => (ev c false a l st).fl l fun x st => (ev c false i l st).fl l fun y st => match setIEv x y z st with
    | some st' => .nx l st'
    | none => .stuck
  | .exp e, l, st => (ev c false e l st).fl l fun _ st => .nx l st
  | .ret e, l, st => (ev c false e l st).fl l fun x st => .ret x st
  | .retN, l, st => .ret .non st
  | .ife d a b, l, st => (ev c true d l st).fl l fun x st => match x with
    | .bl true => evSs c a l st
    | .bl false => evSs c b l st
    | _ => .stuck
  | .for' tg it b, l, st => (evi c it l st).fl l fun J st => forL (fun l st => evSs c b l st) tg J.2 J.1 l st
  | .whl d b, l, st => whL (fun l st => ev c true d l st) (fun l st => evSs c b l st) wfuel l st
  | .brk, l, st => .brk l st
  | .cnt, l, st => .cnt l st
  | .pas, l, st => .nx l st
  | .try' b, l, st => (match evSs c b l st with
    | .exn _ _ _ => .stuck
    | r => r)
  | .frz i, l, st => frzEv i l st
def evSs (c : Cn) : List Sm → Env → Sto → Fl
  | [], l, st => .nx l st
  | s :: ss, l, st => (match evS c s l st with
    | .nx l st => evSs c ss l st
    | r => r)
end
/-! ### defs -/
structure Fd where
  name : Str
  ps : Nat
  N : List Str
  body : List Sm
mutual
def belowV (n : Nat) : Val → Bool
  | .tup l => belowVs n l
  | .lst l => belowVs n l
  | .ref k => decide (k < n)
  | _ => true
def belowVs (n : Nat) : List Val → Bool
  | [] => true
  | x :: xs => belowV n x && belowVs n xs
end
def belowO (n : Nat) : Ob → Bool
  | .lst l => belowVs n l
  | .gone => true
/-- what the callers see is as it was, or holds nothing of the call's own -/
def outOk (st st' : Sto) : Prop := ∀ i, i < st.length → st'[i]? = st[i]? ∨ ∃ o, st'[i]? = some o ∧ belowO st.length o = true

def leave (st : Sto) (v : Val) (st' : Sto) : R Val := if belowV st.length v = true ∧ outOk st st' then .ok v (st'.take st.length) else .ok v st'
def frameOf (d : Fd) (args : List Val) : Env := args.map some ++ List.replicate (d.N.length - args.length) none
def callF (T : List Fd) (c : Cn) (f : Nat) (args : List Val) (st : Sto) : R Val := match T[f]? with
  | none => .stuck
  | some d => if args.length = d.ps then (match evSs c d.body (frameOf d args) st with
    | .nx _ st' => leave st .non st'
    | .ret v st' => leave st v st'
    | .exn x _ st' => .exn x st'
    | _ => .stuck) else .stuck
def runF (T : List Fd) (G : List (Str × Val)) : Nat → CallT
  | 0 => fun _ _ _ => .stuck
  | n + 1 => callF T ⟨runF T G n, G⟩
end
end Pv

set_option Elab.async false
set_option linter.all false
set_option maxRecDepth 100000
namespace Pv
open PySem PySem.Spec PyProof.Rows L2
/-! ### the text of the IR is that of the program -/
def opM : Op → Operator
  | .add => .Add
  | .sub => .Sub
  | .mul => .Mult
  | .fdiv => .FloorDiv
  | .mod => .Mod
  | .pow => .Pow
  | .shl => .LShift
  | .shr => .RShift
  | .band => .BitAnd
def cmM : Cm → CmpOp
  | .eq => .Eq
  | .ne => .NotEq
  | .lt => .Lt
  | .le => .LtE
  | .gt => .Gt
  | .ge => .GtE
  | .is' => .Is
  | .isN => .IsNot
  | .in' => .In
  | .nin => .NotIn
def clM : Cl → Str
  | .int => "int"
  | .bool => "bool"
  | .str => "str"
  | .tuple => "tuple"
  | .list => "list"
def bfM : Bf → Str × Nat
  | .len => ("len", 1)
  | .abs => ("abs", 1)
  | .int => ("int", 1)
  | .tuple => ("tuple", 1)
  | .min2 => ("min", 2)
  | .max2 => ("max", 2)
  | .sum => ("sum", 1)
  | .all => ("all", 1)
  | .any => ("any", 1)
/-- the built-in names that are asked of the module: all are free there -/
def bnames : List Str := ["len", "abs", "int", "tuple", "list", "min", "max", "sum", "all", "any", "isinstance", "range", "zip", "bool", "str"]
def glB (sc : Scope) (x : Str) : Bool := decide (sc.names.lookup x = some .globalImplicit)
def visB (sc : Scope) (x : Str) : Bool := decide (sc.names.lookup x = some .local) || decide (sc.names.lookup x = some .cell) || decide (sc.names.lookup x = some .free)
def locB (sc : Scope) (x : Str) : Bool := decide (sc.names.lookup x = some .local) || decide (sc.names.lookup x = some .cell)
def okName (x : Str) : Bool := !(x == ("__debug__" : Str)) && !(x == ("__classdict__" : Str)) && !(x == ("__name__" : Str))
/-- the scope of a comprehension's block -/
structure Ck where
  N : List Str
  sc : Scope
  fn : Str → Bool
  T : List Fd
  G : List (Str × Val)
def Ck.blk (k : Ck) (scope : Scope) : Ck := { k with sc := relS scope k.sc, fn := fun x => scope.names.lookup x == some .cell }
def nameB (k : Ck) (i : Nat) (e : Expr) : Bool := match e with
  | .Name x _ => decide (k.N[i]? = some x) && locB k.sc x && (k.fn x || decide (k.sc.names.lookup x = some .local))
  | _ => false
def namesB (k : Ck) : List Nat → List Expr → Bool
  | [], [] => true
  | i :: is, e :: es => nameB k i e && namesB k is es
  | _, _ => false
def mTg (k : Ck) (tg : Tg) (e : Expr) : Bool := match tg, e with
  | .nm i, e => nameB k i e
  | .tp is, .Tuple es _ _ => namesB k is es
  | _, _ => false
def nst (e : Expr) : Bool := match e with
  | .Starred _ _ => false
  | _ => true
def notSl (e : Expr) : Bool := match e with
  | .Slice _ _ _ _ => false
  | _ => true
def notSet (e : Expr) : Bool := match e with
  | .Set _ _ _ => false
  | _ => true
def notComp (e : Expr) : Bool := match e with
  | .ListComp _ _ _ _ => false
  | .SetComp _ _ _ _ => false
  | .DictComp _ _ _ _ _ => false
  | _ => true
def notTup (e : Expr) : Bool := match e with
  | .Tuple _ _ _ => false
  | _ => true
def isTupE (e : Expr) : Bool := match e with
  | .Tuple _ _ _ => true
  | _ => false
/-- an expression whose truth is its value's -/
def plainT (e : Expr) : Bool := match e with
  | .UnaryOp .Not _ _ => false
  | .BoolOp _ _ _ => false
  | .IfExp _ _ _ _ => false
  | .Compare _ _ _ _ => false
  | _ => true
def callN (e : Expr) : Option (Str × List Expr × List Keyword) := match e with
  | .Call (.Name x _) es ks _ => some (x, es, ks)
  | _ => none
def noSuper (o : Expr) : Bool := match o with
  | .Call _ [] [] _ => false
  | _ => true
/-- o.f(es) on one line -/
def methN (e : Expr) : Option (Expr × Str × List Expr) := match e with
  | .Call (.Attribute o f apos) es [] pos => if apos.endLine == pos.line then some (o, f, es) else none
  | _ => none
def ownOf (N : List Str) (is : List Nat) : List (Str × Nat) := is.map fun i => ((N[i]?).getD "", i)
mutual
def mE (k : Ck) (x : Xp) (e : Expr) : Bool := match x with
  | .var i => (match e with
    | .Name y _ => decide (k.N[i]? = some y) && visB k.sc y && okName y
    | _ => false)
  | .num n => (match e with
    | .Constant (.int j) _ _ => decide (j = n)
    | _ => false)
  | .bol b => (match e with
    | .Constant (.bool j) _ _ => decide (j = b)
    | _ => false)
  | .non => (match e with
    | .Constant .none _ _ => true
    | _ => false)
  | .str s => (match e with
    | .Constant (.str j) _ _ => decide (j = s)
    | _ => false)
  | .glo n => (match e with
    | .Name y _ => decide ((k.G[n]?).map (·.1) = some y) && glB k.sc y && okName y
    | _ => false)
  | .bin o a b => (match e with
    | .BinOp a' o' b' _ => decide (o' = opM o) && mE k a a' && mE k b b'
    | _ => false)
  | .neg a => (match e with
    | .UnaryOp .USub a' _ => mE k a a'
    | _ => false)
  | .cmp o a b => (match e with
    | .Compare a' [o'] [b'] _ => decide (o' = cmM o) && !behindInMarks o' b' && mE k a a' && mE k b b'
    | _ => false)
  | .chn o p a b c => (match e with
    | .Compare a' [o', p'] [b', c'] _ => decide (o' = cmM o) && decide (p' = cmM p) && !behindInMarks o' b' && !behindInMarks p' c' && mE k a a' && mE k b b' && mE k c c'
    | _ => false)
  | .and a b => (match e with
    | .BoolOp .And [a', b'] _ => mE k a a' && mE k b b'
    | .BoolOp .And (a' :: b' :: c' :: r) p => mE k a a' && mE k b (.BoolOp .And (b' :: c' :: r) p)
    | _ => false)
  | .or a b => (match e with
    | .BoolOp .Or [a', b'] _ => mE k a a' && mE k b b'
    | .BoolOp .Or (a' :: b' :: c' :: r) p => mE k a a' && mE k b (.BoolOp .Or (b' :: c' :: r) p)
    | _ => false)
  | .not a => (match e with
    | .UnaryOp .Not a' _ => mE k a a'
    | _ => false)
  | .ife c a b => (match e with
    | .IfExp c' a' b' _ => mE k c c' && mE k a a' && mE k b b'
    | _ => false)
  | .tup es => (match e with
    | .Tuple es' _ _ => mEs k es es'
    | _ => false)
  | .lst _ es => (match e with
    | .List es' _ => mEs k es es'
    | _ => false)
  | .idx a i => (match e with
    | .Subscript a' i' _ => notSl i' && mE k a a' && mE k i i'
    | _ => false)
  | .slc _ a lo hi => (match e with
    | .Subscript a' (.Slice lo' hi' none _) _ => mE k a a' && mEo k lo lo' && mEo k hi hi'
    | _ => false)
  | .isi a c => (match callN e with
    | some (f, [a', .Name y _], []) => decide (f = "isinstance") && glB k.sc f && nst a' && decide (y = clM c) && glB k.sc y && mE k a a'
    | _ => false)
  | .blt f es => (match callN e with
    | some (x, es', []) => decide (x = (bfM f).1) && decide (es'.length = (bfM f).2) && glB k.sc x && es'.all nst && mEs k es es'
    | _ => false)
  | .mkl _ a => (match callN e with
    | some (x, [a'], []) => decide (x = "list") && glB k.sc x && nst a' && mE k a a'
    | _ => false)
  | .cat _ a b => (match e with
    | .BinOp a' .Add b' _ => mE k a a' && mE k b b'
    | _ => false)
  | .rep _ a b => (match e with
    | .BinOp a' .Mult b' _ => mE k a a' && mE k b b'
    | _ => false)
  | .cal f es ks => (match callN e, k.T[f]? with
    | some (x, es', ks'), some d => decide (x = d.name) && glB k.sc x && es'.all nst && mEs k es es' && mKs k (es'.length) d ks ks' && decide (es'.length + ks'.length = d.ps) && decide ((ks.map (·.1)).Nodup) && ((List.range d.ps).all fun i => decide (i < es'.length) || (ks.map (·.1)).contains i) && decide d.N.Nodup && decide (d.ps ≤ d.N.length) && okName d.name
    | _, _ => false)
  | .lc _ a tg it ifs => (match e with
    | .ListComp a' [⟨tg', it', ifs', z⟩] scope _ => decide (z = 0) && blkC k.N k.sc scope (ownOf k.N tg.slots) && mTg (k.blk scope) tg tg' && mI k it it' && notSet it' && (decide (ifs'.length ≤ 1)) && mEs (k.blk scope) ifs ifs' && mE (k.blk scope) a a' && (match it with
      | .zip _ _ => isTupE tg'
      | _ => true)
    | _ => false)
  | .app o a => (match methN e with
    | some (o', f, [a']) => decide (f = "append") && noSuper o' && nst a' && mE k o o' && mE k a a'
    | _ => false)
  | .ext o a => (match methN e with
    | some (o', f, [a']) => decide (f = "extend") && noSuper o' && nst a' && mE k o o' && mE k a a'
    | _ => false)
def mEs (k : Ck) (xs : List Xp) (es : List Expr) : Bool := match xs, es with
  | [], [] => true
  | x :: xs, e :: es => nst e && mE k x e && mEs k xs es
  | _, _ => false
def mEo (k : Ck) (x : Option Xp) (e : Option Expr) : Bool := match x, e with
  | none, none => true
  | some x, some e => mE k x e
  | _, _ => false
/-- keywords: each tells a parameter behind the n given by position -/
def mKs (k : Ck) (n : Nat) (d : Fd) (xs : List (Nat × Xp)) (es : List Keyword) : Bool := match xs, es with
  | [], [] => true
  | (i, x) :: xs, ⟨some y, e, _⟩ :: es => decide (d.N[i]? = some y) && decide (n ≤ i) && decide (i < d.ps) && mE k x e && mKs k n d xs es
  | _, _ => false
def mI (k : Ck) (x : It) (e : Expr) : Bool := match x with
  | .rng es => (match callN e with
    | some (f, es', []) => decide (f = "range") && glB k.sc f && es'.all nst && mEs k es es' && decide (es'.length ≤ 3) && decide (0 < es'.length)
    | _ => false)
  | .seq a => mE k a e
  | .zip a b => (match callN e with
    | some (f, [a', b'], []) => decide (f = "zip") && glB k.sc f && nst a' && nst b' && mE k a a' && mE k b b'
    | _ => false)
end
def augB : Op → Bool
  | .pow => false
  | _ => true
/-- x = [..] on one line -/
def swB (sc : Scope) (x : Str) (p : Pos) (e : Expr) : Bool := match e with
  | .ListComp _ _ s q => decide (sc.names.lookup x = some .local) && (p.line == q.line) && !(s.names.any fun (n, k) => n == x && (k == .local || k == .cell))
  | _ => false
def aTup (e : Expr) : Bool := match e with
  | .Tuple _ _ _ => true
  | .Set _ _ _ => true
  | .SetComp _ _ _ _ => true
  | .DictComp _ _ _ _ _ => true
  | _ => false
mutual
def mS (k : Ck) (s : Sm) (p : Stmt) : Bool := match s with
  | .set i e => (match p with
    | .Assign [.Name x p] e' _ => decide (k.N[i]? = some x) && locB k.sc x && mE k e e' && (notComp e' || swB k.sc x p e' || decide (k.sc.names.lookup x ≠ some .local)) && (k.fn x || decide (k.sc.names.lookup x = some .local))
    | _ => false)
  | .asg tg e => (match p with
    | .Assign [tg'] e' _ => isTupE tg' && mTg k tg tg' && notTup e' && notComp e' && mE k e e'
    | _ => false)
  | .aug i o e => (match p with
    | .AugAssign (.Name x _) o' e' _ => decide (k.N[i]? = some x) && locB k.sc x && decide (o' = opM o) && mE k e e' && augB o && (k.fn x || decide (k.sc.names.lookup x = some .local))
    | _ => false)
  | .setI a i e => (match p with
    | .Assign [.Subscript a' i' _] e' _ => notSl i' && notComp e' && mE k e e' && mE k a a' && mE k i i'
    | _ => false)
  | .exp e => (match p with
    | .Expr e' _ => notComp e' && mE k e e'
    | _ => false)
  | .ret e => (match p with
    | .Return (some e') _ => mE k e e'
    | _ => false)
  | .retN => (match p with
    | .Return none _ => true
    | _ => false)
  | .ife c a b => (match p with
    | .If c' a' b' _ => mE k c c' && mSs k a a' && mSs k b b'
    | _ => false)
  | .for' tg it b => (match p with
    | .For tg' it' b' [] _ => mTg k tg tg' && mI k it it' && notSet it' && mSs k b b' && (match it with
      | .zip _ _ => isTupE tg'
      | _ => true)
    | _ => false)
  | .whl c b => (match p with
    | .While c' b' [] _ => mE k c c' && mSs k b b'
    | _ => false)
  | .brk => (match p with
    | .Break _ => true
    | _ => false)
  | .cnt => (match p with
    | .Continue _ => true
    | _ => false)
  | .pas => (match p with
    | .Pass _ => true
    | _ => false)
  | .try' b => (match p with
    | .Try b' (_ :: _) [] [] _ => mSs k b b'
    | _ => false)
  | .frz _ => false
def mSs (k : Ck) (ss : List Sm) (ps : List Stmt) : Bool := match ss with
  | [] => ps.isEmpty
  | s :: ss => (match s with
    | .frz _ => mSs k ss ps
    | s => (match ps with
      | p :: ps => mS k s p && mSs k ss ps
      | [] => false))
end
def scopeB (N : List Str) (n : Nat) (sc : Scope) : Bool :=
  (match sc.kind with | .function => true | _ => false) && !sc.isCoroutine && !sc.isGenerator && decide N.Nodup && decide (n ≤ N.length) &&
    ((N.take n).all fun x => locB sc x) && (sc.names.all fun y => match y.2 with | .free => false | _ => true)
def argsB (ps : List Str) (a : Arguments) : Bool := a.posonlyargs.isEmpty && decide (a.args.map (·.arg) = ps) && a.vararg.isNone && a.kwonlyargs.isEmpty && a.kw_defaults.isEmpty && a.kwarg.isNone && a.defaults.isEmpty
def mF (T : List Fd) (G : List (Str × Val)) (d : Fd) (a : Arguments) (body : List Stmt) (sc : Scope) : Bool :=
  scopeB d.N d.ps sc && argsB (d.N.take d.ps) a && mSs ⟨d.N, sc, fun _ => true, T, G⟩ d.body body
end Pv

set_option Elab.async false
set_option linter.all false
set_option maxRecDepth 100000
set_option maxHeartbeats 4000000
namespace Pv
open PySem PySem.Spec PyProof.Rows L2
/-! ### how a value stands in the heap: F holds what never changes, φ where the store's objects stand -/
structure Cf where
  F : Hp
  φ : List Addr
mutual
inductive Rep (K : PySem.W.Frag) (c : Cf) : V → Val → Prop
  | non : Rep K c .non .non
  | bl (b : Bool) : Rep K c (.bl b) (.bl b)
  | int (i : Int) : Rep K c (.int i) (.int i)
  | str (s : Str) : Rep K c (.str s) (.str s)
  | tup {a : Addr} {vs : List V} {l : List Val} : SqT K c.F a vs → Reps K c vs l → Rep K c (.ref a) (.tup l)
  | lst {a : Addr} {vs : List V} {l : List Val} : c.F a = some (.lst vs) → Reps K c vs l → Rep K c (.ref a) (.lst l)
  | scr {a : Addr} {l : List Int} : SqL K c.F a (l.map .int) → Rep K c (.ref a) (.scr l)
  | ref {a : Addr} {n : Nat} : c.φ[n]? = some a → Rep K c (.ref a) (.ref n)
inductive Reps (K : PySem.W.Frag) (c : Cf) : List V → List Val → Prop
  | nil : Reps K c [] []
  | cons {v : V} {vs : List V} {d : Val} {l : List Val} : Rep K c v d → Reps K c vs l → Reps K c (v :: vs) (d :: l)
end
section
variable {K : PySem.W.Frag} {c c' c1 c2 : Cf} {H H' H1 H2 : Hp} {st st' st1 st2 : Sto}
theorem SqT.mono {F F' : Hp} {a : Addr} {xs : List V} (e : Same F F') (h : SqT K F a xs) : SqT K F' a xs := by
  rcases h with (h | ⟨o, h⟩) | h
  · exact .inl (.inl (e _ _ h))
  · exact .inl (.inr ⟨o, e _ _ h⟩)
  · exact .inr h
structure Ext (c : Cf) (H : Hp) (c' : Cf) (H' : Hp) : Prop where
  F : Same c.F c'.F
  φ : c.φ <+: c'.φ
  fr : ∀ a o, H a = some o → a ∉ c.φ → H' a = some o ∧ a ∉ c'.φ
  nf : ∀ a o, H a = some o → a ∉ c.φ → c.F a = none → c'.F a = none
theorem Ext.refl : Ext c H c H := ⟨Same.refl _, List.prefix_refl _, fun _ _ h n => ⟨h, n⟩, fun _ _ _ _ z => z⟩
theorem Ext.trans (a : Ext c H c1 H1) (b : Ext c1 H1 c2 H2) : Ext c H c2 H2 := ⟨a.F.trans b.F, a.φ.trans b.φ, fun x o h n => by
  obtain ⟨h1, n1⟩ := a.fr x o h n
  exact b.fr x o h1 n1, fun x o h n z => by
  obtain ⟨h1, n1⟩ := a.fr x o h n
  exact b.nf x o h1 n1 (a.nf x o h n z)⟩
theorem prefix_get {α : Type} {l l' : List α} (h : l <+: l') {i : Nat} {a : α} (e : l[i]? = some a) : l'[i]? = some a := by
  obtain ⟨t, rfl⟩ := h
  rw [List.getElem?_append_left (by exact (List.getElem?_eq_some_iff.mp e).1)]
  exact e
mutual
theorem Rep.mono' (hF : Same c.F c'.F) (hφ : c.φ <+: c'.φ) {v : V} {d : Val} (h : Rep K c v d) : Rep K c' v d := by
  cases h with
  | non => exact .non
  | bl b => exact .bl b
  | int i => exact .int i
  | str s => exact .str s
  | tup h1 h2 => exact .tup (SqT.mono hF h1) (Reps.mono' hF hφ h2)
  | lst h1 h2 => exact .lst (hF _ _ h1) (Reps.mono' hF hφ h2)
  | scr h1 => exact .scr (Same.seq hF h1)
  | ref h1 => exact .ref (prefix_get hφ h1)
termination_by sizeOf d
theorem Reps.mono' (hF : Same c.F c'.F) (hφ : c.φ <+: c'.φ) {vs : List V} {l : List Val} (h : Reps K c vs l) : Reps K c' vs l := by
  cases h with
  | nil => exact .nil
  | cons h1 h2 => exact .cons (Rep.mono' hF hφ h1) (Reps.mono' hF hφ h2)
termination_by sizeOf l
end
theorem Rep.mono {v : V} {d : Val} (h : Rep K c v d) (e : Ext c H c' H') : Rep K c' v d := Rep.mono' e.F e.φ h
theorem Reps.mono {vs : List V} {l : List Val} (h : Reps K c vs l) (e : Ext c H c' H') : Reps K c' vs l := Reps.mono' e.F e.φ h
theorem Reps.length : ∀ {vs : List V} {l : List Val}, Reps K c vs l → vs.length = l.length
  | _, _, .nil => rfl
  | _, _, .cons _ t => by rw [List.length_cons, List.length_cons, Reps.length t]
theorem Reps.get : ∀ {vs : List V} {l : List Val} {i : Nat} {d : Val}, Reps K c vs l → l[i]? = some d → ∃ v, vs[i]? = some v ∧ Rep K c v d
  | _, _, _, _, .nil, e => by simp at e
  | _, _, 0, _, .cons r _, e => by simp at e; subst e; exact ⟨_, rfl, r⟩
  | _, _, i + 1, d, .cons _ t, e => by
    obtain ⟨u, h1, h2⟩ := Reps.get (i := i) (d := d) t (by simpa using e)
    exact ⟨u, by simpa using h1, h2⟩
theorem Reps.append : ∀ {xs ys : List V} {us ws : List Val}, Reps K c xs us → Reps K c ys ws → Reps K c (xs ++ ys) (us ++ ws)
  | _, _, _, _, .nil, s => s
  | _, _, _, _, .cons r t, s => .cons r (Reps.append t s)
theorem Reps.take : ∀ {xs : List V} {us : List Val} (n : Nat), Reps K c xs us → Reps K c (xs.take n) (us.take n)
  | _, _, 0, _ => .nil
  | _, _, _ + 1, .nil => .nil
  | _, _, n + 1, .cons r t => .cons r (Reps.take n t)
theorem Reps.drop : ∀ {xs : List V} {us : List Val} (n : Nat), Reps K c xs us → Reps K c (xs.drop n) (us.drop n)
  | _, _, 0, r => r
  | _, _, _ + 1, .nil => .nil
  | _, _, n + 1, .cons _ t => Reps.drop n t
theorem Reps.set {x : V} {u : Val} (r : Rep K c x u) : ∀ {xs : List V} {us : List Val} (i : Nat), Reps K c xs us → Reps K c (xs.set i x) (us.set i u)
  | _, _, _, .nil => .nil
  | _, _, 0, .cons _ t => .cons r t
  | _, _, i + 1, .cons q t => .cons q (Reps.set r i t)
theorem Reps.rep {xs : List V} {us : List Val} (r : Reps K c xs us) : ∀ n : Nat, Reps K c (List.replicate n xs).flatten (List.replicate n us).flatten
  | 0 => .nil
  | n + 1 => by
    rw [List.replicate_succ, List.replicate_succ, List.flatten_cons, List.flatten_cons]
    exact Reps.append r (Reps.rep r n)
theorem Reps.ints : ∀ ns : List Int, Reps K c (ns.map V.int) (ns.map Val.int)
  | [] => .nil
  | n :: ns => .cons (.int n) (Reps.ints ns)
theorem Reps.snoc {xs : List V} {us : List Val} {x : V} {u : Val} (r : Reps K c xs us) (q : Rep K c x u) : Reps K c (xs ++ [x]) (us ++ [u]) := r.append (.cons q .nil)
/-- the store stands in the heap -/
structure RelH (K : PySem.W.Frag) (c : Cf) (H : Hp) (st : Sto) : Prop where
  sub : Same c.F H
  len : c.φ.length = st.length
  nd : c.φ.Nodup
  all : ∀ a ∈ c.φ, ∃ o, H a = some o
  obs : ∀ (n : Nat) (l : List Val), st[n]? = some (Ob.lst l) → ∃ a vs, c.φ[n]? = some a ∧ c.F a = none ∧ H a = some (.lst vs) ∧ Reps K c vs l
def RelS (K : PySem.W.Frag) (c : Cf) (σ : L2.St) (l : Env) : Prop := σ.length = l.length ∧ ∀ (i : Nat) (v : Val), l[i]? = some (some v) → ∃ x, σ[i]? = some (some x) ∧ Rep K c x v
theorem RelS.mono {σ : L2.St} {l : Env} (h : RelS K c σ l) (e : Ext c H c' H') : RelS K c' σ l := ⟨h.1, fun i v q => by
  obtain ⟨x, q1, q2⟩ := h.2 i v q
  exact ⟨x, q1, q2.mono e⟩⟩
theorem RelS.set {σ : L2.St} {l : Env} (h : RelS K c σ l) {i : Nat} {x : V} {v : Val} (r : Rep K c x v) : RelS K c (σ.set i (some x)) (l.set i (some v)) := by
  refine ⟨by rw [List.length_set, List.length_set]; exact h.1, fun j w q => ?_⟩
  by_cases e : i = j
  · subst e
    rw [List.getElem?_set] at q
    split at q
    · rename_i hlt
      split at q
      · cases q
        refine ⟨x, ?_, r⟩
        rename_i hl
        rw [List.getElem?_set_self (by rw [h.1]; exact hl)]
      · cases q
    · rename_i hn
      exact absurd rfl hn
  · rw [List.getElem?_set_ne e] at q
    obtain ⟨y, q1, q2⟩ := h.2 j w q
    exact ⟨y, by rw [List.getElem?_set_ne e]; exact q1, q2⟩
theorem RelS.unset {σ : L2.St} {l : Env} (h : RelS K c σ l) {i : Nat} : RelS K c (σ.set i none) (l.set i none) := by
  refine ⟨by rw [List.length_set, List.length_set]; exact h.1, fun j w q => ?_⟩
  by_cases e : i = j
  · subst e
    rw [List.getElem?_set] at q
    split at q
    · split at q <;> cases q
    · rename_i hn
      exact absurd rfl hn
  · rw [List.getElem?_set_ne e] at q
    obtain ⟨y, q1, q2⟩ := h.2 j w q
    exact ⟨y, by rw [List.getElem?_set_ne e]; exact q1, q2⟩
theorem RelS.wipe {σ : L2.St} {l : Env} (h : RelS K c σ l) : ∀ vs : List Nat, RelS K c (L2.wipe σ vs) (wipeE l vs)
  | [] => h
  | v :: vs => by
    unfold L2.wipe wipeE
    exact (RelS.wipe h vs).unset
/-! ### what a run gives -/
/-- how an error lies: its class, its own dict -/
def RepX (K : PySem.W.Frag) (c : Cf) (H : Hp) (cls : Value) (d : Option Addr) (x : Xn) : Prop := False
def Run {α : Type} (K : PySem.W.Frag) (W : WX) (c : Cf) (σ : L2.St) (H : Hp) (r : R α) (Q : Cf → Hp → α → Sto → Prop) : Prop := match r with
  | .ok a st' => ∀ c' H', Ext c H c' H' → RelH K c' H' st' → Q c' H' a st'
  | .exn x st' => ∀ c' H' cls d, Ext c H c' H' → RelH K c' H' st' → RepX K c' H' cls d x → W cls d σ H'
  | .stuck => False
variable {W : WX} {σ : L2.St}
theorem Run.mono {α : Type} {r : R α} {Q Q' : Cf → Hp → α → Sto → Prop} (h : Run K W c σ H r Q) (f : ∀ c' H' a st', Ext c H c' H' → RelH K c' H' st' → Q c' H' a st' → Q' c' H' a st') : Run K W c σ H r Q' := by
  cases r with
  | ok a st => exact fun c' H' e q => f c' H' a st e q (h c' H' e q)
  | exn x st => exact h
  | stuck => exact h
theorem Run.from {α : Type} {r : R α} {Q : Cf → Hp → α → Sto → Prop} (e : Ext c H c1 H1) (h : Run K W c σ H r Q) : Run K W c1 σ H1 r Q := by
  cases r with
  | ok a st => exact fun c' H' e' q => h c' H' (e.trans e') q
  | exn x st => exact fun c' H' cls d e' q => h c' H' cls d (e.trans e') q
  | stuck => exact h
theorem Run.bind {α β : Type} {r : R α} {f : α → Sto → R β} {Q : Cf → Hp → β → Sto → Prop} (h : Run K W c σ H (r.bind f) Q) : Run K W c σ H r (fun c1 H1 a st1 => Run K W c1 σ H1 (f a st1) Q) := by
  cases r with
  | ok a st => exact fun c' H' e q => Run.from e h
  | exn x st => exact h
  | stuck => exact h
/-- what is read as the value of ev -/
def tE (K : PySem.W.Frag) (W : WX) (f : Env → Sto → R Val) : TE := fun σ H Q => ∃ c l st, RelH K c H st ∧ RelS K c σ l ∧ Run K W c σ H (f l st) (fun c' H' v _ => ∀ x, Rep K c' x v → Q x H')
def tT (K : PySem.W.Frag) (W : WX) (f : Env → Sto → R Val) : TT := fun σ H Q => ∃ c l st, RelH K c H st ∧ RelS K c σ l ∧ Run K W c σ H (f l st) (fun c' H' v _ => ∃ b, v = .bl b ∧ Q b H')
end
theorem _root_.L2.PE.imp {X : Cx} {e : Expr} {t t' : TE} (h : PE X e t) (i : ∀ σ H Q, t' σ H Q → t σ H Q) : PE X e t' := ⟨fun pins s σ H Q I q => h.run pins s σ H Q I (i σ H Q q)⟩
theorem _root_.L2.PT.imp {X : Cx} {e : Expr} {t t' : TT} (h : PT X e t) (i : ∀ σ H Q, t' σ H Q → t σ H Q) : PT X e t' := ⟨fun pins s σ H Q I q => h.run pins s σ H Q I (i σ H Q q)⟩
/-! ### a new object, a changed one -/
section
variable {K : PySem.W.Frag} {c : Cf} {H : Hp} {st : Sto} {W : WX} {σ : L2.St}
theorem RelH.fresh (h : RelH K c H st) {p : Addr} (n : H p = none) : c.F p = none ∧ p ∉ c.φ := by
  refine ⟨h.sub.free n, fun m => ?_⟩
  obtain ⟨o, q⟩ := h.all p m
  rw [n] at q
  cases q
theorem same_up {H : Hp} {p : Addr} {o : HO} (h : H p = none) : Same H (upd H p o) := fun b x e => by
  rw [upd_ne (ne_of_none e h)]
  exact e
theorem nodup_at {α : Type} : ∀ {l : List α} {i j : Nat} {a : α}, l.Nodup → l[i]? = some a → l[j]? = some a → i = j
  | [], _, _, _, _, h, _ => by simp at h
  | x :: l, 0, 0, _, _, _, _ => rfl
  | x :: l, 0, j + 1, a, n, h1, h2 => by
    have e : x = a := by simpa using h1
    have m : a ∈ l := List.mem_of_getElem? (by simpa using h2)
    rw [← e] at m
    exact absurd m (List.nodup_cons.mp n).1
  | x :: l, i + 1, 0, a, n, h1, h2 => by
    have e : x = a := by simpa using h2
    have m : a ∈ l := List.mem_of_getElem? (by simpa using h1)
    rw [← e] at m
    exact absurd m (List.nodup_cons.mp n).1
  | x :: l, i + 1, j + 1, a, n, h1, h2 => by
    exact congrArg (· + 1) (nodup_at (List.nodup_cons.mp n).2 (show l[i]? = some a by simpa using h1) (show l[j]? = some a by simpa using h2))
/-- it never changes -/
theorem RelH.new (h : RelH K c H st) {p : Addr} (n : H p = none) (o : HO) : Ext c H ⟨upd c.F p o, c.φ⟩ (upd H p o) ∧ RelH K ⟨upd c.F p o, c.φ⟩ (upd H p o) st := by
  obtain ⟨nF, nφ⟩ := h.fresh n
  have e : Ext c H ⟨upd c.F p o, c.φ⟩ (upd H p o) := ⟨same_up nF, List.prefix_refl _, fun a u q na => ⟨same_up n a u q, na⟩, fun a u q na z => by
    show upd c.F p o a = none
    rw [upd_ne (ne_of_none q n)]
    exact z⟩
  refine ⟨e, ⟨fun a u q => ?_, h.len, h.nd, fun a m => ?_, fun k l q => ?_⟩⟩
  · have q : upd c.F p o a = some u := q
    by_cases ha : a = p
    · subst ha
      rw [upd_same] at q ⊢
      exact q
    · rw [upd_ne ha] at q ⊢
      exact h.sub a u q
  · obtain ⟨u, q⟩ := h.all a m
    exact ⟨u, same_up n a u q⟩
  · obtain ⟨a, vs, q1, q2, q3, q4⟩ := h.obs k l q
    have ne : a ≠ p := fun z => nφ (z ▸ List.mem_of_getElem? q1)
    exact ⟨a, vs, q1, by show upd c.F p o a = none; rw [upd_ne ne]; exact q2, same_up n a _ q3, q4.mono e⟩
/-- it is of the store -/
theorem RelH.push (h : RelH K c H st) {p : Addr} (n : H p = none) {vs : List V} {l : List Val} (r : Reps K c vs l) : Ext c H ⟨c.F, c.φ ++ [p]⟩ (upd H p (.lst vs)) ∧ RelH K ⟨c.F, c.φ ++ [p]⟩ (upd H p (.lst vs)) (st ++ [.lst l]) := by
  obtain ⟨nF, nφ⟩ := h.fresh n
  have e : Ext c H ⟨c.F, c.φ ++ [p]⟩ (upd H p (.lst vs)) := ⟨Same.refl _, List.prefix_append _ _, fun a u q na => ⟨same_up n a u q, fun m => by
    rcases List.mem_append.mp m with m | m
    · exact na m
    · have z : a = p := by simpa using m
      rw [z, n] at q
      cases q⟩, fun _ _ _ _ z => z⟩
  refine ⟨e, ⟨h.sub.trans (same_up n), by show (c.φ ++ [p]).length = _; rw [List.length_append, List.length_append, h.len]; rfl, ?_, fun a m => ?_, fun k w q => ?_⟩⟩
  · show (c.φ ++ [p]).Nodup
    rw [List.nodup_append]
    exact ⟨h.nd, by simp, fun a ha b hb z => by
      have e : b = p := by simpa using hb
      rw [z, e] at ha
      exact nφ ha⟩
  · rcases List.mem_append.mp m with m | m
    · obtain ⟨u, q⟩ := h.all a m
      exact ⟨u, same_up n a u q⟩
    · have z : a = p := by simpa using m
      exact ⟨_, by rw [z]; exact upd_same⟩
  · by_cases hk : k < st.length
    · rw [List.getElem?_append_left hk] at q
      obtain ⟨a, us, q1, q2, q3, q4⟩ := h.obs k w q
      exact ⟨a, us, prefix_get (List.prefix_append _ _) q1, q2, same_up n a _ q3, q4.mono e⟩
    · rw [List.getElem?_append_right (by omega)] at q
      have e0 : k - st.length = 0 := by
        have := (List.getElem?_eq_some_iff.mp q).1
        simp at this
        omega
      rw [e0] at q
      have e1 : l = w := by
        simp at q
        exact q
      subst e1
      have ek : k = c.φ.length := by rw [h.len]; omega
      exact ⟨p, vs, by show (c.φ ++ [p])[k]? = some p; rw [ek]; simp, nF, upd_same, r.mono e⟩
/-- a list of the store is changed -/
theorem RelH.put (h : RelH K c H st) {n : Nat} {l0 l : List Val} (e0 : st[n]? = some (Ob.lst l0)) {a : Addr} (ea : c.φ[n]? = some a) {vs : List V} (r : Reps K c vs l) : Ext c H c (upd H a (.lst vs)) ∧ RelH K c (upd H a (.lst vs)) (st.set n (.lst l)) := by
  obtain ⟨a', vs0, q1, q2, q3, q4⟩ := h.obs n l0 e0
  have z : a' = a := Option.some.inj (q1.symm.trans ea)
  subst z
  have hlt : n < st.length := (List.getElem?_eq_some_iff.mp e0).1
  have ne : ∀ b, b ∉ c.φ → b ≠ a' := fun b nb z => nb (z ▸ List.mem_of_getElem? ea)
  refine ⟨⟨Same.refl _, List.prefix_refl _, fun b u q nb => ⟨by rw [upd_ne (ne b nb)]; exact q, nb⟩, fun _ _ _ _ z => z⟩, ⟨fun b u q => ?_, by rw [List.length_set]; exact h.len, h.nd, fun b m => ?_, fun k w q => ?_⟩⟩
  · have nb : b ≠ a' := fun z => by rw [z, q2] at q; cases q
    rw [upd_ne nb]
    exact h.sub b u q
  · by_cases hb : b = a'
    · exact ⟨_, by rw [hb]; exact upd_same⟩
    · obtain ⟨u, q⟩ := h.all b m
      exact ⟨u, by rw [upd_ne hb]; exact q⟩
  · by_cases hk : n = k
    · subst hk
      rw [List.getElem?_set_self hlt] at q
      cases q
      exact ⟨a', vs, q1, q2, upd_same, r⟩
    · rw [List.getElem?_set_ne hk] at q
      obtain ⟨b, us, p1, p2, p3, p4⟩ := h.obs k w q
      have nb : b ≠ a' := fun z => by
        rw [z] at p1
        exact hk (nodup_at h.nd q1 p1)
      exact ⟨b, us, p1, p2, by rw [upd_ne nb]; exact p3, p4⟩
/-- a list that is read -/
theorem RelH.lview (h : RelH K c H st) {x : V} {v : Val} {l : List Val} (r : Rep K c x v) (e : lview st v = some l) : ∃ a vs, x = .ref a ∧ H a = some (.lst vs) ∧ Reps K c vs l := by
  cases r with
  | lst h1 h2 =>
    cases e
    exact ⟨_, _, rfl, h.sub _ _ h1, h2⟩
  | @ref a n h1 =>
    have e' : (match st[n]? with | some (.lst l) => some l | _ => none) = some l := e
    split at e'
    · rename_i l' q
      cases e'
      obtain ⟨a', vs, q1, q2, q3, q4⟩ := h.obs n l q
      have z : a' = a := Option.some.inj (q1.symm.trans h1)
      subst z
      exact ⟨_, vs, rfl, q3, q4⟩
    · cases e'
  | _ => cases e
theorem RelH.sview (h : RelH K c H st) {x : V} {v : Val} {l : List Val} (r : Rep K c x v) (e : sview st v = some l) : ∃ a vs, x = .ref a ∧ (SqL K H a vs ∨ SqT K H a vs) ∧ Reps K c vs l := by
  cases r with
  | tup h1 h2 =>
    cases e
    exact ⟨_, _, rfl, .inr (SqT.mono h.sub h1), h2⟩
  | scr h1 =>
    cases e
    exact ⟨_, _, rfl, .inl (Same.seq h.sub h1), Reps.ints _⟩
  | lst h1 h2 =>
    obtain ⟨a, vs, e1, e2, e3⟩ := h.lview (.lst h1 h2) (show Pv.lview st (.lst _) = some l from e)
    exact ⟨a, vs, e1, .inl (.of e2), e3⟩
  | @ref a n h1 =>
    obtain ⟨a, vs, e1, e2, e3⟩ := h.lview (.ref h1) (show Pv.lview st (.ref n) = some l from e)
    exact ⟨a, vs, e1, .inl (.of e2), e3⟩
  | _ => cases e
theorem RelH.mlist (h : RelH K c H st) {x : V} {v : Val} {n : Nat} {l : List Val} (r : Rep K c x v) (e : mlist st v = some (n, l)) : ∃ a vs, x = .ref a ∧ st[n]? = some (Ob.lst l) ∧ c.φ[n]? = some a ∧ H a = some (.lst vs) ∧ Reps K c vs l := by
  cases r with
  | @ref a m h1 =>
    have e' : (match st[m]? with | some (.lst l) => some (m, l) | _ => none) = some (n, l) := e
    split at e'
    · rename_i l' q
      cases e'
      obtain ⟨a', vs, q1, q2, q3, q4⟩ := h.obs n l q
      have z : a' = a := Option.some.inj (q1.symm.trans h1)
      subst z
      exact ⟨_, vs, rfl, q, h1, q3, q4⟩
    · cases e'
  | _ => cases e
/-- what a new list asks -/
theorem run_newL {m : Bool} {l : List Val} {Q : Cf → Hp → Val → Sto → Prop} (h : RelH K c H st) (q : Run K W c σ H (newL m l st) Q) {p : Addr} (n : H p = none) {vs : List V} (r : Reps K c vs l) : ∃ c' v st', Rep K c' (.ref p) v ∧ Q c' (upd H p (.lst vs)) v st' := by
  cases m with
  | false =>
    obtain ⟨e, h'⟩ := h.new n (.lst vs)
    exact ⟨_, _, _, .lst (by exact upd_same) (r.mono e), q _ _ e h'⟩
  | true =>
    obtain ⟨e, h'⟩ := h.push n r
    exact ⟨_, _, _, .ref (by show (c.φ ++ [p])[st.length]? = some p; rw [← h.len]; simp), q _ _ e h'⟩
theorem run_tup {l : List Val} {Q : Cf → Hp → Val → Sto → Prop} (h : RelH K c H st) (q : Run K W c σ H (R.ok (.tup l) st) Q) {p : Addr} (n : H p = none) {vs : List V} (r : Reps K c vs l) : ∃ c', Rep K c' (.ref p) (.tup l) ∧ Q c' (upd H p (.tup vs)) (.tup l) st := by
  obtain ⟨e, h'⟩ := h.new n (.tup vs)
  exact ⟨_, .tup (.of (by exact upd_same)) (r.mono e), q _ _ e h'⟩
theorem Run.here {α : Type} {a : α} {Q : Cf → Hp → α → Sto → Prop} (q : Run K W c σ H (R.ok a st) Q) (h : RelH K c H st) : Q c H a st := q c H Ext.refl h
end
end Pv

set_option Elab.async false
set_option linter.all false
set_option maxRecDepth 100000
set_option maxHeartbeats 4000000
namespace Pv
open PySem PySem.Spec PyProof.Rows L2
/-! ### the operations -/
section
variable {X : Cx}
def rOp (K : PySem.W.Frag) (f : Val → Val → Sto → R Val) : R2 := fun x y H Q => ∃ c v w st σ W, RelH K c H st ∧ Rep K c x v ∧ Rep K c y w ∧ Run K W c σ H (f v w st) (fun c' H' z _ => ∀ Z, Rep K c' Z z → Q Z H')
theorem binR (o : Op) : OpR X (binaryOp (opM o)) (rOp X.K (binEv o)) := by
  intro pins s σ H x y u v Q I rx ry h
  obtain ⟨c, a, b, st, σ', W, hH, hx, hy, q⟩ := h
  unfold binEv at q
  split at q
  · rename_i i j
    cases hx
    cases hy
    cases o with
    | add => exact op_add pins s σ H _ _ _ _ Q I rx ry ⟨i, j, rfl, rfl, q.here hH _ (.int _)⟩
    | sub => exact op_sub pins s σ H _ _ _ _ Q I rx ry ⟨i, j, rfl, rfl, q.here hH _ (.int _)⟩
    | mul =>
      simp only [opI] at q
      split at q
      · rename_i k e
        split at e
        · rename_i hm
          cases e
          rcases hm with hm | hm | hm
          · exact op_mul pins s σ H _ _ _ _ Q I rx ry ⟨i, j, rfl, rfl, .inl hm, q.here hH _ (.int _)⟩
          · exact op_mul pins s σ H _ _ _ _ Q I rx ry ⟨i, j, rfl, rfl, .inr hm, q.here hH _ (.int _)⟩
          · exact op_mulW pins s σ H _ _ _ _ Q I rx ry ⟨i, j, rfl, rfl, hm, q.here hH _ (.int _)⟩
        · cases e
      · exact q.elim
    | fdiv =>
      simp only [opI] at q
      split at q
      · rename_i k e
        split at e
        · rename_i hm
          cases e
          exact op_fdivW pins s σ H _ _ _ _ Q I rx ry ⟨i, j, rfl, rfl, hm, q.here hH _ (.int _)⟩
        · cases e
      · exact q.elim
    | mod =>
      simp only [opI] at q
      split at q
      · rename_i k e
        split at e
        · rename_i hm
          cases e
          exact op_mod pins s σ H _ _ _ _ Q I rx ry ⟨i, j, rfl, rfl, hm, q.here hH _ (.int _)⟩
        · cases e
      · exact q.elim
    | pow =>
      simp only [opI] at q
      split at q
      · rename_i k e
        split at e
        · rename_i hm
          cases e
          exact op_pow pins s σ H _ _ _ _ Q I rx ry ⟨i, j, rfl, rfl, hm, q.here hH _ (.int _)⟩
        · cases e
      · exact q.elim
    | shl =>
      simp only [opI] at q
      split at q
      · rename_i k e
        split at e
        · rename_i hm
          cases e
          exact op_shl pins s σ H _ _ _ _ Q I rx ry ⟨i, j, rfl, rfl, hm, q.here hH _ (.int _)⟩
        · cases e
      · exact q.elim
    | shr =>
      simp only [opI] at q
      split at q
      · rename_i k e
        split at e
        · rename_i hm
          cases e
          exact op_shr pins s σ H _ _ _ _ Q I rx ry ⟨i, j, rfl, rfl, hm, q.here hH _ (.int _)⟩
        · cases e
      · exact q.elim
    | band => exact op_and pins s σ H _ _ _ _ Q I rx ry ⟨i, j, rfl, rfl, q.here hH _ (.int _)⟩
  · rename_i xs ys
    cases o with
    | add =>
      simp only at q
      split at q
      · rename_i hz
        cases hx with
        | @tup a vs _ h1 h2 =>
        cases hy with
        | @tup b ws _ h3 h4 =>
        refine op_catA pins s σ H _ _ _ _ Q I rx ry ⟨a, b, vs, ws, rfl, rfl, SqT.mono hH.sub h1, SqT.mono hH.sub h3, by rw [h2.length, h4.length]; exact hz, fun e => ?_, fun e1 e2 => ?_, fun e1 e2 p n => ?_⟩
        · subst e
          cases h2
          exact q.here hH _ (.tup h3 h4)
        · subst e2
          cases h4
          rw [List.append_nil] at q
          exact q.here hH _ (.tup h1 h2)
        · obtain ⟨c', r, q'⟩ := run_tup hH q n (h2.append h4)
          exact q' _ r
      · exact q.elim
    | _ => exact q.elim
  · rename_i xs k
    cases o with
    | mul =>
      simp only at q
      split at q
      · rename_i hz
        cases hy
        cases hx with
        | @tup a vs _ h1 h2 =>
        refine op_repT pins s σ H _ _ _ _ Q I rx ry ⟨a, k, vs, rfl, rfl, SqT.mono hH.sub h1, fun e => hz.1 ?_, hz.2.1, hz.2.2.1, by rw [h2.length]; exact hz.2.2.2, fun p n => ?_⟩
        · subst e
          cases h2
          rfl
        · obtain ⟨c', r, q'⟩ := run_tup hH q n (h2.rep k.toNat)
          exact q' _ r
      · exact q.elim
    | _ => exact q.elim
  · exact q.elim
theorem catR (m : Bool) : OpR X (binaryOp .Add) (rOp X.K (catEv m)) := by
  intro pins s σ H x y u v Q I rx ry h
  obtain ⟨c, a, b, st, σ', W, hH, hx, hy, q⟩ := h
  unfold catEv at q
  split at q
  · rename_i l1 l2 e1 e2
    split at q
    · rename_i hz
      obtain ⟨p1, vs, rfl, q1, r1⟩ := hH.lview hx e1
      obtain ⟨p2, ws, rfl, q2, r2⟩ := hH.lview hy e2
      refine op_cat pins s σ H _ _ _ _ Q I rx ry ⟨p1, p2, vs, ws, rfl, rfl, q1, q2, by rw [r1.length, r2.length]; exact hz, fun p n => ?_⟩
      obtain ⟨c', v', st', r, q'⟩ := run_newL hH q n (r1.append r2)
      exact q' _ r
    · exact q.elim
  · exact q.elim
theorem repR (m : Bool) : OpR X (binaryOp .Mult) (rOp X.K (repEv m)) := by
  intro pins s σ H x y u v Q I rx ry h
  obtain ⟨c, a, b, st, σ', W, hH, hx, hy, q⟩ := h
  unfold repEv at q
  split at q
  · rename_i l1 k e1
    split at q
    · rename_i hz
      cases hy
      obtain ⟨p1, vs, rfl, q1, r1⟩ := hH.lview hx e1
      refine op_rep pins s σ H _ _ _ _ Q I rx ry ⟨p1, k, vs, rfl, rfl, q1, hz.1, hz.2.1, by rw [r1.length]; exact hz.2.2, fun p n => ?_⟩
      obtain ⟨c', v', st', r, q'⟩ := run_newL hH q n (r1.rep k.toNat)
      exact q' _ r
    · exact q.elim
  · exact q.elim
/-! comparisons -/
mutual
theorem Rep.dp {K : PySem.W.Frag} {c : Cf} {H : Hp} (hs : Same c.F H) {x : V} {v : Val} {d : PyData} (h : Rep K c x v) (e : toD0 v = some d) : Dp K H x d := by
  cases h with
  | non => simp only [toD0] at e; cases e; exact .non
  | bl b => simp only [toD0] at e; cases e; exact .bl b
  | int i => simp only [toD0] at e; cases e; exact .int i
  | str s => simp only [toD0] at e; cases e; exact .str s
  | @tup a vs l h1 h2 =>
    simp only [toD0] at e
    cases q : toDs0 l with
    | none => rw [q] at e; cases e
    | some ds =>
      rw [q] at e
      cases e
      exact .tup (SqT.mono hs h1) (Reps.dp hs h2 q)
  | @lst a vs l h1 h2 =>
    simp only [toD0] at e
    cases q : toDs0 l with
    | none => rw [q] at e; cases e
    | some ds =>
      rw [q] at e
      cases e
      exact .lst (.of (hs _ _ h1)) (Reps.dp hs h2 q)
  | @scr a l h1 =>
    simp only [toD0] at e
    cases e
    refine .lst (Same.seq hs h1) ?_
    clear h1
    induction l with
    | nil => exact .nil
    | cons n r ih => exact .cons (.int n) ih
  | ref h1 => simp only [toD0] at e; cases e
termination_by sizeOf v
theorem Reps.dp {K : PySem.W.Frag} {c : Cf} {H : Hp} (hs : Same c.F H) {xs : List V} {l : List Val} {ds : List PyData} (h : Reps K c xs l) (e : toDs0 l = some ds) : DpAll K H xs ds := by
  cases h with
  | nil => simp only [toDs0] at e; cases e; exact .nil
  | @cons v vs d l h1 h2 =>
    simp only [toDs0] at e
    cases q1 : toD0 d with
    | none => rw [q1] at e; cases e
    | some d1 =>
      cases q2 : toDs0 l with
      | none => rw [q1, q2] at e; cases e
      | some d2 =>
        rw [q1, q2] at e
        cases e
        exact .cons (Rep.dp hs h1 q1) (Reps.dp hs h2 q2)
termination_by sizeOf l
end
theorem RelH.dp {K : PySem.W.Frag} {c : Cf} {H : Hp} {st : Sto} (hH : RelH K c H st) {x : V} {v : Val} {d : PyData} (h : Rep K c x v) (e : toD st v = some d) : Dp K H x d := by
  cases h with
  | @ref a n h1 =>
    have e' : (match st[n]? with | some (.lst l) => (toDs0 l).map .list | _ => none) = some d := e
    split at e'
    · rename_i l q
      cases q2 : toDs0 l with
      | none => rw [q2] at e'; cases e'
      | some ds =>
        rw [q2] at e'
        cases e'
        obtain ⟨a', vs, p1, p2, p3, p4⟩ := hH.obs n l q
        have z : a' = a := Option.some.inj (p1.symm.trans h1)
        subst z
        exact .lst (.of p3) (Reps.dp hH.sub p4 q2)
    · cases e'
  | non => exact Rep.dp hH.sub .non e
  | bl b => exact Rep.dp hH.sub (.bl b) e
  | int i => exact Rep.dp hH.sub (.int i) e
  | str z => exact Rep.dp hH.sub (.str z) e
  | tup h1 h2 => exact Rep.dp hH.sub (.tup h1 h2) e
  | lst h1 h2 => exact Rep.dp hH.sub (.lst h1 h2) e
  | scr h1 => exact Rep.dp hH.sub (.scr h1) e
/-- the two answers of == -/
theorem eqR (hu : X.A.units + 64 < cLine) {c : Cf} {H : Hp} {st : Sto} (hH : RelH X.K c H st) {x y : V} {a b : Val} (hx : Rep X.K c x a) (hy : Rep X.K c y b) {k : Bool} (e : eqEv st a b = some k) :
    ((∀ Q : VK, Q (.bl k) H → rEq x y H Q ∨ rEqD X.K x y H Q) ∧ ∀ Q : VK, Q (.bl (!k)) H → rNe x y H Q ∨ rNeD X.K x y H Q) := by
  unfold eqEv at e
  split at e
  · rename_i i j
    cases hx
    cases hy
    cases e
    have z : decide (V.int i = V.int j) = decide (i = j) := by rw [dec_int]; exact Bool.beq_eq_decide_eq ..
    exact ⟨fun Q q => .inl ⟨rfl, by rw [z]; exact q⟩, fun Q q => .inl ⟨rfl, by rw [z]; exact q⟩⟩
  · rename_i i j
    cases hx
    cases hy
    cases e
    have z : decide (V.bl i = V.bl j) = decide (i = j) := by rw [dec_bl]; exact Bool.beq_eq_decide_eq ..
    exact ⟨fun Q q => .inl ⟨rfl, by rw [z]; exact q⟩, fun Q q => .inl ⟨rfl, by rw [z]; exact q⟩⟩
  · rename_i i j
    cases hx
    cases hy
    cases e
    have z : decide (V.str i = V.str j) = decide (i = j) := by rw [dec_str]; exact Bool.beq_eq_decide_eq ..
    exact ⟨fun Q q => .inl ⟨rfl, by rw [z]; exact q⟩, fun Q q => .inl ⟨rfl, by rw [z]; exact q⟩⟩
  · split at e
    · rename_i d d' e1 e2
      split at e
      · rename_i hs
        cases e
        have p1 := hH.dp hx e1
        have p2 := hH.dp hy e2
        exact ⟨fun Q q => .inr ⟨d, d', p1, p2, hs.1, hs.2, q⟩, fun Q q => .inr ⟨d, d', p1, p2, hs.1, hs.2, q⟩⟩
      · cases e
    · cases e
theorem flat_V {K : PySem.W.Frag} {c : Cf} {x : V} {v : Val} (h : Rep K c x v) (f : flat v = true) : flatV x = true := by
  cases h <;> first | rfl | cases f
theorem feq_V {K : PySem.W.Frag} {c : Cf} {x y : V} {v w : Val} (h : Rep K c x v) (h' : Rep K c y w) (f : flat v = true) (f' : flat w = true) : eqV y x = feq w v := by
  cases h <;> first | (cases f; done) | (cases h' <;> first | (cases f'; done) | rfl)
theorem flats_V {K : PySem.W.Frag} {c : Cf} : ∀ {xs : List V} {l : List Val}, Reps K c xs l → l.all flat = true → xs.all flatV = true
  | _, _, .nil, _ => rfl
  | _, _, .cons r t, h => by
    rw [List.all_cons, Bool.and_eq_true] at h ⊢
    exact ⟨flat_V r h.1, flats_V t h.2⟩
theorem in_V {K : PySem.W.Frag} {c : Cf} {x : V} {v : Val} (h : Rep K c x v) (f : flat v = true) : ∀ {xs : List V} {l : List Val}, Reps K c xs l → l.all flat = true → inV x xs = l.any fun y => feq y v
  | _, _, .nil, _ => rfl
  | _, _, .cons r t, g => by
    rw [List.all_cons, Bool.and_eq_true] at g
    show (_ :: _).any (fun y => eqV y x) = (_ :: _).any _
    rw [List.any_cons, List.any_cons, feq_V h r f g.1]
    have ih := in_V h f t g.2
    unfold inV at ih
    rw [ih]
theorem cmR (o : Cm) (hu : X.A.units + 64 < cLine) : OpR X (compareOp (cmM o)) (rOp X.K (cmEv o)) := by
  intro pins s σ H x y u v Q I rx ry h
  obtain ⟨c, a, b, st, σ', W, hH, hx, hy, q⟩ := h
  cases o with
  | eq =>
    simp only [cmEv] at q
    split at q
    · rename_i k e
      exact (op_eq.or (op_eqD hu)) pins s σ H _ _ _ _ Q I rx ry ((eqR hu hH hx hy e).1 Q (q.here hH _ (.bl _)))
    · exact q.elim
  | ne =>
    simp only [cmEv] at q
    split at q
    · rename_i k e
      exact (op_ne.or (op_neD hu)) pins s σ H _ _ _ _ Q I rx ry ((eqR hu hH hx hy e).2 Q (q.here hH _ (.bl _)))
    · exact q.elim
  | lt =>
    simp only [cmEv] at q
    split at q
    · rename_i i j
      cases hx
      cases hy
      exact op_lt pins s σ H _ _ _ _ Q I rx ry ⟨i, j, rfl, rfl, q.here hH _ (.bl _)⟩
    · exact q.elim
  | le =>
    simp only [cmEv] at q
    split at q
    · rename_i i j
      cases hx
      cases hy
      exact op_le pins s σ H _ _ _ _ Q I rx ry ⟨i, j, rfl, rfl, q.here hH _ (.bl _)⟩
    · exact q.elim
  | gt =>
    simp only [cmEv] at q
    split at q
    · rename_i i j
      cases hx
      cases hy
      exact op_gt pins s σ H _ _ _ _ Q I rx ry ⟨i, j, rfl, rfl, q.here hH _ (.bl _)⟩
    · exact q.elim
  | ge =>
    simp only [cmEv] at q
    split at q
    · rename_i i j
      cases hx
      cases hy
      exact op_ge pins s σ H _ _ _ _ Q I rx ry ⟨i, j, rfl, rfl, q.here hH _ (.bl _)⟩
    · exact q.elim
  | is' =>
    simp only [cmEv] at q
    split at q
    · cases hy
      refine op_isN pins s σ H _ _ _ _ Q I rx ry ⟨rfl, ?_⟩
      have z : decide (x = V.non) = isNon a := by cases hx <;> rfl
      rw [z]
      exact q.here hH _ (.bl _)
    · exact q.elim
  | isN =>
    simp only [cmEv] at q
    split at q
    · cases hy
      refine op_notN pins s σ H _ _ _ _ Q I rx ry ⟨rfl, ?_⟩
      have z : decide (x = V.non) = isNon a := by cases hx <;> rfl
      rw [z]
      exact q.here hH _ (.bl _)
    · exact q.elim
  | in' =>
    simp only [cmEv, inEv] at q
    split at q
    · rename_i k e
      split at e
      · rename_i l el
        split at e
        · rename_i hf
          cases e
          obtain ⟨p, vs, rfl, h1, h2⟩ := hH.sview hy el
          refine op_in_seq pins s σ H _ _ _ _ Q I rx ry ⟨p, vs, rfl, h1, flat_V hx hf.1, flats_V h2 hf.2, ?_⟩
          show Q (.bl (inV x vs)) H
          rw [in_V hx hf.1 h2 hf.2]
          exact q.here hH _ (.bl _)
        · cases e
      · cases e
    · exact q.elim
  | nin =>
    simp only [cmEv, inEv] at q
    split at q
    · rename_i k e
      split at e
      · rename_i l el
        split at e
        · rename_i hf
          cases e
          obtain ⟨p, vs, rfl, h1, h2⟩ := hH.sview hy el
          refine op_notIn_seq pins s σ H _ _ _ _ Q I rx ry ⟨p, vs, rfl, h1, flat_V hx hf.1, flats_V h2 hf.2, ?_⟩
          show Q (.bl (!inV x vs)) H
          rw [in_V hx hf.1 h2 hf.2]
          exact q.here hH _ (.bl _)
        · cases e
      · cases e
    · exact q.elim
/-- a comparison's answer is a bool -/
theorem cmEv_bl {o : Cm} {a b : Val} {st st' : Sto} {v : Val} (h : cmEv o a b st = .ok v st') : ∃ k, v = .bl k ∧ st' = st := by
  cases o <;> (simp only [cmEv] at h; split at h <;> first | (cases h; exact ⟨_, rfl, rfl⟩) | cases h)
theorem cmEv_exn {o : Cm} {a b : Val} {st st' : Sto} {x : Xn} : cmEv o a b st ≠ .exn x st' := by
  intro h
  cases o <;> (simp only [cmEv] at h; split at h <;> cases h)
/-! subscripts, slices -/
theorem atI_V {K : PySem.W.Frag} {c : Cf} {vs : List V} {l : List Val} {k : Int} {d : Val} (h : Reps K c vs l) (e : L2.atI l k = some d) : ∃ v, L2.atI vs k = some v ∧ Rep K c v d := by
  unfold L2.atI at e ⊢
  rw [h.length]
  cases q : L2.ixN l.length k with
  | none => rw [q] at e; cases e
  | some j =>
    rw [q] at e
    obtain ⟨v, e1, e2⟩ := h.get (show l[j]? = some d from e)
    exact ⟨v, e1, e2⟩
theorem idxR : IxR X (rOp X.K idxEv) := by
  intro value slice pins s σ H x y u v Q I rx ry h hs
  obtain ⟨c, a, b, st, σ', W, hH, hx, hy, q⟩ := h
  unfold idxEv at q
  split at q
  · rename_i l k e
    split at q
    · rename_i d e2
      cases hy
      obtain ⟨p, vs, rfl, h1, h2⟩ := hH.sview hx e
      obtain ⟨w, e3, r3⟩ := atI_V h2 e2
      rcases h1 with h1 | h1
      · exact ix_list value slice pins s σ H _ _ _ _ Q I rx ry ⟨p, vs, k, w, rfl, rfl, h1, e3, q.here hH _ r3⟩ hs
      · exact ix_tup value slice pins s σ H _ _ _ _ Q I rx ry ⟨p, vs, k, w, rfl, rfl, h1, e3, q.here hH _ r3⟩ hs
    · exact q.elim
  · exact q.elim
def rSl (K : PySem.W.Frag) (f : Val → Option Int → Option Int → Sto → R Val) : V → Option Int → Option Int → Hp → VK → Prop := fun x lo hi H Q => ∃ c v st σ W, RelH K c H st ∧ Rep K c x v ∧ Run K W c σ H (f v lo hi st) (fun c' H' z _ => ∀ Z, Rep K c' Z z → Q Z H')
theorem cut_V {K : PySem.W.Frag} {c : Cf} {vs : List V} {l : List Val} {lo hi : Option Int} (h : Reps K c vs l) : Reps K c (cutV vs lo hi) (cutL l lo hi) := by
  unfold cutV cutL
  rw [h.length]
  exact (h.drop _).take _
theorem slcR (m : Bool) : SlR X (rSl X.K (slcEv m)) := by
  intro pins s σ H x v vl vu lo hi sl Q I rx hs pl pu h
  obtain ⟨c, a, st, σ', W, hH, hx, q⟩ := h
  unfold slcEv at q
  split at q
  · rename_i l
    cases hx with
    | @tup p vs _ h1 h2 =>
    refine sl_tupA pins s σ H _ v vl vu lo hi sl Q I rx hs pl pu ⟨p, vs, rfl, SqT.mono hH.sub h1, fun e => ?_, fun e p' n => ?_⟩
    · have z : cutL l lo hi = l := by
        unfold cutL
        rw [← h2.length, e.1, e.2, h2.length]
        simp
      rw [z] at q
      exact q.here hH _ (.tup h1 h2)
    · obtain ⟨c', r, q'⟩ := run_tup hH q n (cut_V h2)
      exact q' _ r
  · split at q
    · rename_i l e
      obtain ⟨p1, vs, rfl, q1, r1⟩ := hH.lview hx e
      refine sl_list pins s σ H _ v vl vu lo hi sl Q I rx hs pl pu ⟨p1, vs, rfl, .of q1, fun p n => ?_⟩
      obtain ⟨c', v', st', r, q'⟩ := run_newL hH q n (cut_V r1)
      exact q' _ r
    · exact q.elim
/-! built-ins -/
def rBf (K : PySem.W.Frag) (f : List Val → Sto → R Val) : List V → Hp → VK → Prop := fun xs H Q => ∃ c l st σ W, RelH K c H st ∧ Reps K c xs l ∧ Run K W c σ H (f l st) (fun c' H' z _ => ∀ Z, Rep K c' Z z → Q Z H')
theorem Reps.one {K : PySem.W.Frag} {c : Cf} {xs : List V} {a : Val} (h : Reps K c xs [a]) : ∃ x, xs = [x] ∧ Rep K c x a := by
  cases h with
  | cons r t => cases t; exact ⟨_, rfl, r⟩
theorem Reps.two {K : PySem.W.Frag} {c : Cf} {xs : List V} {a b : Val} (h : Reps K c xs [a, b]) : ∃ x y, xs = [x, y] ∧ Rep K c x a ∧ Rep K c y b := by
  cases h with
  | cons r t =>
    obtain ⟨y, rfl, q⟩ := Reps.one t
    exact ⟨_, _, rfl, r, q⟩
theorem allI_V {K : PySem.W.Frag} {c : Cf} : ∀ {xs : List V} {l : List Val} {ns : List Int}, Reps K c xs l → allI l = some ns → xs = ns.map V.int
  | _, _, ns, .nil, e => by cases e; rfl
  | _, _, ns, .cons r t, e => by
    cases r with
    | @int i =>
      simp only [allI] at e
      rename_i vs l'
      cases q : allI l' with
      | none => rw [q] at e; cases e
      | some ms =>
        rw [q] at e
        cases e
        rw [allI_V t q]
        rfl
    | _ => cases e
theorem allB_V {K : PySem.W.Frag} {c : Cf} : ∀ {xs : List V} {l : List Val} {ns : List Bool}, Reps K c xs l → allB l = some ns → xs = ns.map V.bl
  | _, _, ns, .nil, e => by cases e; rfl
  | _, _, ns, .cons r t, e => by
    cases r with
    | @bl i =>
      simp only [allB] at e
      rename_i vs l'
      cases q : allB l' with
      | none => rw [q] at e; cases e
      | some ms =>
        rw [q] at e
        cases e
        rw [allB_V t q]
        rfl
    | _ => cases e
def bfV : Bf → Value
  | .len => .builtin "len"
  | .abs => .builtin "abs"
  | .int => .type "int"
  | .tuple => .type "tuple"
  | .min2 => .builtin "min"
  | .max2 => .builtin "max"
  | .sum => .builtin "sum"
  | .all => .builtin "all"
  | .any => .builtin "any"
theorem bfR (hc : X.calm = true) (f : Bf) : CallR X (bfV f) (rBf X.K (bfEv f)) := by
  intro pins s σ H xs us Q I rx h
  obtain ⟨c, l, st, σ', W, hH, hx, q⟩ := h
  unfold bfEv at q
  split at q
  · rename_i a
    obtain ⟨x, rfl, h1⟩ := hx.one
    split at q
    · rename_i l' e
      obtain ⟨p, vs, rfl, h2, h3⟩ := hH.sview h1 e
      refine call_len_seq pins s σ H _ us Q I rx ⟨p, vs, rfl, h2, ?_⟩
      rw [h3.length]
      exact q.here hH _ (.int _)
    · exact q.elim
  · rename_i i
    obtain ⟨x, rfl, h1⟩ := hx.one
    cases h1
    exact call_abs pins s σ H _ us Q I rx ⟨i, rfl, q.here hH _ (.int _)⟩
  · rename_i i
    obtain ⟨x, rfl, h1⟩ := hx.one
    cases h1
    exact call_int1 pins s σ H _ us Q I rx (.inl ⟨i, rfl, q.here hH _ (.int _)⟩)
  · rename_i i
    obtain ⟨x, rfl, h1⟩ := hx.one
    cases h1
    exact call_int1 pins s σ H _ us Q I rx (.inr ⟨i, rfl, q.here hH _ (.int _)⟩)
  · rename_i l'
    obtain ⟨x, rfl, h1⟩ := hx.one
    cases h1 with
    | @tup p vs _ h2 h3 => exact call_tuple_of pins s σ H _ us Q I rx ⟨p, vs, rfl, .inr ⟨SqT.mono hH.sub h2, q.here hH _ (.tup h2 h3)⟩⟩
  · rename_i a _
    obtain ⟨x, rfl, h1⟩ := hx.one
    split at q
    · rename_i l' e
      obtain ⟨p, vs, rfl, h2, h3⟩ := hH.lview h1 e
      refine call_tuple_of pins s σ H _ us Q I rx ⟨p, vs, rfl, .inl ⟨.of h2, fun p' n => ?_⟩⟩
      obtain ⟨c', r, q'⟩ := run_tup hH q n h3
      exact q' _ r
    · exact q.elim
  · rename_i i j
    obtain ⟨x, y, rfl, h1, h2⟩ := hx.two
    cases h1
    cases h2
    exact call_min2 hc pins s σ H _ us Q I rx ⟨i, j, rfl, q.here hH _ (.int _)⟩
  · rename_i i j
    obtain ⟨x, y, rfl, h1, h2⟩ := hx.two
    cases h1
    cases h2
    exact call_max2 hc pins s σ H _ us Q I rx ⟨i, j, rfl, q.here hH _ (.int _)⟩
  · rename_i a
    obtain ⟨x, rfl, h1⟩ := hx.one
    split at q
    · rename_i ns e
      obtain ⟨l', e1, e2⟩ := Option.bind_eq_some_iff.mp e
      obtain ⟨p, vs, rfl, h2, h3⟩ := hH.lview h1 e1
      have z := allI_V h3 e2
      subst z
      exact cr_sum hc pins s σ H _ us Q I rx ⟨p, ns, rfl, .of h2, q.here hH _ (.int _)⟩
    · exact q.elim
  · rename_i a
    obtain ⟨x, rfl, h1⟩ := hx.one
    split at q
    · rename_i ns e
      obtain ⟨l', e1, e2⟩ := Option.bind_eq_some_iff.mp e
      obtain ⟨p, vs, rfl, h2, h3⟩ := hH.lview h1 e1
      have z := allB_V h3 e2
      subst z
      exact cr_all hc pins s σ H _ us Q I rx ⟨p, ns, rfl, .of h2, q.here hH _ (.bl _)⟩
    · exact q.elim
  · rename_i a
    obtain ⟨x, rfl, h1⟩ := hx.one
    split at q
    · rename_i ns e
      obtain ⟨l', e1, e2⟩ := Option.bind_eq_some_iff.mp e
      obtain ⟨p, vs, rfl, h2, h3⟩ := hH.lview h1 e1
      have z := allB_V h3 e2
      subst z
      exact cr_any hc pins s σ H _ us Q I rx ⟨p, ns, rfl, .of h2, q.here hH _ (.bl _)⟩
    · exact q.elim
  · exact q.elim
def mklL (m : Bool) (l : List Val) (st : Sto) : R Val := match l with
  | [a] => mklEv m a st
  | _ => .stuck
theorem mklR (m : Bool) : CallR X (.type "list") (rBf X.K (mklL m)) := by
  intro pins s σ H xs us Q I rx h
  obtain ⟨c, l, st, σ', W, hH, hx, q⟩ := h
  unfold mklL at q
  split at q
  · rename_i a
    obtain ⟨x, rfl, h1⟩ := hx.one
    unfold mklEv at q
    split at q
    · rename_i l'
      cases h1 with
      | @tup p vs _ h2 h3 =>
      refine call_list_of pins s σ H _ us Q I rx ⟨p, vs, rfl, .inr (SqT.mono hH.sub h2), fun p' n => ?_⟩
      obtain ⟨c', v', st', r, q'⟩ := run_newL hH q n h3
      exact q' _ r
    · split at q
      · rename_i l' e
        obtain ⟨p, vs, rfl, h2, h3⟩ := hH.lview h1 e
        refine call_list_of pins s σ H _ us Q I rx ⟨p, vs, rfl, .inl (.of h2), fun p' n => ?_⟩
        obtain ⟨c', v', st', r, q'⟩ := run_newL hH q n h3
        exact q' _ r
      · exact q.elim
  · exact q.elim
/-! methods of lists -/
def rMt (K : PySem.W.Frag) (f : Val → Val → Sto → R Val) : V → List V → Hp → VK → Prop := fun x xs H Q => ∃ y c v w st σ W, xs = [y] ∧ RelH K c H st ∧ Rep K c x v ∧ Rep K c y w ∧ Run K W c σ H (f v w st) (fun c' H' z _ => ∀ Z, Rep K c' Z z → Q Z H')
theorem appR : MtR X "list.append" (rMt X.K appEv) := by
  intro pins s σ H x xs v us Q I rx rs h
  obtain ⟨y, c, a, b, st, σ', W, rfl, hH, hx, hy, q⟩ := h
  unfold appEv at q
  split at q
  · rename_i n l e
    split at q
    · rename_i hz
      obtain ⟨p, vs, rfl, h1, h2, h3, h4⟩ := hH.mlist hx e
      obtain ⟨e1, h5⟩ := hH.put h1 h2 (h4.snoc hy)
      exact mt_append pins s σ H _ _ v us Q I rx rs ⟨p, vs, y, rfl, rfl, h3, by rw [h4.length]; exact hz, q _ _ e1 h5 _ .non⟩
    · exact q.elim
  · exact q.elim
theorem extR : MtR X "list.extend" (rMt X.K extEv) := by
  intro pins s σ H x xs v us Q I rx rs h
  obtain ⟨y, c, a, b, st, σ', W, rfl, hH, hx, hy, q⟩ := h
  unfold extEv at q
  split at q
  · rename_i n l l' e e'
    split at q
    · rename_i hz
      obtain ⟨p, vs, rfl, h1, h2, h3, h4⟩ := hH.mlist hx e
      obtain ⟨p', ws, rfl, h6, h7⟩ := hH.lview hy e'
      obtain ⟨e1, h5⟩ := hH.put h1 h2 (h4.append h7)
      exact mt_extend pins s σ H _ _ v us Q I rx rs ⟨p, p', vs, ws, rfl, rfl, h3, h6, by rw [h4.length, h7.length]; exact hz, q _ _ e1 h5 _ .non⟩
    · exact q.elim
  · exact q.elim
/-! truth -/
theorem truth_V {K : PySem.W.Frag} {c : Cf} {H : Hp} {st : Sto} (hH : RelH K c H st) {x : V} {v : Val} {b : Bool} (h : Rep K c x v) (e : truth st v = some b) : TruV K x H b := by
  have main : ∀ l, sview st v = some l → b = !l.isEmpty → TruV K x H b := fun l e1 e2 => by
    obtain ⟨p, vs, rfl, h2, h3⟩ := hH.sview h e1
    have z : l.isEmpty = vs.isEmpty := by cases h3 <;> rfl
    rw [e2, z]
    rcases h2 with h2 | h2
    · exact .inl ⟨vs, h2, rfl⟩
    · exact .inr (.inl ⟨vs, h2, rfl⟩)
  unfold truth at e
  split at e
  · cases h; cases e; rfl
  · cases h; cases e; rfl
  · cases h; cases e; rfl
  · split at e
    · rename_i l q
      cases e
      exact main l q rfl
    · cases e
/-! isinstance -/
def clT : Cl → String
  | .int => "int"
  | .bool => "bool"
  | .str => "str"
  | .tuple => "tuple"
  | .list => "list"
theorem isi_V {K : PySem.W.Frag} {c : Cf} {H : Hp} {st : Sto} (hH : RelH K c H st) {x : V} {v : Val} {k : Cl} {b : Bool} (h : Rep K c x v) (e : isiEv st k v = some b) : ∃ t, TyX K H x t ∧ PySem.W.kitOne K t (.type (clT k)) = some b := by
  cases h with
  | non => refine ⟨_, .base .non, kit_ty ?_⟩; cases k <;> (simp only [isiEv] at e; cases e; decide +kernel)
  | bl z => refine ⟨_, .base (.bl z), kit_ty ?_⟩; cases k <;> (simp only [isiEv] at e; cases e; decide +kernel)
  | int z => refine ⟨_, .base (.int z), kit_ty ?_⟩; cases k <;> (simp only [isiEv] at e; cases e; decide +kernel)
  | str z => refine ⟨_, .base (.str z), kit_ty ?_⟩; cases k <;> (simp only [isiEv] at e; cases e; decide +kernel)
  | @tup a vs l h1 h2 =>
    have ty : TyX K H (.ref a) (.type "tuple") := by
      rcases SqT.mono hH.sub h1 with (h | ⟨o, h⟩) | ⟨o, its, n, h, hc, _⟩
      · exact .base (.tup h)
      · exact .fTuple h
      · exact .kTuple h hc
    refine ⟨_, ty, kit_ty ?_⟩
    cases k <;> (simp only [isiEv] at e; cases e; decide +kernel)
  | @lst a vs l h1 h2 =>
    refine ⟨_, .base (.lst (hH.sub _ _ h1)), kit_ty ?_⟩
    cases k <;> (simp only [isiEv] at e; cases e; decide +kernel)
  | @scr a l h1 =>
    have ty : TyX K H (.ref a) (.type "list") := by
      rcases Same.seq hH.sub h1 with (h | ⟨o, h⟩) | ⟨o, its, n, h, hc, _⟩
      · exact .base (.lst h)
      · exact .base (.frz h)
      · exact .kList h hc
    refine ⟨_, ty, kit_ty ?_⟩
    cases k <;> (simp only [isiEv] at e; cases e; decide +kernel)
  | @ref a n h1 =>
    simp only [isiEv] at e
    split at e
    · rename_i l q
      obtain ⟨a', vs, p1, p2, p3, p4⟩ := hH.obs n l q
      have z : a' = a := Option.some.inj (p1.symm.trans h1)
      subst z
      refine ⟨_, .base (.lst p3), kit_ty ?_⟩
      cases k <;> (cases e; decide +kernel)
    · cases e
end
end Pv

set_option Elab.async false
set_option linter.all false
set_option maxRecDepth 100000
set_option maxHeartbeats 4000000
namespace Pv
open PySem PySem.Spec PyProof.Rows L2
/-! ### how arguments are bound -/
theorem argsB_ok {ps : List Str} {a : Arguments} (h : argsB ps a = true) : ∃ as, a = ⟨[], as, none, [], [], none, []⟩ ∧ as.map (·.arg) = ps := by
  obtain ⟨po, as, va, ko, kd, kw, df⟩ := a
  simp only [argsB, Bool.and_eq_true, decide_eq_true_eq, List.isEmpty_iff, Option.isNone_iff_eq_none] at h
  obtain ⟨⟨⟨⟨⟨⟨h1, h2⟩, h3⟩, h4⟩, h5⟩, h6⟩, h7⟩ := h
  subst h1 h3 h4 h5 h6 h7
  exact ⟨as, rfl, h2⟩
theorem lookup_snoc {β : Type} {k n : Str} {v : β} : ∀ {s : List (Str × β)}, s.lookup n = none → n ≠ k → (s ++ [(k, v)]).lookup n = none
  | [], _, h => by
    show List.lookup n [(k, v)] = none
    rw [List.lookup_cons]
    rw [show (n == k) = false by simpa using h]
    rfl
  | (a, b) :: s, e, h => by
    rw [List.cons_append, List.lookup_cons]
    rw [List.lookup_cons] at e
    cases q : n == a with
    | true => rw [q] at e; cases e
    | false => rw [q] at e; exact lookup_snoc e h
theorem kw_loop {ps : List Str} {f : Str × Value → List (Str × Value) × List (Str × Value) → Sem (ForInStep (List (Str × Value) × List (Str × Value)))}
    (hf : ∀ p s, p.1 ∈ ps → s.1.lookup p.1 = none → f p s = pure (.yield (s.1 ++ [(p.1, p.2)], s.2))) : ∀ (l s e : List (Str × Value)), (∀ p ∈ l, p.1 ∈ ps) → (l.map (·.1)).Nodup → (∀ p ∈ l, s.lookup p.1 = none) → forIn l (s, e) f = pure (s ++ l, e)
  | [], s, e, _, _, _ => by rw [List.forIn_nil, List.append_nil]
  | p :: l, s, e, h1, h2, h3 => by
    rw [List.forIn_cons, hf p (s, e) (h1 p List.mem_cons_self) (h3 p List.mem_cons_self), pure_bind]
    rw [List.map_cons, List.nodup_cons] at h2
    have ih := kw_loop hf l (s ++ [(p.1, p.2)]) e (fun q hq => h1 q (List.mem_cons_of_mem _ hq)) h2.2 fun q hq => lookup_snoc (h3 q (List.mem_cons_of_mem _ hq)) fun z => h2.1 (z ▸ List.mem_map_of_mem hq)
    rw [List.append_assoc] at ih
    exact ih
theorem filt_zip {s : List (Str × Value)} : ∀ {ps : List Str} {vs : List Value}, vs.length = ps.length → (∀ p ∈ ps.zip vs, s.lookup p.1 = some p.2) → ps.filterMap (fun n => (s.lookup n).map (n, ·)) = ps.zip vs
  | [], _, _, _ => by simp
  | p :: ps, [], h, _ => by simp at h
  | p :: ps, v :: vs, h, g => by
    rw [List.zip_cons_cons, List.filterMap_cons, g (p, v) (by rw [List.zip_cons_cons]; exact List.mem_cons_self)]
    show (p, v) :: _ = _
    rw [filt_zip (by simpa using h) fun q hq => g q (by rw [List.zip_cons_cons]; exact List.mem_cons_of_mem _ hq)]
theorem bind_gen {x qual : Str} {as : List Arg} {ps : List Str} {body : List Stmt} {sc : Scope} {kV doc pm : Value} {an : Option Addr} {cdv ct : Value} {us vs : List Value} {l : List (Str × Value)} (hp : as.map (·.arg) = ps) (hu : us.length ≤ ps.length)
    (h1 : ∀ p ∈ l, p.1 ∈ ps) (h2 : (l.map (·.1)).Nodup) (h3 : ∀ p ∈ l, (ps.zip us).lookup p.1 = none) (hv : vs.length = ps.length) (h4 : ∀ p ∈ ps.zip vs, (ps.zip us ++ l).lookup p.1 = some p.2) :
    bindArgs (PySem.W.fnOf x qual ⟨[], as, none, [], [], none, []⟩ body sc .none kV doc pm an cdv ct) ⟨us, l⟩ = pure (ps.zip vs) := by
  have lk : ∀ n ∈ ps, ((ps.zip us ++ l).lookup n).isNone = false := fun n hn => by
    obtain ⟨i, hi, e⟩ := List.mem_iff_getElem.mp hn
    have m : (n, vs[i]'(by omega)) ∈ ps.zip vs := by
      refine List.mem_iff_getElem.mpr ⟨i, by rw [List.length_zip]; omega, ?_⟩
      rw [List.getElem_zip, e]
    rw [h4 _ m]
    rfl
  have fz := filt_zip hv h4
  subst hp
  unfold bindArgs
  have e0 : seqItems? Value.none = pure none := rfl
  simp only [PySem.W.fnOf, e0, pure_bind, List.map_nil, List.nil_append, List.append_nil, Option.isNone_none, Option.isSome_none]
  rw [kw_loop (ps := as.map (·.arg)) ?_ l _ [] h1 h2 h3]
  · simp only [pure_bind]
    have e1 : decide (us.length > (as.map (·.arg)).length) = false := decide_eq_false (by omega)
    have e2 : (((as.map (·.arg)).take ((as.map (·.arg)).length - (List.drop ((none.getD #[] : Array Value).toList.length - (as.map (·.arg)).length) (none.getD #[] : Array Value).toList).length)).filter fun n => (((as.map (·.arg)).zip us ++ l).lookup n).isNone) = [] := by
      rw [List.filter_eq_nil_iff]
      intro n hn
      rw [lk n (List.mem_of_mem_take hn)]
      exact Bool.false_ne_true
    rw [e1]
    simp only [Bool.false_and, Bool.false_eq_true, if_false]
    rw [e2]
    have e3 : ∀ m : List Str, m.zip (List.drop ((none.getD #[] : Array Value).toList.length - (as.map (·.arg)).length) (none.getD #[] : Array Value).toList) = [] := fun m => by
      show m.zip (List.drop (0 - (as.map (·.arg)).length) ([] : List Value)) = []
      simp
    simp only [List.isEmpty_nil, Bool.not_true, Bool.false_eq_true, if_false, e3, List.forIn_nil, pure_bind]
    exact congrArg pure fz
  · intro p s hm hn
    have c1 : (as.map (·.arg)).contains p.1 = true := by simpa using hm
    rw [c1, Bool.true_or, if_pos rfl, hn, if_neg (by simp)]
end Pv

set_option Elab.async false
set_option linter.all false
set_option maxRecDepth 100000
set_option maxHeartbeats 4000000
namespace Pv
open PySem PySem.Spec PyProof.Rows L2
/-! ### expressions keep what the evaluator says -/
/-- a def's promise: its call by the evaluator -/
def spC (K : PySem.W.Frag) (call : CallT) (i n : Nat) : Sp := fun vs H Q E => vs.length = n ∧ ∃ c args st σ, RelH K c H st ∧ Reps K c vs args ∧ Run K (fun cls d _ H' => E cls d H') c σ H (call i args st) (fun c' H' v _ => ∀ x, Rep K c' x v → Q x H')
structure FnAt (X : Cx) (lv : Nat) (call : CallT) (i : Nat) (d : Fd) : Prop where
  ex : ∃ a fd, X.mg d.name = some (.ref a) ∧ PySem.W.keepIn X.K (.ref a) = true ∧ FnOk X.prog X.w X.K X.mg X.base (L2.CX X.prog X.w) lv a fd (d.N.take d.ps) (spC X.K call i (d.N.take d.ps).length) ∧
    ∀ (s : Shared) (us vs : List Value) (l : List (Str × Value)), us.length ≤ (d.N.take d.ps).length → (∀ p ∈ l, p.1 ∈ d.N.take d.ps) → (l.map (·.1)).Nodup → (∀ p ∈ l, ((d.N.take d.ps).zip us).lookup p.1 = none) → vs.length = (d.N.take d.ps).length →
      (∀ p ∈ (d.N.take d.ps).zip vs, ((d.N.take d.ps).zip us ++ l).lookup p.1 = some p.2) → BindsTo s fd ⟨us, l⟩ ((d.N.take d.ps).zip vs)
  nd : d.N.Nodup
  le : d.ps ≤ d.N.length
structure CkE (k : Ck) (X : Cx) (W : WX) (c : Cn) (lv : Nat) : Prop where
  N : X.N = k.N
  sc : X.env.scope = k.sc
  fn : X.fn = k.fn
  calm : X.calm = true
  nd : k.N.Nodup
  tk : Takes X W
  room : Room lv X.A
  blt : ∀ x ∈ bnames, X.mg x = none
  G : c.G = k.G
  glo : ∀ (i : Nat) (p : Str × Val), k.G[i]? = some p → ∃ u V, X.mg p.1 = some u ∧ RelV V u ∧ ∀ cf, Rep X.K cf V p.2
  fns : ∀ (i : Nat) (d : Fd), k.T[i]? = some d → FnAt X lv c.call i d
section
variable {k : Ck} {X : Cx} {W : WX} {c : Cn} {lv : Nat}
theorem CkE.hu (C : CkE k X W c lv) : X.A.units + 64 < cLine := C.room.units
theorem CkE.gl (C : CkE k X W c lv) {x : Str} (h : glB k.sc x = true) : Gl X x := by
  have e : k.sc.names.lookup x = some .globalImplicit := of_decide_eq_true h
  rw [← C.sc] at e
  exact e
theorem CkE.vis (C : CkE k X W c lv) {x : Str} (h : visB k.sc x = true) : Vis X.env.scope x := by
  simp only [visB, Bool.or_eq_true, decide_eq_true_eq] at h
  rw [C.sc]
  rcases h with (h | h) | h
  · exact .inl h
  · exact .inr (.inl h)
  · exact .inr (.inr h)
theorem CkE.loc (C : CkE k X W c lv) {x : Str} (h : locB k.sc x = true) : Loc X.env.scope x := by
  simp only [locB, Bool.or_eq_true, decide_eq_true_eq] at h
  rw [C.sc]
  exact h
theorem ok_dbg {x : Str} (h : okName x = true) : (x == ("__debug__" : Str)) = false ∧ (x == ("__classdict__" : Str)) = false ∧ x ≠ "__name__" := by
  simp only [okName, Bool.and_eq_true, Bool.not_eq_true'] at h
  exact ⟨h.1.1, h.1.2, fun e => by rw [e] at h; simp at h⟩
/-- a two-place operation -/
theorem pe_op2 {op : Operator} {f : Val → Val → Sto → R Val} {a b : Expr} {pos : Pos} {A B : Env → Sto → R Val} (ho : OpR X (binaryOp op) (rOp X.K f)) (ha : PE X a (tE X.K W A)) (hb : PE X b (tE X.K W B)) :
    PE X (.BinOp a op b pos) (tE X.K W fun l st => (A l st).bind fun x st => (B l st).bind fun y st => f x y st) := by
  refine (pe_op ho ha hb).imp fun σ H Q ⟨cf, l, st, hH, hS, q⟩ => ?_
  refine ⟨cf, l, st, hH, hS, q.bind.mono fun c1 H1 v st1 e1 h1 q1 x rx => ⟨c1, l, st1, h1, hS.mono e1, q1.bind.mono fun c2 H2 w st2 e2 h2 q2 y ry => ?_⟩⟩
  exact ⟨c2, v, w, st2, σ, W, h2, rx.mono e2, ry, q2⟩
theorem pe_cm2 {op : CmpOp} {f : Val → Val → Sto → R Val} {a b : Expr} {pos : Pos} {A B : Env → Sto → R Val} (ho : OpR X (compareOp op) (rOp X.K f)) (hm : behindInMarks op b = false) (ha : PE X a (tE X.K W A)) (hb : PE X b (tE X.K W B)) :
    PE X (.Compare a [op] [b] pos) (tE X.K W fun l st => (A l st).bind fun x st => (B l st).bind fun y st => f x y st) := by
  refine (pe_cmpR ho ha hb hm).imp fun σ H Q ⟨cf, l, st, hH, hS, q⟩ => ?_
  refine ⟨cf, l, st, hH, hS, q.bind.mono fun c1 H1 v st1 e1 h1 q1 x rx => ⟨c1, l, st1, h1, hS.mono e1, q1.bind.mono fun c2 H2 w st2 e2 h2 q2 y ry => ?_⟩⟩
  exact ⟨c2, v, w, st2, σ, W, h2, rx.mono e2, ry, q2⟩
/-- from a value that is a bool to its test -/
theorem run_bl {K : PySem.W.Frag} {cf : Cf} {σ : L2.St} {H : Hp} {o : Cm} {a b : Val} {st : Sto} {Q : Bool → Hp → Prop} (q : Run K W cf σ H (cmEv o a b st) (fun c' H' v _ => ∃ b, v = .bl b ∧ Q b H')) : Run K W cf σ H (cmEv o a b st) (fun c' H' v _ => ∀ Z, Rep K c' Z v → ∃ b, Z = .bl b ∧ Q b H') := by
  refine q.mono fun c' H' v st' _ _ ⟨b, e, q⟩ Z r => ?_
  subst e
  cases r
  exact ⟨b, rfl, q⟩
theorem pt_cm2 {o : Cm} {a b : Expr} {pos : Pos} {A B : Env → Sto → R Val} (hu : X.A.units + 64 < cLine) (hm : behindInMarks (cmM o) b = false) (ha : PE X a (tE X.K W A)) (hb : PE X b (tE X.K W B)) :
    PT X (.Compare a [cmM o] [b] pos) (tT X.K W fun l st => (A l st).bind fun x st => (B l st).bind fun y st => cmEv o x y st) := by
  refine (pt_cmpR (cmR o hu) ha hb hm).imp fun σ H Q ⟨cf, l, st, hH, hS, q⟩ => ?_
  refine ⟨cf, l, st, hH, hS, q.bind.mono fun c1 H1 v st1 e1 h1 q1 x rx => ⟨c1, l, st1, h1, hS.mono e1, q1.bind.mono fun c2 H2 w st2 e2 h2 q2 y ry => ?_⟩⟩
  exact ⟨c2, v, w, st2, σ, W, h2, rx.mono e2, ry, run_bl q2⟩
def chnEv (o p : Cm) (A B D : Env → Sto → R Val) : Env → Sto → R Val := fun l st => (A l st).bind fun x st => (B l st).bind fun y st => (cmEv o x y st).bind fun r st => match r with
    | .bl true => (D l st).bind fun z st => cmEv p y z st
    | .bl false => .ok (.bl false) st
    | _ => .stuck
theorem lastM {o p : CmpOp} {b d : Expr} (h2 : behindInMarks p d = false) : lastMarks [o, p] [b, d] = false := h2
theorem pe_chn {o p : Cm} {a b d : Expr} {pos : Pos} {A B D : Env → Sto → R Val} (hu : X.A.units + 64 < cLine) (hm : behindInMarks (cmM p) d = false) (ha : PE X a (tE X.K W A)) (hb : PE X b (tE X.K W B)) (hd : PE X d (tE X.K W D)) :
    PE X (.Compare a [cmM o, cmM p] [b, d] pos) (tE X.K W (chnEv o p A B D)) := by
  refine (pe_chain (cmR o hu) (cmR p hu) ha hb hd (lastM hm)).imp fun σ H Q ⟨cf, l, st, hH, hS, q⟩ => ?_
  refine ⟨cf, l, st, hH, hS, q.bind.mono fun c1 H1 v st1 e1 h1 q1 x rx => ⟨c1, l, st1, h1, hS.mono e1, q1.bind.mono fun c2 H2 w st2 e2 h2 q2 y ry => ?_⟩⟩
  refine ⟨c2, v, w, st2, σ, W, h2, rx.mono e2, ry, q2.bind.mono fun c3 H3 r st3 e3 h3 q3 Z rZ => ?_⟩
  split at q3
  · cases rZ
    refine ⟨true, rfl, ?_⟩
    rw [if_pos rfl]
    exact ⟨c3, l, st3, h3, ((hS.mono e1).mono e2).mono e3, q3.bind.mono fun c4 H4 z st4 e4 h4 q4 u ru => ⟨c4, w, z, st4, σ, W, h4, (ry.mono e3).mono e4, ru, q4⟩⟩
  · cases rZ
    refine ⟨false, rfl, ?_⟩
    rw [if_neg Bool.false_ne_true]
    exact q3.here h3 _ (.bl _)
  · exact q3.elim
theorem pt_chn {o p : Cm} {a b d : Expr} {pos : Pos} {A B D : Env → Sto → R Val} (hu : X.A.units + 64 < cLine) (hm : behindInMarks (cmM p) d = false) (ha : PE X a (tE X.K W A)) (hb : PE X b (tE X.K W B)) (hd : PE X d (tE X.K W D)) :
    PT X (.Compare a [cmM o, cmM p] [b, d] pos) (tT X.K W (chnEv o p A B D)) := by
  refine (pt_chain (cmR o hu) (cmR p hu) ha hb hd (lastM hm)).imp fun σ H Q ⟨cf, l, st, hH, hS, q⟩ => ?_
  refine ⟨cf, l, st, hH, hS, q.bind.mono fun c1 H1 v st1 e1 h1 q1 x rx => ⟨c1, l, st1, h1, hS.mono e1, q1.bind.mono fun c2 H2 w st2 e2 h2 q2 y ry => ?_⟩⟩
  refine ⟨c2, v, w, st2, σ, W, h2, rx.mono e2, ry, q2.bind.mono fun c3 H3 r st3 e3 h3 q3 Z rZ => ?_⟩
  split at q3
  · cases rZ
    refine ⟨true, rfl, ?_⟩
    rw [if_pos rfl]
    exact ⟨c3, l, st3, h3, ((hS.mono e1).mono e2).mono e3, q3.bind.mono fun c4 H4 z st4 e4 h4 q4 u ru => ⟨c4, w, z, st4, σ, W, h4, (ry.mono e3).mono e4, ru, run_bl q4⟩⟩
  · cases rZ
    refine ⟨false, rfl, ?_⟩
    rw [if_neg Bool.false_ne_true]
    obtain ⟨b, e, q⟩ := q3.here h3
    exact ⟨b, by cases e; rfl, q⟩
  · exact q3.elim
def andEv (A B : Env → Sto → R Val) : Env → Sto → R Val := fun l st => (A l st).bind fun x st => match x with
    | .bl true => B l st
    | .bl false => .ok (.bl false) st
    | _ => .stuck
def orEv (A B : Env → Sto → R Val) : Env → Sto → R Val := fun l st => (A l st).bind fun x st => match x with
    | .bl true => .ok (.bl true) st
    | .bl false => B l st
    | _ => .stuck
def notEv (A : Env → Sto → R Val) : Env → Sto → R Val := fun l st => (A l st).bind fun x st => match x with
    | .bl b => .ok (.bl (!b)) st
    | _ => .stuck
theorem pe_andG {a b : Expr} {rest : List Expr} {pos : Pos} {A B : Env → Sto → R Val} (ha : PE X a (tE X.K W A)) (hb : PE X (.BoolOp .And (b :: rest) pos) (tE X.K W B)) : PE X (.BoolOp .And (a :: b :: rest) pos) (tE X.K W (andEv A B)) := by
  refine (pe_and ha hb).imp fun σ H Q ⟨cf, l, st, hH, hS, q⟩ => ?_
  refine ⟨cf, l, st, hH, hS, q.bind.mono fun c1 H1 v st1 e1 h1 q1 x rx => ?_⟩
  split at q1
  · cases rx
    refine ⟨true, rfl, ?_⟩
    rw [if_pos rfl]
    exact ⟨c1, l, st1, h1, hS.mono e1, q1⟩
  · cases rx
    refine ⟨false, rfl, ?_⟩
    rw [if_neg Bool.false_ne_true]
    exact q1.here h1 _ (.bl _)
  · exact q1.elim
theorem pe_orG {a b : Expr} {rest : List Expr} {pos : Pos} {A B : Env → Sto → R Val} (ha : PE X a (tE X.K W A)) (hb : PE X (.BoolOp .Or (b :: rest) pos) (tE X.K W B)) : PE X (.BoolOp .Or (a :: b :: rest) pos) (tE X.K W (orEv A B)) := by
  refine (pe_or ha hb).imp fun σ H Q ⟨cf, l, st, hH, hS, q⟩ => ?_
  refine ⟨cf, l, st, hH, hS, q.bind.mono fun c1 H1 v st1 e1 h1 q1 x rx => ?_⟩
  split at q1
  · cases rx
    refine ⟨true, rfl, ?_⟩
    rw [if_pos rfl]
    exact q1.here h1 _ (.bl _)
  · cases rx
    refine ⟨false, rfl, ?_⟩
    rw [if_neg Bool.false_ne_true]
    exact ⟨c1, l, st1, h1, hS.mono e1, q1⟩
  · exact q1.elim
theorem pe_notG {a : Expr} {pos : Pos} {A : Env → Sto → R Val} (ha : PE X a (tE X.K W A)) : PE X (.UnaryOp .Not a pos) (tE X.K W (notEv A)) := by
  refine (pe_not ha).imp fun σ H Q ⟨cf, l, st, hH, hS, q⟩ => ?_
  refine ⟨cf, l, st, hH, hS, q.bind.mono fun c1 H1 v st1 e1 h1 q1 x rx => ?_⟩
  split at q1
  · cases rx
    exact ⟨_, rfl, q1.here h1 _ (.bl _)⟩
  · exact q1.elim
theorem pw_andG {a b : Expr} {rest : List Expr} {pos : Pos} {A B : Env → Sto → R Val} (ha : PT X a (tT X.K W A)) (hb : PW X (.BoolOp .And (b :: rest) pos) (tT X.K W B)) : PW X (.BoolOp .And (a :: b :: rest) pos) (tT X.K W (andEv A B)) := by
  refine ⟨fun whole pins s σ H Q I ⟨cf, l, st, hH, hS, q⟩ => (pw_and ha hb).run whole pins s σ H Q I ?_⟩
  refine ⟨cf, l, st, hH, hS, q.bind.mono fun c1 H1 v st1 e1 h1 q1 => ?_⟩
  split at q1
  · refine ⟨true, rfl, ?_⟩
    refine iteT ?_
    exact ⟨c1, l, st1, h1, hS.mono e1, q1⟩
  · refine ⟨false, rfl, ?_⟩
    refine iteF ?_
    obtain ⟨b, e, q⟩ := q1.here h1
    cases e
    exact q
  · exact q1.elim
theorem pw_orG {a b : Expr} {rest : List Expr} {pos : Pos} {A B : Env → Sto → R Val} (ha : PT X a (tT X.K W A)) (hb : PW X (.BoolOp .Or (b :: rest) pos) (tT X.K W B)) : PW X (.BoolOp .Or (a :: b :: rest) pos) (tT X.K W (orEv A B)) := by
  refine ⟨fun whole pins s σ H Q I ⟨cf, l, st, hH, hS, q⟩ => (pw_or ha hb).run whole pins s σ H Q I ?_⟩
  refine ⟨cf, l, st, hH, hS, q.bind.mono fun c1 H1 v st1 e1 h1 q1 => ?_⟩
  split at q1
  · refine ⟨true, rfl, ?_⟩
    refine iteT ?_
    obtain ⟨b, e, q⟩ := q1.here h1
    cases e
    exact q
  · refine ⟨false, rfl, ?_⟩
    refine iteF ?_
    exact ⟨c1, l, st1, h1, hS.mono e1, q1⟩
  · exact q1.elim
theorem pt_notG {a : Expr} {pos : Pos} {A : Env → Sto → R Val} (ha : PT X a (tT X.K W A)) : PT X (.UnaryOp .Not a pos) (tT X.K W (notEv A)) := by
  refine (pt_not ha).imp fun σ H Q ⟨cf, l, st, hH, hS, q⟩ => ?_
  refine ⟨cf, l, st, hH, hS, q.bind.mono fun c1 H1 v st1 e1 h1 q1 => ?_⟩
  split at q1
  · obtain ⟨b, e, q⟩ := q1.here h1
    cases e
    exact ⟨_, rfl, q⟩
  · exact q1.elim
theorem plain_eq {e : Expr} {env : PySem.Env} (h : plainT e = true) : ∀ whole, isTrue e env whole = (do let v ← whole; standAt e.pos; holding [v] (truthy v)) := by
  intro whole
  cases e with
  | UnaryOp op a p => cases op <;> first | rfl | cases h
  | BoolOp _ _ _ => cases h
  | IfExp _ _ _ _ => cases h
  | Compare _ _ _ _ => cases h
  | _ => rfl
/-- the test of a plain expression -/
theorem pt_plain {e : Expr} {A B : Env → Sto → R Val} (h : PE X e (tE X.K W A)) (hp : plainT e = true) (hx : ∀ l st, B l st = fin true (A l st)) : PT X e (tT X.K W B) := by
  refine (pt_truth h (plain_eq hp)).imp fun σ H Q ⟨cf, l, st, hH, hS, q⟩ => ?_
  rw [hx, fin_true] at q
  refine ⟨cf, l, st, hH, hS, q.bind.mono fun c1 H1 v st1 e1 h1 q1 x rx => ?_⟩
  split at q1
  · rename_i b eb
    obtain ⟨b', e, q⟩ := q1.here h1
    cases e
    exact ⟨b, truth_V h1 rx eb, q⟩
  · exact q1.elim
/-! arguments -/
def tA (K : PySem.W.Frag) (W : WX) (f : Env → Sto → R (List Val)) : TA := fun σ H Q => ∃ c l st, RelH K c H st ∧ RelS K c σ l ∧ Run K W c σ H (f l st) (fun c' H' v _ => ∀ x, Reps K c' x v → Q x H')
theorem _root_.L2.PA.imp {es : List Expr} {t t' : TA} (h : PA X es t) (i : ∀ σ H Q, t' σ H Q → t σ H Q) : PA X es t' := ⟨fun pos pins s σ H Q I q => h.run pos pins s σ H Q I (i σ H Q q)⟩
theorem nst_eq {e : Expr} {es : List Expr} {env : PySem.Env} (h : nst e = true) : starEach (e :: es) env = (false, eval e env) :: starEach es env := by
  cases e <;> first | rfl | cases h
theorem stars_eq {env : PySem.Env} {pos : Pos} : ∀ {es : List Expr}, es.all nst = true → (backTo pos (starEach es env)).any (·.1) = false
  | [], _ => rfl
  | e :: es, h => by
    rw [List.all_cons, Bool.and_eq_true] at h
    rw [nst_eq h.1]
    show (false || (backTo pos (starEach es env)).any (·.1)) = false
    rw [stars_eq h.2]
    rfl
theorem pa_nilG : PA X [] (tA X.K W fun l st => .ok [] st) := pa_nil.imp fun σ H Q ⟨cf, l, st, hH, hS, q⟩ => q.here hH _ .nil
theorem pa_consG {e : Expr} {es : List Expr} {A : Env → Sto → R Val} {B : Env → Sto → R (List Val)} (hn : nst e = true) (ha : PE X e (tE X.K W A)) (hr : PA X es (tA X.K W B)) : PA X (e :: es) (tA X.K W fun l st => (A l st).bind fun x st => (B l st).bind fun xs st => .ok (x :: xs) st) := by
  refine (pa_cons ha hr (nst_eq hn)).imp fun σ H Q ⟨cf, l, st, hH, hS, q⟩ => ?_
  refine ⟨cf, l, st, hH, hS, q.bind.mono fun c1 H1 v st1 e1 h1 q1 x rx => ⟨c1, l, st1, h1, hS.mono e1, q1.bind.mono fun c2 H2 w st2 e2 h2 q2 y ry => ?_⟩⟩
  exact q2.here h2 _ (.cons (rx.mono e2) ry)
theorem pk_nilG : PK X [] (tA X.K W fun l st => .ok [] st) := ⟨fun pos pins s σ H Q I ⟨cf, l, st, hH, hS, q⟩ => pk_nil.run pos pins s σ H Q I (q.here hH _ .nil)⟩
theorem pk_consG {nm : Option Str} {kpos : Pos} {e : Expr} {es : List Keyword} {A : Env → Sto → R Val} {B : Env → Sto → R (List Val)} (ha : PE X e (tE X.K W A)) (hr : PK X es (tA X.K W B)) : PK X (⟨nm, e, kpos⟩ :: es) (tA X.K W fun l st => (A l st).bind fun x st => (B l st).bind fun xs st => .ok (x :: xs) st) := by
  refine ⟨fun pos pins s σ H Q I ⟨cf, l, st, hH, hS, q⟩ => (pk_cons ha hr).run pos pins s σ H Q I ?_⟩
  refine ⟨cf, l, st, hH, hS, q.bind.mono fun c1 H1 v st1 e1 h1 q1 x rx => ⟨c1, l, st1, h1, hS.mono e1, q1.bind.mono fun c2 H2 w st2 e2 h2 q2 y ry => ?_⟩⟩
  exact q2.here h2 _ (.cons (rx.mono e2) ry)
end
end Pv

set_option Elab.async false
set_option linter.all false
set_option maxRecDepth 100000
set_option maxHeartbeats 4000000
namespace Pv
open PySem PySem.Spec PyProof.Rows L2 RZ
/-! ### what is walked -/
def WalkOk (K : PySem.W.Frag) (J : L2.It) (items : List Val) (g : List (Nat × List Val)) (c0 : Cf) (H0 : Hp) : Prop := ∀ c H st, Ext c0 H0 c H → RelH K c H st → guardOk st g →
  (∀ i, items.length ≤ i → J.stop i H) ∧ ∀ i, i < items.length → J.go i H ∧ ∀ x H', J.yld i H x H' → ∃ c' v, Ext c H c' H' ∧ RelH K c' H' st ∧ items[i]? = some v ∧ Rep K c' x v
def tI (K : PySem.W.Frag) (W : WX) (f : Env → Sto → R Its) : TI := fun σ H Q => ∃ c l st, RelH K c H st ∧ RelS K c σ l ∧ Run K W c σ H (f l st) (fun c' H' I _ => ∀ J, WalkOk K J I.1 I.2 c' H' → Q J H')
theorem _root_.L2.PI.imp {X : Cx} {tg e : Expr} {t t' : TI} (h : PI X tg e t) (i : ∀ σ H Q, t' σ H Q → t σ H Q) : PI X tg e t' := ⟨fun pins s σ H Q I q => h.run pins s σ H Q I (i σ H Q q)⟩
section
variable {k : Ck} {X : Cx} {W : WX} {c : Cn} {lv : Nat}
theorem get_some {α : Type} {l : List α} {i : Nat} (h : i < l.length) : ∃ a, l[i]? = some a := ⟨l[i], List.getElem?_eq_getElem h⟩
theorem walk_list {K : PySem.W.Frag} {a : Addr} {items : List Val} {g : List (Nat × List Val)} {c0 : Cf} {H0 : Hp} (h : ∀ c H st, Ext c0 H0 c H → RelH K c H st → guardOk st g → ∃ vs, SqL K H a vs ∧ Reps K c vs items) : WalkOk K (Itl K a) items g c0 H0 := by
  intro c H st e r hg
  obtain ⟨vs, h1, h2⟩ := h c H st e r hg
  have hl := h2.length
  refine ⟨fun i hi => ⟨vs, h1, by omega⟩, fun i hi => ?_⟩
  obtain ⟨d, ed⟩ := get_some hi
  obtain ⟨v, ev, rv⟩ := h2.get ed
  refine ⟨⟨vs, v, h1, ev⟩, fun x H' y => ?_⟩
  obtain ⟨rfl, y⟩ := y
  have z : v = x := Option.some.inj (ev.symm.trans (y vs h1))
  subst z
  exact ⟨c, d, Ext.refl, r, ed, rv⟩
theorem walk_tup {K : PySem.W.Frag} {a : Addr} {items : List Val} {g : List (Nat × List Val)} {c0 : Cf} {H0 : Hp} (h : ∀ c H st, Ext c0 H0 c H → RelH K c H st → guardOk st g → ∃ vs, SqT K H a vs ∧ Reps K c vs items) : WalkOk K (Itt K a) items g c0 H0 := by
  intro c H st e r hg
  obtain ⟨vs, h1, h2⟩ := h c H st e r hg
  have hl := h2.length
  refine ⟨fun i hi => ⟨vs, h1, by omega⟩, fun i hi => ?_⟩
  obtain ⟨d, ed⟩ := get_some hi
  obtain ⟨v, ev, rv⟩ := h2.get ed
  refine ⟨⟨vs, v, h1, ev⟩, fun x H' y => ?_⟩
  obtain ⟨rfl, y⟩ := y
  have z : v = x := Option.some.inj (ev.symm.trans (y vs h1))
  subst z
  exact ⟨c, d, Ext.refl, r, ed, rv⟩
theorem zipV_length : ∀ {l m : List Val}, (zipV l m).length = min l.length m.length
  | [], _ => by simp [zipV]
  | _ :: _, [] => by simp [zipV]
  | _ :: l, _ :: m => by
    show (zipV l m).length + 1 = _
    rw [zipV_length, List.length_cons, List.length_cons]
    omega
theorem zipV_get : ∀ {l m : List Val} {i : Nat} {x y : Val}, l[i]? = some x → m[i]? = some y → (zipV l m)[i]? = some (.tup [x, y])
  | [], _, _, _, _, h, _ => by simp at h
  | _ :: _, [], _, _, _, _, h => by simp at h
  | a :: l, b :: m, 0, x, y, h1, h2 => by
    have e1 : a = x := by simpa using h1
    have e2 : b = y := by simpa using h2
    rw [← e1, ← e2]
    rfl
  | a :: l, b :: m, i + 1, x, y, h1, h2 => by
    show (zipV l m)[i]? = _
    exact zipV_get (by simpa using h1) (by simpa using h2)
theorem walk_zipL {K : PySem.W.Frag} {a b : Addr} {l m : List Val} {g : List (Nat × List Val)} {c0 : Cf} {H0 : Hp} (h : ∀ c H st, Ext c0 H0 c H → RelH K c H st → guardOk st g → ∃ vs ws, SqL K H a vs ∧ SqL K H b ws ∧ Reps K c vs l ∧ Reps K c ws m) : WalkOk K (Itz K a b) (zipV l m) g c0 H0 := by
  intro c H st e r hg
  obtain ⟨vs, ws, h1, h2, h3, h4⟩ := h c H st e r hg
  have hl := h3.length
  have hm := h4.length
  rw [zipV_length]
  refine ⟨fun i hi => ⟨vs, ws, h1, h2, by omega⟩, fun i hi => ?_⟩
  obtain ⟨d, ed⟩ := get_some (l := l) (i := i) (by omega)
  obtain ⟨d', ed'⟩ := get_some (l := m) (i := i) (by omega)
  obtain ⟨v, ev, rv⟩ := h3.get ed
  obtain ⟨w, ew, rw'⟩ := h4.get ed'
  refine ⟨⟨vs, ws, v, w, h1, h2, ev, ew⟩, fun x H' y => ?_⟩
  obtain ⟨T, x1, x2, rfl, nT, rfl, f1, f2⟩ := y
  have z1 : v = x1 := Option.some.inj (ev.symm.trans (f1 vs h1))
  have z2 : w = x2 := Option.some.inj (ew.symm.trans (f2 ws h2))
  subst z1 z2
  obtain ⟨e', r'⟩ := r.new nT (.tup [v, w])
  exact ⟨_, .tup [d, d'], e', r', zipV_get ed ed', .tup (.of (by exact upd_same)) (.cons (rv.mono e') (.cons (rw'.mono e') .nil))⟩
theorem walk_zipT {K : PySem.W.Frag} {a b : Addr} {l m : List Val} {g : List (Nat × List Val)} {c0 : Cf} {H0 : Hp} (h : ∀ c H st, Ext c0 H0 c H → RelH K c H st → guardOk st g → ∃ vs ws, SqT K H a vs ∧ SqT K H b ws ∧ Reps K c vs l ∧ Reps K c ws m) : WalkOk K (ItzT K a b) (zipV l m) g c0 H0 := by
  intro c H st e r hg
  obtain ⟨vs, ws, h1, h2, h3, h4⟩ := h c H st e r hg
  have hl := h3.length
  have hm := h4.length
  rw [zipV_length]
  refine ⟨fun i hi => ⟨vs, ws, h1, h2, by omega⟩, fun i hi => ?_⟩
  obtain ⟨d, ed⟩ := get_some (l := l) (i := i) (by omega)
  obtain ⟨d', ed'⟩ := get_some (l := m) (i := i) (by omega)
  obtain ⟨v, ev, rv⟩ := h3.get ed
  obtain ⟨w, ew, rw'⟩ := h4.get ed'
  refine ⟨⟨vs, ws, v, w, h1, h2, ev, ew⟩, fun x H' y => ?_⟩
  obtain ⟨T, x1, x2, rfl, nT, rfl, f1, f2⟩ := y
  have z1 : v = x1 := Option.some.inj (ev.symm.trans (f1 vs h1))
  have z2 : w = x2 := Option.some.inj (ew.symm.trans (f2 ws h2))
  subst z1 z2
  obtain ⟨e', r'⟩ := r.new nT (.tup [v, w])
  exact ⟨_, .tup [d, d'], e', r', zipV_get ed ed', .tup (.of (by exact upd_same)) (.cons (rv.mono e') (.cons (rw'.mono e') .nil))⟩
theorem rngL_length {lo c : Int} {n : Nat} : (rngL lo c n).length = n := by
  unfold rngL
  rw [List.length_map, List.length_range]
theorem rngL_get {lo c : Int} {n i : Nat} (h : i < n) : (rngL lo c n)[i]? = some (.int (lo + (i : Nat) * c)) := by
  unfold rngL
  rw [List.getElem?_map, List.getElem?_range h]
  rfl
theorem walk_r1 {K : PySem.W.Frag} {lo : Int} {n : Nat} {g : List (Nat × List Val)} {c0 : Cf} {H0 : Hp} : WalkOk K (Itr lo n) (rngL lo 1 n) g c0 H0 := by
  intro c H st e r hg
  rw [rngL_length]
  refine ⟨fun i hi => hi, fun i hi => ⟨hi, fun x H' y => ?_⟩⟩
  obtain ⟨rfl, rfl⟩ := y
  refine ⟨c, _, Ext.refl, r, rngL_get hi, ?_⟩
  rw [Int.mul_one]
  exact .int _
theorem walk_rc {K : PySem.W.Frag} {lo d : Int} {n : Nat} {g : List (Nat × List Val)} {c0 : Cf} {H0 : Hp} : WalkOk K (Itc lo d n) (rngL lo d n) g c0 H0 := by
  intro c H st e r hg
  rw [rngL_length]
  refine ⟨fun i hi => hi, fun i hi => ⟨hi, fun x H' y => ?_⟩⟩
  obtain ⟨rfl, rfl⟩ := y
  exact ⟨c, _, Ext.refl, r, rngL_get hi, .int _⟩
/-- a list or a tuple, walked -/
theorem pi_any {tg l : Expr} {tl : TE} (hl : PE X l tl) : PI X tg l (fun σ H R => tl σ H fun x H1 => ∃ a, x = .ref a ∧ (((∃ xs, SqL X.K H1 a xs) ∧ R (Itl X.K a) H1) ∨ ((∃ xs, SqT X.K H1 a xs) ∧ R (Itt X.K a) H1))) := by
  refine ⟨fun pins s σ H R I h => ?_⟩
  refine thn (hl.run pins s σ H _ I h) fun v s1 ⟨x, H1, I1, r1, q1⟩ => ?_
  obtain ⟨a, e, q1⟩ := q1
  subst e
  cases r1
  rcases q1 with ⟨⟨xs, hq⟩, q⟩ | ⟨⟨xs, hq⟩, q⟩
  · obtain ⟨its, rv, p, hz⟩ := I1.list hq
    refine wpAny_pyIter_list p.isList ?_
    refine ⟨s1.heap.objs.size, [s1.heap.objs.size], _, _, H1, rfl, I1.kept (t' := s1.toks) fun b o e => Heap.get?_push_of_some _ e, turn_list a _, ⟨_, Heap.get?_push_size _ rfl, rfl, rfl⟩, fun b hb => ?_, q⟩
    have e : b = s1.heap.objs.size := by simpa using hb
    subst e
    exact I1.fpOk (Nat.le_refl _) (I1.hok.fresh (Nat.le_refl _))
  · obtain ⟨its, rv, p, hz⟩ := I1.tuple hq
    refine wpAny_pyIter_tuple (show s1.heap.IsTuple a its.toArray from p) ?_
    refine ⟨s1.heap.objs.size, [s1.heap.objs.size], _, _, H1, rfl, I1.kept (t' := s1.toks) fun b o e => Heap.get?_push_of_some _ e, turn_tuple a _, ⟨_, Heap.get?_push_size _ rfl, rfl, rfl⟩, fun b hb => ?_, q⟩
    have e : b = s1.heap.objs.size := by simpa using hb
    subst e
    exact I1.fpOk (Nat.le_refl _) (I1.hok.fresh (Nat.le_refl _))
def seqEv (A : Env → Sto → R Val) : Env → Sto → R Its := fun l st => (A l st).bind fun x st => match sview st x with
    | some xs => .ok (xs, gst st x) st
    | none => .stuck
/-- an own list that is walked is as it was -/
theorem lview_later {K : PySem.W.Frag} {cf : Cf} {H : Hp} {st : Sto} (h : RelH K cf H st) {x : V} {v : Val} {l : List Val} (r : Rep K cf x v) (e : lview st v = some l) : ∃ a, x = .ref a ∧ ∀ c' H' st', Ext cf H c' H' → RelH K c' H' st' → guardOk st' (gst st v) → ∃ vs, H' a = some (.lst vs) ∧ Reps K c' vs l := by
  cases r with
  | lst h1 h2 =>
    cases e
    exact ⟨_, rfl, fun c' H' st' e' r' _ => ⟨_, r'.sub _ _ (e'.F _ _ h1), h2.mono e'⟩⟩
  | @ref a n h1 =>
    have e' : (match st[n]? with | some (.lst l) => some l | _ => none) = some l := e
    split at e'
    · rename_i l' q
      cases e'
      refine ⟨a, rfl, fun c' H' st' e2 r' hg => ?_⟩
      have em : mlist st (.ref n) = some (n, l) := by
        show (match st[n]? with | some (.lst l) => some (n, l) | _ => none) = _
        rw [q]
      have q' : st'[n]? = some (.lst l) := hg (n, l) (by unfold gst; rw [em]; exact List.mem_cons_self)
      obtain ⟨a', vs, q1, q2, q3, q4⟩ := r'.obs n l q'
      have z : a' = a := Option.some.inj (q1.symm.trans (prefix_get e2.φ h1))
      subst z
      exact ⟨vs, q3, q4⟩
    · cases e'
  | _ => cases e
theorem pi_seqG {tg e : Expr} {A : Env → Sto → R Val} (ha : PE X e (tE X.K W A)) : PI X tg e (tI X.K W (seqEv A)) := by
  refine (pi_any ha).imp fun σ H Q ⟨cf, l, st, hH, hS, q⟩ => ?_
  refine ⟨cf, l, st, hH, hS, q.bind.mono fun c1 H1 v st1 e1 h1 q1 x rx => ?_⟩
  split at q1
  · rename_i xs es
    have q1 := q1.here h1
    have lst : ∀ l', lview st1 v = some l' → xs = l' → ∃ a, x = .ref a ∧ (((∃ xs, SqL X.K H1 a xs) ∧ Q (Itl X.K a) H1) ∨ ((∃ xs, SqT X.K H1 a xs) ∧ Q (Itt X.K a) H1)) := fun l' el z => by
      subst z
      obtain ⟨a, rfl, later⟩ := lview_later h1 rx el
      obtain ⟨a', vs, ea, p1, p2⟩ := h1.lview rx el
      cases ea
      exact ⟨a, rfl, .inl ⟨⟨vs, .of p1⟩, q1 _ (walk_list fun c' H' st' e' r' hg => by
        obtain ⟨vs, p1, p2⟩ := later c' H' st' e' r' hg
        exact ⟨vs, .of p1, p2⟩)⟩⟩
    cases rx with
    | @tup a vs _ h2 h3 =>
      cases es
      exact ⟨a, rfl, .inr ⟨⟨vs, SqT.mono h1.sub h2⟩, q1 _ (walk_tup fun c' H' st' e' r' hg => ⟨vs, SqT.mono (e'.F.trans r'.sub) h2, h3.mono e'⟩)⟩⟩
    | @scr a ns h2 =>
      cases es
      exact ⟨a, rfl, .inl ⟨⟨_, Same.seq h1.sub h2⟩, q1 _ (walk_list fun c' H' st' e' r' hg => ⟨_, Same.seq (e'.F.trans r'.sub) h2, Reps.ints _⟩)⟩⟩
    | lst h2 h3 => exact lst _ es rfl
    | ref h2 => exact lst _ es rfl
    | _ => cases es
  · exact q1.elim
noncomputable def zipF (A B : Env → Sto → R Val) : Env → Sto → R Its := fun l st => (A l st).bind fun x st => (B l st).bind fun y st => zipEv x y st
theorem guard_app {st : Sto} {g h : List (Nat × List Val)} (e : guardOk st (g ++ h)) : guardOk st g ∧ guardOk st h := ⟨fun p hp => e p (List.mem_append_left _ hp), fun p hp => e p (List.mem_append_right _ hp)⟩
theorem pi_zipG {p pos tpos : Pos} {elts : List Expr} {kk : Nat} {a b : Expr} {A B : Env → Sto → R Val} (hg : Gl X "zip") (hm : X.mg "zip" = none) (na : nst a = true) (nb : nst b = true) (ha : PE X a (tE X.K W A)) (hb : PE X b (tE X.K W B)) :
    PI X (.Tuple elts kk tpos) (.Call (.Name "zip" p) [a, b] [] pos) (tI X.K W (zipF A B)) := by
  have hpa := pa_consG na ha (pa_consG nb hb (pa_nilG (X := X) (W := W)))
  refine (pi_zipA hg hm hpa (nst_eq na) (stars_eq (by simp [nb]))).imp fun σ H Q ⟨cf, l, st, hH, hS, q⟩ => ?_
  refine ⟨cf, l, st, hH, hS, ?_⟩
  have q' : Run X.K W cf σ H (((A l st).bind fun x st => ((B l st).bind fun x st => (R.ok ([] : List Val) st).bind fun xs st => R.ok (x :: xs) st).bind fun xs st => R.ok (x :: xs) st).bind fun xs st => match xs with
    | [x, y] => zipEv x y st
    | _ => .stuck) (fun c' H' I _ => ∀ J, WalkOk X.K J I.1 I.2 c' H' → Q J H') := by
    have e : ∀ r : R Val, ∀ f : Val → Sto → R Its, (r.bind fun x st => ((B l st).bind fun x st => (R.ok ([] : List Val) st).bind fun xs st => R.ok (x :: xs) st).bind fun xs st => R.ok (x :: xs) st).bind (fun xs st => match xs with
    | [x, y] => zipEv x y st
    | _ => .stuck) = r.bind fun x st => (B l st).bind fun y st => zipEv x y st := fun r f => by
      cases r with
      | ok a st =>
        simp only [R.bind_ok]
        cases B l st <;> rfl
      | exn x st => rfl
      | stuck => rfl
    rw [e _ fun _ _ => .stuck]
    exact q
  refine q'.bind.mono fun c1 H1 vs st1 e1 h1 q1 xs rx => ?_
  split at q1
  · rename_i x y
    obtain ⟨u, w, rfl, ru, rw'⟩ := rx.two
    unfold zipEv at q1
    split at q1
    · rename_i m n
      have q1 := q1.here h1
      cases ru with
      | @tup p vs _ p1 p2 =>
      cases rw' with
      | @tup p' ws _ p3 p4 =>
      exact ⟨p, p', vs, ws, rfl, .inr ⟨SqT.mono h1.sub p1, SqT.mono h1.sub p3, q1 _ (walk_zipT fun c' H' st' e' r' _ => ⟨vs, ws, SqT.mono (e'.F.trans r'.sub) p1, SqT.mono (e'.F.trans r'.sub) p3, p2.mono e', p4.mono e'⟩)⟩⟩
    · split at q1
      · rename_i m n em en
        have q1 := q1.here h1
        obtain ⟨p, rfl, later⟩ := lview_later h1 ru em
        obtain ⟨p', rfl, later'⟩ := lview_later h1 rw' en
        obtain ⟨_, vs, ea, p1, p2⟩ := h1.lview ru em
        cases ea
        obtain ⟨_, ws, ea, p3, p4⟩ := h1.lview rw' en
        cases ea
        refine ⟨p, p', vs, ws, rfl, .inl ⟨.of p1, .of p3, q1 _ (walk_zipL fun c' H' st' e' r' hg => ?_)⟩⟩
        obtain ⟨g1, g2⟩ := guard_app hg
        obtain ⟨vs, p1, p2⟩ := later c' H' st' e' r' g1
        obtain ⟨ws, p3, p4⟩ := later' c' H' st' e' r' g2
        exact ⟨vs, ws, .of p1, .of p3, p2, p4⟩
      · exact q1.elim
  · exact q1.elim
noncomputable def rngF (A : Env → Sto → R (List Val)) : Env → Sto → R Its := fun l st => (A l st).bind fun xs st => rngEv xs st
theorem Reps.three {K : PySem.W.Frag} {c : Cf} {xs : List V} {a b d : Val} (h : Reps K c xs [a, b, d]) : ∃ x y z, xs = [x, y, z] ∧ Rep K c x a ∧ Rep K c y b ∧ Rep K c z d := by
  cases h with
  | cons r t =>
    obtain ⟨y, z, rfl, q1, q2⟩ := Reps.two t
    exact ⟨_, _, _, rfl, r, q1, q2⟩
theorem rng_cases {vs : List Val} {st : Sto} {σ : L2.St} {K : PySem.W.Frag} {cf : Cf} {H : Hp} {Q : Cf → Hp → Its → Sto → Prop} (h : RelH K cf H st) (q : Run K W cf σ H (rngEv vs st) Q) :
    (∃ j, vs = [.int j] ∧ inR j ∧ Q cf H (rngL 0 1 j.toNat, []) st) ∨ (∃ i j, vs = [.int i, .int j] ∧ inR i ∧ inR j ∧ Q cf H (rngL i 1 (j - i).toNat, []) st) ∨ (∃ i j d, vs = [.int i, .int j, .int d] ∧ rngC i j d ∧ Q cf H (rngL i d (Builtin.Range.rangeSize i j d).toNat, []) st) := by
  unfold rngEv at q
  split at q
  · split at q
    · rename_i j hj
      exact .inl ⟨j, rfl, hj, q.here h⟩
    · exact q.elim
  · split at q
    · rename_i i j hj
      exact .inr (.inl ⟨i, j, rfl, hj.1, hj.2, q.here h⟩)
    · exact q.elim
  · split at q
    · rename_i i j d hj
      exact .inr (.inr ⟨i, j, d, rfl, hj, q.here h⟩)
    · exact q.elim
  · exact q.elim
theorem Reps.len0 {K : PySem.W.Frag} {c : Cf} {xs : List V} {l : List Val} (h : Reps K c xs l) (n : Nat) (e : xs.length = n) : l.length = n := by rw [← h.length]; exact e
theorem pi_rngG {tg : Expr} {p pos : Pos} {es : List Expr} {A : Env → Sto → R (List Val)} (hg : Gl X "range") (hm : X.mg "range" = none) (hn : es.all nst = true) (h3 : es.length ≤ 3) (h0 : 0 < es.length) (ha : PA X es (tA X.K W A)) (hlen : ∀ l st vs st', A l st = .ok vs st' → vs.length = es.length) :
    PI X tg (.Call (.Name "range" p) es [] pos) (tI X.K W (rngF A)) := by
  have lenOf : ∀ {cf : Cf} {σ : L2.St} {H : Hp} {l : Env} {st : Sto} {Q : Cf → Hp → List Val → Sto → Prop}, Run X.K W cf σ H (A l st) Q → Run X.K W cf σ H (A l st) (fun c' H' vs st' => vs.length = es.length ∧ Q c' H' vs st') := fun {cf σ H l st Q} q => by
    cases e : A l st with
    | ok vs st' =>
      rw [e] at q
      exact fun c' H' e1 h1 => ⟨hlen _ _ _ _ e, q c' H' e1 h1⟩
    | exn x st' => rw [e] at q; exact q
    | stuck => rw [e] at q; exact q
  match es, hn, h3, h0, ha, hlen, @lenOf with
  | [a], hn, _, _, ha, hlen, lenOf =>
    have hs : starEach [a] X.env = [(false, eval a X.env)] := nst_eq (by simpa using hn)
    refine (pi_range1 hg hm ha hs).imp fun σ H Q ⟨cf, l, st, hH, hS, q⟩ => ?_
    refine ⟨cf, l, st, hH, hS, (lenOf q.bind).mono fun c1 H1 vs st1 e1 h1 q1 xs rx => ?_⟩
    obtain ⟨hl, q1⟩ := q1
    rcases rng_cases h1 q1 with ⟨j, rfl, hj, q1⟩ | ⟨i, j, rfl, _⟩ | ⟨i, j, d, rfl, _⟩
    · obtain ⟨x, rfl, r⟩ := rx.one
      cases r
      exact ⟨j, rfl, hj.1, hj.2, q1 _ walk_r1⟩
    · simp at hl
    · simp at hl
  | [a, b], hn, _, _, ha, hlen, lenOf =>
    have na : nst a = true := by simp at hn; exact hn.1
    have nb : nst b = true := by simp at hn; exact hn.2
    have hs : starEach [a, b] X.env = [(false, eval a X.env), (false, eval b X.env)] := by rw [nst_eq na, nst_eq nb]; rfl
    refine (pi_range2 hg hm ha hs (nst_eq nb)).imp fun σ H Q ⟨cf, l, st, hH, hS, q⟩ => ?_
    refine ⟨cf, l, st, hH, hS, (lenOf q.bind).mono fun c1 H1 vs st1 e1 h1 q1 xs rx => ?_⟩
    obtain ⟨hl, q1⟩ := q1
    rcases rng_cases h1 q1 with ⟨j, rfl, _⟩ | ⟨i, j, rfl, hi, hj, q1⟩ | ⟨i, j, d, rfl, _⟩
    · simp at hl
    · obtain ⟨x, y, rfl, r, r'⟩ := rx.two
      cases r
      cases r'
      exact ⟨i, j, rfl, ⟨hi.1, hi.2, hj.1, hj.2⟩, q1 _ walk_r1⟩
    · simp at hl
  | [a, b, d], hn, _, _, ha, hlen, lenOf =>
    have na : nst a = true := by simp at hn; exact hn.1
    refine (pi_range3 hg hm ha (nst_eq na) (stars_eq (by simp at hn ⊢; exact hn.2))).imp fun σ H Q ⟨cf, l, st, hH, hS, q⟩ => ?_
    refine ⟨cf, l, st, hH, hS, (lenOf q.bind).mono fun c1 H1 vs st1 e1 h1 q1 xs rx => ?_⟩
    obtain ⟨hl, q1⟩ := q1
    rcases rng_cases h1 q1 with ⟨j, rfl, _⟩ | ⟨i, j, rfl, _⟩ | ⟨i, j, d, rfl, hd, q1⟩
    · simp at hl
    · simp at hl
    · obtain ⟨x, y, z, rfl, r, r', r''⟩ := rx.three
      cases r
      cases r'
      cases r''
      exact ⟨i, j, d, _, rfl, ⟨hd.1, hd.2.1, hd.2.2, PyProof.Rows.rangeSize_toNat i j d⟩, q1 _ walk_rc⟩
end
end Pv

set_option Elab.async false
set_option linter.all false
set_option maxRecDepth 100000
set_option maxHeartbeats 4000000
namespace Pv
open PySem PySem.Spec PyProof.Rows L2
section
variable {k : Ck} {X : Cx} {W : WX} {c : Cn} {lv : Nat}
/-! ### targets -/
def setV : List Nat → List V → L2.St → L2.St
  | i :: is, v :: vs, σ => setV is vs (σ.set i (some v))
  | _, _, σ => σ
theorem nameB_ok {i : Nat} {e : Expr} (hN : X.N = k.N) (hsc : X.env.scope = k.sc) (hfn : X.fn = k.fn) (nd : k.N.Nodup) (h : nameB k i e = true) : PG X e (gName i) ∧ nst e = true ∧ ∃ x p, e = .Name x p := by
  cases e with
  | Name x p =>
    simp only [nameB, Bool.and_eq_true, Bool.or_eq_true, decide_eq_true_eq] at h
    obtain ⟨⟨h1, h2⟩, h3⟩ := h
    refine ⟨pg_name (by rw [hN]; exact nd) (by rw [hN]; exact h1) ?_ ?_, rfl, x, p, rfl⟩
    · simp only [locB, Bool.or_eq_true, decide_eq_true_eq] at h2
      rw [hsc]
      exact h2
    · rw [hfn, hsc]
      exact h3
  | _ => cases h
theorem namesB_ok (hN : X.N = k.N) (hsc : X.env.scope = k.sc) (hfn : X.fn = k.fn) (nd : k.N.Nodup) : ∀ {is : List Nat} {es : List Expr}, namesB k is es = true →
    PGs X es (fun vs σ H Q => vs.length = is.length ∧ Q (setV is vs σ) H) ∧ (assignEach es X.env).length = is.length ∧ (assignEach es X.env).findIdx? (·.1) = none
  | [], [], _ => ⟨⟨fun pins s σ H vs us Q I r ⟨h1, h2⟩ => pgs_nil.run pins s σ H vs us Q I r (by
      have e : vs = [] := by simpa using h1
      subst e
      exact ⟨rfl, h2⟩)⟩, rfl, rfl⟩
  | [], _ :: _, h => by cases h
  | _ :: _, [], h => by cases h
  | i :: is, e :: es, h => by
    simp only [namesB, Bool.and_eq_true] at h
    obtain ⟨h1, h2⟩ := h
    obtain ⟨p1, p2, x, p, rfl⟩ := nameB_ok hN hsc hfn nd h1
    obtain ⟨q1, q2, q3⟩ := namesB_ok hN hsc hfn nd h2
    refine ⟨⟨fun pins s σ H vs us Q I r ⟨h1, h2⟩ => (pgs_cons p1 q1 rfl).run pins s σ H vs us Q I r ?_⟩, ?_, ?_⟩
    · cases vs with
      | nil => simp at h1
      | cons v vs => exact ⟨v, vs, rfl, by simpa using h1, h2⟩
    · show (assignEach es X.env).length + 1 = _
      rw [q2]
      rfl
    · show List.findIdx? (·.1) ((false, assign (.Name x p) X.env) :: assignEach es X.env) = none
      rw [List.findIdx?_cons]
      simp [q3]
theorem setV_ok {K : PySem.W.Frag} {cf : Cf} : ∀ {is : List Nat} {xs : List V} {vs : List Val} {σ : L2.St} {l : Env}, Reps K cf xs vs → RelS K cf σ l → RelS K cf (setV is xs σ) (setAll is vs l)
  | [], _, _, _, _, _, h => by simpa [setV, setAll] using h
  | i :: is, _, _, σ, l, .nil, h => by simpa [setV, setAll] using h
  | i :: is, _, _, σ, l, .cons r t, h => setV_ok (is := is) t (h.set r)
/-- a target: what is set -/
def gTg (K : PySem.W.Frag) (tg : Tg) : TG := match tg with
  | .nm i => gName i
  | .tp is => fun v σ H Q => ∃ a xs, v = .ref a ∧ SqT K H a xs ∧ xs.length = is.length ∧ Q (setV is xs σ) H
theorem mTg_ok {tg : Tg} {e : Expr} (hN : X.N = k.N) (hsc : X.env.scope = k.sc) (hfn : X.fn = k.fn) (hc : X.calm = true) (nd : k.N.Nodup) (h : mTg k tg e = true) : PG X e (gTg X.K tg) := by
  cases tg with
  | nm i => exact (nameB_ok hN hsc hfn nd h).1
  | tp is =>
    cases e with
    | Tuple es kk p =>
      obtain ⟨q1, q2, q3⟩ := namesB_ok hN hsc hfn nd (show namesB k is es = true from h)
      refine ⟨fun pins s σ H v u Q I r hw => (pg_tup hc q1 q2 q3).run pins s σ H v u Q I r ?_⟩
      obtain ⟨a, xs, e1, e2, e3, q⟩ := hw
      exact ⟨a, xs, e1, e2, e3, e3, q⟩
    | _ => cases h
/-- what the target sets is what the evaluator sets -/
theorem gTg_ok {K : PySem.W.Frag} {tg : Tg} {cf : Cf} {H : Hp} {st : Sto} {σ : L2.St} {l l1 : Env} {x : V} {v : Val} {Q : L2.St → Hp → Prop} (hH : RelH K cf H st) (hS : RelS K cf σ l) (r : Rep K cf x v) (e : tgSet tg v l = some l1)
    (q : ∀ σ', RelS K cf σ' l1 → (∀ vs, (∀ i ∈ tg.slots, i ∈ vs) → L2.wipe σ' vs = L2.wipe σ vs) → Q σ' H) : gTg K tg x σ H Q := by
  have w1 : ∀ (σ : L2.St) (i : Nat) (y : Option V) (vs : List Nat), i ∈ vs → L2.wipe (σ.set i y) vs = L2.wipe σ vs := by
    intro σ i y vs
    induction vs with
    | nil => intro m; cases m
    | cons u vs ih =>
      intro m
      show (L2.wipe (σ.set i y) vs).set u none = (L2.wipe σ vs).set u none
      by_cases hm : i ∈ vs
      · rw [ih hm]
      · have e : i = u := by
          rcases List.mem_cons.mp m with m | m
          · exact m
          · exact absurd m hm
        subst e
        have comm : ∀ vs : List Nat, i ∉ vs → L2.wipe (σ.set i y) vs = (L2.wipe σ vs).set i y := by
          intro vs
          induction vs with
          | nil => intro _; rfl
          | cons a r ih2 =>
            intro hn
            show (L2.wipe (σ.set i y) r).set a none = ((L2.wipe σ r).set a none).set i y
            rw [ih2 fun z => hn (List.mem_cons_of_mem _ z), List.set_comm _ _ (fun z : i = a => hn (by rw [z]; exact List.mem_cons_self))]
        rw [comm vs hm, List.set_set]
  cases tg with
  | nm i =>
    cases e
    exact q _ (hS.set r) fun vs hv => w1 σ i _ vs (hv i (List.mem_singleton.mpr rfl))
  | tp is =>
    cases r with
    | @tup a vs l' h1 h2 =>
      have e' : (if is.length = l'.length then some (setAll is l' l) else none) = some l1 := e
      split at e'
      · rename_i hl
        cases e'
        refine ⟨a, vs, rfl, SqT.mono hH.sub h1, by rw [h2.length, hl], q _ (setV_ok h2 hS) fun ws hw => ?_⟩
        have go : ∀ (js : List Nat) (us : List V) (σ : L2.St), (∀ i ∈ js, i ∈ ws) → L2.wipe (setV js us σ) ws = L2.wipe σ ws := by
          intro js
          induction js with
          | nil => intro us σ _; cases us <;> rfl
          | cons j js ih =>
            intro us σ hj
            cases us with
            | nil => rfl
            | cons u us =>
              show L2.wipe (setV js us (σ.set j (some u))) ws = _
              rw [ih us _ fun i hi => hj i (List.mem_cons_of_mem _ hi), w1 σ j _ ws (hj j List.mem_cons_self)]
        exact go is vs σ hw
      · cases e'
    | _ => cases e
theorem wipe_wipe (σ : L2.St) : ∀ vs : List Nat, L2.wipe (L2.wipe σ vs) vs = L2.wipe σ vs := by
  intro vs
  apply List.ext_getElem?
  intro j
  have key : ∀ (vs : List Nat) (σ : L2.St), (L2.wipe σ vs)[j]? = if j ∈ vs ∧ j < σ.length then some none else σ[j]? := by
    intro vs
    induction vs with
    | nil => intro σ; simp [L2.wipe]
    | cons u vs ih =>
      intro σ
      show ((L2.wipe σ vs).set u none)[j]? = _
      rw [List.getElem?_set, wipe_length, ih]
      by_cases hu : u = j
      · subst hu
        by_cases hl : u < σ.length
        · simp [hl]
        · simp [hl]
      · have hu' : ¬ j = u := fun z => hu z.symm
        simp [hu, hu']
  rw [key, key, wipe_length]
  by_cases h : j ∈ vs ∧ j < σ.length
  · rw [if_pos h, if_pos h]
  · rw [if_neg h]
/-! ### a comprehension -/
abbrev W0 : WX := fun _ _ _ _ => False
theorem RelH.side {K : PySem.W.Frag} {cf : Cf} {H : Hp} {st : Sto} (h : RelH K cf H st) {D : Addr} {o : HO} (nF : cf.F D = none) (nφ : D ∉ cf.φ) : RelH K cf (upd H D o) st := by
  refine ⟨fun a u q => ?_, h.len, h.nd, fun a m => ?_, fun n l q => ?_⟩
  · have na : a ≠ D := fun z => by rw [z, nF] at q; cases q
    rw [upd_ne na]
    exact h.sub a u q
  · have na : a ≠ D := fun z => nφ (z ▸ m)
    obtain ⟨u, q⟩ := h.all a m
    exact ⟨u, by rw [upd_ne na]; exact q⟩
  · obtain ⟨a, vs, q1, q2, q3, q4⟩ := h.obs n l q
    have na : a ≠ D := fun z => nφ (z ▸ List.mem_of_getElem? q1)
    exact ⟨a, vs, q1, q2, by rw [upd_ne na]; exact q3, q4⟩
theorem Ext.side {cf c' : Cf} {H H' : Hp} (e : Ext cf H c' H') {D : Addr} {o : HO} (n : H D = none) : Ext cf H c' (upd H' D o) := ⟨e.F, e.φ, fun a u q na => by
  obtain ⟨h1, h2⟩ := e.fr a u q na
  exact ⟨by rw [upd_ne (ne_of_none q n)]; exact h1, h2⟩, e.nf⟩
noncomputable def lcEv (I : Env → Sto → R Its) (B : Env → Val → Sto → R (Option Val)) (m : Bool) : Env → Sto → R Val := fun l st => (I l st).bind fun J st => (lcL (B l) J.2 J.1 [] st).bind fun xs st => newL m xs st
/-- the body of a comprehension, for a target, tests and an element -/
def lcB (tg : Tg) (F : Env → Sto → R Bool) (A : Env → Sto → R Val) : Env → Val → Sto → R (Option Val) := fun l v st => match tgSet tg v (wipeE l tg.slots) with
        | none => .stuck
        | some l1 => (F l1 st).bind fun b st => match b with
          | true => (A l1 st).bind fun x st => .ok (some x) st
          | false => .ok none st
def tF (K : PySem.W.Frag) (f : Env → Sto → R Bool) : TT := fun σ H Q => ∃ c l st, RelH K c H st ∧ RelS K c σ l ∧ Run K W0 c σ H (f l st) (fun c' H' v _ => Q v H')
theorem run_w0 {α : Type} {K : PySem.W.Frag} {W : WX} {cf : Cf} {σ σ' : L2.St} {H : Hp} {a : α} {st : Sto} {Q : Cf → Hp → α → Sto → Prop} (q : Run K W cf σ H (R.ok a st) Q) : Run K W0 cf σ' H (R.ok a st) Q := q
theorem pe_lcG {elt tgE iter : Expr} {ifs : List Expr} {scope : Scope} {pos : Pos} {tg : Tg} {I : Env → Sto → R Its} {F : Env → Sto → R Bool} {A : Env → Sto → R Val} {m : Bool} (hc : X.calm = true) (hN : X.N.Nodup) (hi : PI X tgE iter (tI X.K W I)) (ok : BlkOk X.N X.env.scope scope (ownOf X.N tg.slots))
    (hg : ∀ (s : Shared) (H : Hp) (C : Addr) (cl : List (Str × Addr)) (fp : List Addr), PG (X.blk s H scope (compEnvC scope cl C X.env) fp) tgE (gTg X.K tg)) (ht : ∀ (s : Shared) (H : Hp) (C : Addr) (cl : List (Str × Addr)) (fp : List Addr), PTs (X.blk s H scope (compEnvC scope cl C X.env) fp) ifs (tF X.K F))
    (he : ∀ (s : Shared) (H : Hp) (C : Addr) (cl : List (Str × Addr)) (fp : List Addr), PE (X.blk s H scope (compEnvC scope cl C X.env) fp) elt (tE X.K W0 A)) (hs : notSet iter = true)
    (J : TE → Prop) (fin : ∀ t, J t → ∀ (t' : TE), (∀ σ H Q, t' σ H Q → t σ H Q) → J t') (start : J (tLc (tI X.K W I) (gTg X.K tg) (tF X.K F) (tE X.K W0 A) ((ownOf X.N tg.slots).map (·.2)))) :
    J (tE X.K W (lcEv I (lcB tg F A) m)) := by
  refine fin _ start _ fun σ H Q ⟨cf, l, st, hH, hS, q⟩ => ?_
  refine ⟨cf, l, st, hH, hS, q.bind.mono fun c1 H1 P st1 e1 h1 q1 It hW => ?_⟩
  intro D hD
  have own : (ownOf X.N tg.slots).map (·.2) = tg.slots := by
    unfold ownOf
    rw [List.map_map]
    show tg.slots.map id = _
    exact List.map_id _
  rw [own]
  obtain ⟨nF1, nφ1⟩ := h1.fresh hD
  -- the invariant
  refine ⟨fun i mm H' => mm = P.1.length - i ∧ i ≤ P.1.length ∧ ∃ c2 st2 acc vs, Ext c1 H1 c2 H' ∧ RelH X.K c2 H' st2 ∧ c2.F D = none ∧ D ∉ c2.φ ∧ H' D = some (.lst vs) ∧ Reps X.K c2 vs acc ∧
      Run X.K W c1 σ H1 ((lcL (lcB tg F A l) P.2 (P.1.drop i) acc st2).bind fun xs st => newL m xs st) (fun c' H' v _ => ∀ x, Rep X.K c' x v → Q x H'), ⟨P.1.length, by simp, Nat.zero_le _, c1, st1, [], [], Ext.refl.side hD, h1.side nF1 nφ1, nF1, nφ1, upd_same, .nil, by rw [List.drop_zero]; exact q1⟩, ?_⟩
  rintro i mm H2 ⟨rfl, hi, c2, st2, acc, vs, e2, h2, nF2, nφ2, hD2, rv, q2⟩
  by_cases hlt : i < P.1.length
  · obtain ⟨v, ev⟩ := get_some hlt
    have ed : P.1.drop i = v :: P.1.drop (i + 1) := by
      rw [List.drop_eq_getElem_cons hlt]
      rw [List.getElem?_eq_getElem hlt] at ev
      rw [Option.some.inj ev]
    rw [ed] at q2
    by_cases hgd : guardOk st2 P.2
    · rw [lcL, if_pos hgd] at q2
      obtain ⟨_, wk⟩ := hW c2 H2 st2 e2 h2 hgd
      obtain ⟨go, yl⟩ := wk i hlt
      refine .inr ⟨go, fun H' => ∃ c2 st2 acc vs, Ext c1 H1 c2 H' ∧ RelH X.K c2 H' st2 ∧ c2.F D = none ∧ D ∉ c2.φ ∧ H' D = some (.lst vs) ∧ Reps X.K c2 vs acc ∧
        Run X.K W c1 σ H1 ((lcL (lcB tg F A l) P.2 (P.1.drop (i + 1)) acc st2).bind fun xs st => newL m xs st) (fun c' H' v _ => ∀ x, Rep X.K c' x v → Q x H'), fun H' hx => ⟨P.1.length - (i + 1), by omega, rfl, hlt, hx⟩, fun x H3 hy => ?_⟩
      obtain ⟨c3, v', e3, h3, ev', r3⟩ := yl x H3 hy
      have z : v' = v := Option.some.inj (ev'.symm.trans ev)
      subst z
      obtain ⟨hD3, nφ3⟩ := e3.fr D _ hD2 nφ2
      have nF3 := e3.nf D _ hD2 nφ2 nF2
      -- the target
      have hS3 : RelS X.K c3 (L2.wipe σ tg.slots) (wipeE l tg.slots) := (((hS.mono e1).mono e2).mono e3).wipe _
      have eB : lcB tg F A l v' st2 = match tgSet tg v' (wipeE l tg.slots) with
        | none => .stuck
        | some l1 => (F l1 st2).bind fun b st => match b with
          | true => (A l1 st).bind fun x st => .ok (some x) st
          | false => .ok none st := rfl
      cases et : tgSet tg v' (wipeE l tg.slots) with
      | none =>
        rw [eB, et] at q2
        exact q2.elim
      | some l1 =>
        refine gTg_ok h3 hS3 r3 et fun σ' hS' hw => ⟨by rw [hw tg.slots fun i hi => hi, wipe_wipe], ?_⟩
        -- tests
        cases eF : F l1 st2 with
        | stuck => rw [eB, et] at q2; simp only [eF, R.bind_stuck] at q2; exact q2.elim
        | exn x' st' => rw [eB, et] at q2; simp only [eF, R.bind_exn, R.bind_stuck] at q2; exact q2.elim
        | ok b st4 =>
          refine ⟨c3, l1, st2, h3, hS', ?_⟩
          rw [eF]
          intro c4 H4 e4 h4
          obtain ⟨hD4, nφ4⟩ := e4.fr D _ hD3 nφ3
          have nF4 := e4.nf D _ hD3 nφ3 nF3
          cases b with
          | false =>
            refine iteF ?_
            rw [eB, et] at q2
            simp only [eF, R.bind_ok] at q2
            exact ⟨c4, st4, acc, vs, (e2.trans e3).trans e4, h4, nF4, nφ4, hD4, (rv.mono e3).mono e4, q2⟩
          | true =>
            refine iteT ?_
            cases eA : A l1 st4 with
            | stuck => rw [eB, et] at q2; simp only [eF, R.bind_ok, eA, R.bind_stuck] at q2; exact q2.elim
            | exn x' st' => rw [eB, et] at q2; simp only [eF, R.bind_ok, eA, R.bind_exn, R.bind_stuck] at q2; exact q2.elim
            | ok y st5 =>
              rw [eB, et] at q2
              simp only [eF, R.bind_ok, eA] at q2
              refine ⟨c4, l1, st4, h4, hS'.mono e4, ?_⟩
              rw [eA]
              intro c5 H5 e5 h5 y' ry
              obtain ⟨hD5, nφ5⟩ := e5.fr D _ hD4 nφ4
              have nF5 := e5.nf D _ hD4 nφ4 nF4
              have rv5 := ((rv.mono e3).mono e4).mono e5
              by_cases hz : acc.length < sizeLine
              · rw [if_pos hz] at q2
                refine ⟨vs, hD5, by rw [rv5.length]; exact hz, c5, st5, acc ++ [y], vs ++ [y'], (((e2.trans e3).trans e4).trans e5).side hD, h5.side nF5 nφ5, nF5, nφ5, upd_same, rv5.snoc ry, q2⟩
              · rw [if_neg hz] at q2
                exact q2.elim
    · rw [lcL, if_neg hgd] at q2
      exact q2.elim
  · have e : i = P.1.length := by omega
    subst e
    rw [List.drop_length] at q2
    by_cases hgd : guardOk st2 P.2
    · rw [lcL, if_pos hgd, R.bind_ok] at q2
      obtain ⟨stop, _⟩ := hW c2 H2 st2 e2 h2 hgd
      refine .inl ⟨stop _ (Nat.le_refl _), ?_⟩
      cases m with
      | false =>
        have e3 : Ext c1 H1 ⟨upd c2.F D (.lst vs), c2.φ⟩ H2 := ⟨e2.F.trans (same_up nF2), e2.φ, e2.fr, fun a u z na zF => by
          show upd c2.F D (.lst vs) a = none
          rw [upd_ne (ne_of_none z hD)]
          exact e2.nf a u z na zF⟩
        refine q2 _ _ e3 ⟨fun a u z => ?_, h2.len, h2.nd, h2.all, fun n l' z => ?_⟩ _ (.lst (by exact upd_same) (Reps.mono' (c := c2) (c' := ⟨upd c2.F D (.lst vs), c2.φ⟩) (same_up nF2) (List.prefix_refl _) rv))
        · have z : upd c2.F D (.lst vs) a = some u := z
          by_cases ha : a = D
          · subst ha
            rw [upd_same] at z
            cases z
            exact hD2
          · rw [upd_ne ha] at z
            exact h2.sub a u z
        · obtain ⟨a, us, z1, z2, z3, z4⟩ := h2.obs n l' z
          have na : a ≠ D := fun y => nφ2 (y ▸ List.mem_of_getElem? z1)
          exact ⟨a, us, z1, by show upd c2.F D (.lst vs) a = none; rw [upd_ne na]; exact z2, z3, Reps.mono' (c := c2) (c' := ⟨upd c2.F D (.lst vs), c2.φ⟩) (same_up nF2) (List.prefix_refl _) z4⟩
      | true =>
        -- the new list is of the store: as if it had been laid now
        have pre : c2.φ <+: (⟨c2.F, c2.φ ++ [D]⟩ : Cf).φ := List.prefix_append _ _
        have ef : Reps X.K ⟨c2.F, c2.φ ++ [D]⟩ vs acc := Reps.mono' (c := c2) (c' := ⟨c2.F, c2.φ ++ [D]⟩) (Same.refl _) pre rv
        have er : RelH X.K ⟨c2.F, c2.φ ++ [D]⟩ H2 (st2 ++ [.lst acc]) := by
          refine ⟨h2.sub, by show (c2.φ ++ [D]).length = _; rw [List.length_append, List.length_append, h2.len]; rfl, ?_, fun a mm => ?_, fun n w z => ?_⟩
          · show (c2.φ ++ [D]).Nodup
            rw [List.nodup_append]
            exact ⟨h2.nd, by simp, fun a ha b hb z => by
              have e : b = D := by simpa using hb
              rw [z, e] at ha
              exact nφ2 ha⟩
          · rcases List.mem_append.mp mm with mm | mm
            · exact h2.all a mm
            · have z : a = D := by simpa using mm
              exact ⟨_, by rw [z]; exact hD2⟩
          · by_cases hk : n < st2.length
            · rw [List.getElem?_append_left hk] at z
              obtain ⟨a, us, z1, z2, z3, z4⟩ := h2.obs n w z
              exact ⟨a, us, prefix_get pre z1, z2, z3, Reps.mono' (c := c2) (c' := ⟨c2.F, c2.φ ++ [D]⟩) (Same.refl _) pre z4⟩
            · rw [List.getElem?_append_right (by omega)] at z
              have e0 : n - st2.length = 0 := by
                have := (List.getElem?_eq_some_iff.mp z).1
                simp at this
                omega
              rw [e0] at z
              have e1 : acc = w := by
                simp at z
                exact z
              subst e1
              have ek : n = c2.φ.length := by rw [h2.len]; omega
              exact ⟨D, vs, by show (c2.φ ++ [D])[n]? = some D; rw [ek]; simp, nF2, hD2, ef⟩
        have e3 : Ext c1 H1 ⟨c2.F, c2.φ ++ [D]⟩ H2 := ⟨e2.F, e2.φ.trans (List.prefix_append _ _), fun a u z na => by
          obtain ⟨z1, z2⟩ := e2.fr a u z na
          refine ⟨z1, fun mm => ?_⟩
          rcases List.mem_append.mp mm with mm | mm
          · exact z2 mm
          · have y : a = D := by simpa using mm
            rw [y, hD] at z
            exact absurd z (by simp), e2.nf⟩
        exact q2 _ _ e3 er _ (.ref (by show (c2.φ ++ [D])[st2.length]? = some D; rw [← h2.len]; simp))
    · rw [lcL, if_neg hgd] at q2
      exact q2.elim
end
end Pv

set_option Elab.async false
set_option linter.all false
set_option maxRecDepth 100000
set_option maxHeartbeats 4000000
namespace Pv
open PySem PySem.Spec PyProof.Rows L2 RZ
section
variable {k : Ck} {X : Cx} {W : WX} {c : Cn} {lv : Nat}
/-! ### slices, built-ins, methods, calls -/
def tOI (K : PySem.W.Frag) (W : WX) (f : Env → Sto → R (Option Int)) : TO := fun σ H Q => ∃ c l st, RelH K c H st ∧ RelS K c σ l ∧ Run K W c σ H (f l st) (fun c' H' v _ => Q v H')
theorem _root_.L2.PO.imp {e : Option Expr} {t t' : TO} (h : PO X e t) (i : ∀ σ H Q, t' σ H Q → t σ H Q) : PO X e t' := ⟨fun pins s σ H Q I q => h.run pins s σ H Q I (i σ H Q q)⟩
theorem po_noneG : PO X none (tOI X.K W fun l st => .ok none st) := po_none.imp fun σ H Q ⟨cf, l, st, hH, hS, q⟩ => q.here hH
theorem po_someG {e : Expr} {A : Env → Sto → R Val} (h : PE X e (tE X.K W A)) : PO X (some e) (tOI X.K W fun l st => (A l st).bind fun x st => match x with
    | .int i => .ok (some i) st
    | _ => .stuck) := by
  refine (po_some h).imp fun σ H Q ⟨cf, l, st, hH, hS, q⟩ => ?_
  refine ⟨cf, l, st, hH, hS, q.bind.mono fun c1 H1 v st1 e1 h1 q1 x rx => ?_⟩
  split at q1
  · cases rx
    exact ⟨_, rfl, q1.here h1⟩
  · exact q1.elim
theorem pe_slcG {a : Expr} {lo hi : Option Expr} {p2 pos : Pos} {m : Bool} {A : Env → Sto → R Val} {L U : Env → Sto → R (Option Int)} (ha : PE X a (tE X.K W A)) (hl : PO X lo (tOI X.K W L)) (hu : PO X hi (tOI X.K W U)) :
    PE X (.Subscript a (.Slice lo hi none p2) pos) (tE X.K W fun l st => (A l st).bind fun x st => (L l st).bind fun u st => (U l st).bind fun w st => slcEv m x u w st) := by
  refine (pe_slice (slcR m) ha hl hu).imp fun σ H Q ⟨cf, l, st, hH, hS, q⟩ => ?_
  refine ⟨cf, l, st, hH, hS, q.bind.mono fun c1 H1 v st1 e1 h1 q1 x rx => ⟨c1, l, st1, h1, hS.mono e1, q1.bind.mono fun c2 H2 lo st2 e2 h2 q2 => ⟨c2, l, st2, h2, (hS.mono e1).mono e2, q2.bind.mono fun c3 H3 hi st3 e3 h3 q3 => ?_⟩⟩⟩
  exact ⟨c3, v, st3, σ, W, h3, (rx.mono e2).mono e3, q3⟩
theorem pe_idxG {a b : Expr} {pos : Pos} {A B : Env → Sto → R Val} (hn : notSl b = true) (ha : PE X a (tE X.K W A)) (hb : PE X b (tE X.K W B)) :
    PE X (.Subscript a b pos) (tE X.K W fun l st => (A l st).bind fun x st => (B l st).bind fun y st => idxEv x y st) := by
  have hp : PlainIx b := fun o i => by cases b <;> first | rfl | cases hn
  refine (pe_ix idxR ha hb hp).imp fun σ H Q ⟨cf, l, st, hH, hS, q⟩ => ?_
  refine ⟨cf, l, st, hH, hS, q.bind.mono fun c1 H1 v st1 e1 h1 q1 x rx => ⟨c1, l, st1, h1, hS.mono e1, q1.bind.mono fun c2 H2 w st2 e2 h2 q2 y ry => ?_⟩⟩
  exact ⟨c2, v, w, st2, σ, W, h2, rx.mono e2, ry, q2⟩
/-- what is known of the arguments' number -/
def LenIs (A : Env → Sto → R (List Val)) (n : Nat) : Prop := ∀ l st vs st', A l st = .ok vs st' → vs.length = n
theorem pe_bfG {f : List Val → Sto → R Val} {v : Value} {x : Str} {e : Expr} {es : List Expr} {p pos : Pos} {A : Env → Sto → R (List Val)} (hf : CallR X v (rBf X.K f)) (hv : (∃ id, v = .builtin id) ∨ ∃ T, v = .type T) (hb : bootBuiltins x = some v) (hg : Gl X x) (hm : X.mg x = none) (hn : (e :: es).all nst = true)
    (hok : okName x = true) (ha : PA X (e :: es) (tA X.K W A)) : PE X (.Call (.Name x p) (e :: es) [] pos) (tE X.K W fun l st => (A l st).bind fun xs st => f xs st) := by
  rw [List.all_cons, Bool.and_eq_true] at hn
  obtain ⟨d1, d2, d3⟩ := ok_dbg hok
  have go : PE X (.Call (.Name x p) (e :: es) [] pos) (tCB (rBf X.K f) (tA X.K W A)) := by
    rcases hv with ⟨id, rfl⟩ | ⟨T, rfl⟩
    · exact pe_callB hf hg hm hb ha d3 d1 (nst_eq hn.1) (stars_eq hn.2)
    · exact pe_callTy hf hg hm hb ha d3 d1 (nst_eq hn.1) (stars_eq hn.2)
  refine go.imp fun σ H Q ⟨cf, l, st, hH, hS, q⟩ => ?_
  refine ⟨cf, l, st, hH, hS, q.bind.mono fun c1 H1 vs st1 e1 h1 q1 xs rx => ?_⟩
  exact ⟨c1, vs, st1, σ, W, h1, rx, q1⟩
theorem pe_isiG {a : Expr} {kc : Cl} {p p' pos : Pos} {A : Env → Sto → R Val} (hg : Gl X "isinstance") (hm : X.mg "isinstance" = none) (hg' : Gl X (clM kc)) (hm' : X.mg (clM kc) = none) (hn : nst a = true) (ha : PE X a (tE X.K W A)) :
    PE X (.Call (.Name "isinstance" p) [a, .Name (clM kc) p'] [] pos) (tE X.K W fun l st => (A l st).bind fun x st => match isiEv st kc x with
    | some b => .ok (.bl b) st
    | none => .stuck) := by
  have hc : PE X (.Name (clM kc) p') (tC (.ty (clT kc))) := pe_bltn hg' hm' (v := .ty (clT kc)) (u := .type (clT kc)) (by cases kc <;> decide +kernel) rfl (by cases kc <;> decide +kernel) (by cases kc <;> decide +kernel)
  refine (pe_callB call_isi hg hm (by decide +kernel) (pa_cons ha (pa_cons hc pa_nil rfl) (nst_eq hn)) (by decide) (by decide) (nst_eq hn) rfl).imp fun σ H Q ⟨cf, l, st, hH, hS, q⟩ => ?_
  refine ⟨cf, l, st, hH, hS, q.bind.mono fun c1 H1 v st1 e1 h1 q1 x rx => ?_⟩
  split at q1
  · rename_i b eb
    obtain ⟨t, ty, ek⟩ := isi_V h1 rx eb
    exact ⟨x, .ty (clT kc), t, .type (clT kc), b, rfl, .ty _, ty, ek, q1.here h1 _ (.bl _)⟩
  · exact q1.elim
theorem base_eq {o : Expr} {name : Str} {env : PySem.Env} {w : Sem Value} (h : noSuper o = true) : attributeBase o name env w = w := by
  cases o with
  | Call f es ks p =>
    cases es with
    | nil =>
      cases ks with
      | nil => cases h
      | cons _ _ => cases f <;> rfl
    | cons _ _ => cases f <;> rfl
  | _ => rfl
theorem pe_mtG {f : Val → Val → Sto → R Val} {o a : Expr} {name : Str} {id : String} {apos pos : Pos} {A B : Env → Sto → R Val} (slot : Slot "list" name id) (hty : typeOf (.builtin id) = pure (.type "method_descriptor")) (hr : MtR X id (rMt X.K f)) (hs : noSuper o = true) (hline : (apos.endLine == pos.line) = true) (hn : nst a = true)
    (ho : PE X o (tE X.K W A)) (ha : PE X a (tE X.K W B)) : PE X (.Call (.Attribute o name apos) [a] [] pos) (tE X.K W fun l st => (A l st).bind fun x st => match mlist st x with
    | none => .stuck
    | some _ => (B l st).bind fun y st => f x y st) := by
  have hfew : ((backTo pos (starEach [a] X.env)).all (fun x => !x.1) && (backToKw pos (keywordEach [] X.env)).all (fun x => x.1.isSome)
      && decide ([a].length + ([] : List Keyword).length + (if ([] : List Keyword).isEmpty then 0 else 1) < 30)) = true := by
    rw [nst_eq hn]
    rfl
  refine (pe_bm PySem.F.plainAttrs_list slot hty hr ho (pa_cons ha pa_nil (nst_eq hn)) (base_eq hs) hfew hline (nst_eq hn) rfl).imp fun σ H Q ⟨cf, l, st, hH, hS, q⟩ => ?_
  refine ⟨cf, l, st, hH, hS, q.bind.mono fun c1 H1 v st1 e1 h1 q1 x rx => ?_⟩
  split at q1
  · exact q1.elim
  · rename_i P em
    obtain ⟨n, l'⟩ := P
    obtain ⟨p, vs, rfl, p1, p2, p3, p4⟩ := h1.mlist rx em
    refine ⟨.inl ⟨rfl, vs, .of p3⟩, c1, l, st1, h1, hS.mono e1, q1.bind.mono fun c2 H2 w st2 e2 h2 q2 y ry => ?_⟩
    exact ⟨y, c2, v, w, st2, σ, W, rfl, h2, rx.mono e2, ry, q2⟩
/-! calls -/
theorem ks_all {env : PySem.Env} {pos : Pos} : ∀ {ks : List Keyword}, (∀ kw ∈ ks, kw.arg.isSome = true) → (backToKw pos (keywordEach ks env)).all (·.1.isSome) = true ∧ (backToKw pos (keywordEach ks env)).any (·.1.isNone) = false ∧ (backToKw pos (keywordEach ks env)).filterMap (·.1) = ks.filterMap (·.arg)
  | [], _ => ⟨rfl, rfl, rfl⟩
  | ⟨a, e, p⟩ :: ks, h => by
    obtain ⟨i1, i2, i3⟩ := ks_all (env := env) (pos := pos) (ks := ks) fun kw m => h kw (List.mem_cons_of_mem _ m)
    have ha : a.isSome = true := h ⟨a, e, p⟩ List.mem_cons_self
    cases a with
    | none => cases ha
    | some a =>
      refine ⟨?_, ?_, ?_⟩
      · show (true && (backToKw pos (keywordEach ks env)).all (·.1.isSome)) = true
        rw [i1]
        rfl
      · show (false || (backToKw pos (keywordEach ks env)).any (·.1.isNone)) = false
        rw [i2]
        rfl
      · show List.filterMap (·.1) ((some a, _) :: backToKw pos (keywordEach ks env)) = _
        rw [List.filterMap_cons, i3]
        rfl
/-- a call's values in the parameters' order, as V, as Value -/
def putG {α : Type} (d : α) (is : List Nat) (xs zs : List α) : List α := match is with
  | [] => xs
  | is => (List.range (xs.length + zs.length)).map fun i => (xs[i]?).getD (((is.zip zs).lookup i).getD d)
theorem vals_at {xs : List V} {us : List Value} (h : Vals xs us) (i : Nat) : (xs[i]? = none ∧ us[i]? = none) ∨ ∃ x u, xs[i]? = some x ∧ us[i]? = some u ∧ RelV x u := by
  cases q : xs[i]? with
  | none => exact .inl ⟨rfl, h.none_of q⟩
  | some x =>
    obtain ⟨u, e, r⟩ := h.get q
    exact .inr ⟨x, u, rfl, e, r⟩
theorem vals_lookup {i : Nat} : ∀ {is : List Nat} {xs : List V} {us : List Value}, Vals xs us → ((is.zip xs).lookup i = none ∧ (is.zip us).lookup i = none) ∨ ∃ x u, (is.zip xs).lookup i = some x ∧ (is.zip us).lookup i = some u ∧ RelV x u
  | [], _, _, _ => .inl ⟨rfl, rfl⟩
  | _ :: _, _, _, .nil => .inl ⟨by rw [List.zip_nil_right]; rfl, by rw [List.zip_nil_right]; rfl⟩
  | j :: is, _, _, .cons r t => by
    rw [List.zip_cons_cons, List.zip_cons_cons, List.lookup_cons, List.lookup_cons]
    cases i == j with
    | true => exact .inr ⟨_, _, rfl, rfl, r⟩
    | false => exact vals_lookup t
theorem vals_map {α : Type} {f : α → V} {g : α → Value} : ∀ {l : List α}, (∀ a ∈ l, RelV (f a) (g a)) → Vals (l.map f) (l.map g)
  | [], _ => .nil
  | a :: l, h => .cons (h a List.mem_cons_self) (vals_map fun b m => h b (List.mem_cons_of_mem _ m))
theorem putG_V {is : List Nat} {xs zs : List V} {us ws : List Value} (h : Vals xs us) (h' : Vals zs ws) : Vals (putG .non is xs zs) (putG .none is us ws) := by
  cases is with
  | nil => exact h
  | cons j is =>
    show Vals ((List.range (xs.length + zs.length)).map _) ((List.range (us.length + ws.length)).map _)
    rw [h.length, h'.length]
    refine vals_map fun i _ => ?_
    rcases vals_at h i with ⟨e1, e2⟩ | ⟨x, u, e1, e2, r⟩
    · rw [e1, e2]
      rcases vals_lookup (i := i) (is := j :: is) h' with ⟨e3, e4⟩ | ⟨x, u, e3, e4, r⟩
      · rw [e3, e4]; rfl
      · rw [e3, e4]; exact r
    · rw [e1, e2]; exact r
theorem reps_at {K : PySem.W.Frag} {cf : Cf} {xs : List V} {us : List Val} (h : Reps K cf xs us) (i : Nat) : (xs[i]? = none ∧ us[i]? = none) ∨ ∃ x u, xs[i]? = some x ∧ us[i]? = some u ∧ Rep K cf x u := by
  cases q : us[i]? with
  | none =>
    refine .inl ⟨?_, rfl⟩
    rw [List.getElem?_eq_none_iff] at q ⊢
    rw [h.length]
    exact q
  | some u =>
    obtain ⟨x, e, r⟩ := h.get q
    exact .inr ⟨x, u, e, rfl, r⟩
theorem reps_lookup {K : PySem.W.Frag} {cf : Cf} {i : Nat} : ∀ {is : List Nat} {xs : List V} {us : List Val}, Reps K cf xs us → ((is.zip xs).lookup i = none ∧ (is.zip us).lookup i = none) ∨ ∃ x u, (is.zip xs).lookup i = some x ∧ (is.zip us).lookup i = some u ∧ Rep K cf x u
  | [], _, _, _ => .inl ⟨rfl, rfl⟩
  | _ :: _, _, _, .nil => .inl ⟨by rw [List.zip_nil_right]; rfl, by rw [List.zip_nil_right]; rfl⟩
  | j :: is, _, _, .cons r t => by
    rw [List.zip_cons_cons, List.zip_cons_cons, List.lookup_cons, List.lookup_cons]
    cases i == j with
    | true => exact .inr ⟨_, _, rfl, rfl, r⟩
    | false => exact reps_lookup t
theorem reps_map {α : Type} {K : PySem.W.Frag} {cf : Cf} {f : α → V} {g : α → Val} : ∀ {l : List α}, (∀ a ∈ l, Rep K cf (f a) (g a)) → Reps K cf (l.map f) (l.map g)
  | [], _ => .nil
  | a :: l, h => .cons (h a List.mem_cons_self) (reps_map fun b m => h b (List.mem_cons_of_mem _ m))
theorem putG_R {K : PySem.W.Frag} {cf : Cf} {is : List Nat} {xs zs : List V} {us ws : List Val} (h : Reps K cf xs us) (h' : Reps K cf zs ws) : Reps K cf (putG .non is xs zs) (putG .non is us ws) := by
  cases is with
  | nil => exact h
  | cons j is =>
    show Reps K cf ((List.range (xs.length + zs.length)).map _) ((List.range (us.length + ws.length)).map _)
    rw [h.length, h'.length]
    refine reps_map fun i _ => ?_
    rcases reps_at h i with ⟨e1, e2⟩ | ⟨x, u, e1, e2, r⟩
    · rw [e1, e2]
      rcases reps_lookup (i := i) (is := j :: is) h' with ⟨e3, e4⟩ | ⟨x, u, e3, e4, r⟩
      · rw [e3, e4]; exact .non
      · rw [e3, e4]; exact r
    · rw [e1, e2]; exact r
/-- the evaluator's arguments -/
theorem putK_eq : ∀ {is : List Nat} {xs zs : List Val}, is.length = zs.length → putK xs (is.zip zs) = putG .non is xs zs
  | [], xs, zs, _ => rfl
  | j :: is, xs, [], h => by simp at h
  | j :: is, xs, z :: zs, h => by
    have e : is.length = zs.length := by simpa using h
    show (List.range (xs.length + ((j, z) :: is.zip zs).length)).map _ = (List.range (xs.length + (z :: zs).length)).map _
    rw [List.length_cons, List.length_zip, List.length_cons, e, Nat.min_self]
theorem zip_lookup {α : Type} : ∀ {ps : List Str} {us : List α} {i : Nat} {x : Str}, ps.Nodup → ps[i]? = some x → (ps.zip us).lookup x = us[i]?
  | [], _, _, _, _, h => by simp at h
  | p :: ps, [], i, x, _, _ => by rw [List.zip_nil_right]; simp
  | p :: ps, u :: us, 0, x, _, h => by
    have e : p = x := by simpa using h
    rw [e, List.zip_cons_cons, List.lookup_cons]
    simp
  | p :: ps, u :: us, i + 1, x, n, h => by
    have h : ps[i]? = some x := by simpa using h
    have hn := List.nodup_cons.mp n
    have ne : (x == p) = false := by
      have : x ≠ p := fun z => hn.1 (z ▸ List.mem_of_getElem? h)
      simpa using this
    rw [List.zip_cons_cons, List.lookup_cons, ne]
    show (ps.zip us).lookup x = (u :: us)[i + 1]?
    rw [zip_lookup hn.2 h]
    rfl
/-- the keywords' names, by their places -/
inductive Named (N : List Str) : List Nat → List Str → Prop
  | nil : Named N [] []
  | cons {i : Nat} {y : Str} {is : List Nat} {ys : List Str} : N[i]? = some y → Named N is ys → Named N (i :: is) (y :: ys)
theorem named_lookup {α : Type} {N : List Str} {i : Nat} {x : Str} (nd : N.Nodup) (hx : N[i]? = some x) : ∀ {is : List Nat} {ys : List Str} {ws : List α}, Named N is ys → (ys.zip ws).lookup x = (is.zip ws).lookup i
  | _, _, _, .nil => rfl
  | _, _, [], .cons _ _ => by rw [List.zip_nil_right, List.zip_nil_right]; rfl
  | j :: is, y :: ys, w :: ws, .cons h t => by
    rw [List.zip_cons_cons, List.zip_cons_cons, List.lookup_cons, List.lookup_cons]
    by_cases e : i = j
    · subst e
      have z : x = y := Option.some.inj (hx.symm.trans h)
      subst z
      simp
    · have ne : x ≠ y := fun z => by
        subst z
        exact e (nodup_at nd hx h)
      rw [show (i == j) = false by simpa using e, show (x == y) = false by simpa using ne]
      exact named_lookup nd hx t
theorem named_len {N : List Str} : ∀ {is : List Nat} {ys : List Str}, Named N is ys → is.length = ys.length
  | _, _, .nil => rfl
  | _, _, .cons _ t => by rw [List.length_cons, List.length_cons, named_len t]
theorem named_mem {N : List Str} : ∀ {is : List Nat} {ys : List Str} {y : Str}, Named N is ys → y ∈ ys → ∃ i, i ∈ is ∧ N[i]? = some y
  | _, _, _, .nil, h => by simp at h
  | _, _, y, .cons h t, m => by
    rcases List.mem_cons.mp m with m | m
    · subst m
      exact ⟨_, List.mem_cons_self, h⟩
    · obtain ⟨i, m1, e⟩ := named_mem t m
      exact ⟨i, List.mem_cons_of_mem _ m1, e⟩
theorem named_nodup {N : List Str} (nd : N.Nodup) : ∀ {is : List Nat} {ys : List Str}, Named N is ys → is.Nodup → ys.Nodup
  | _, _, .nil, _ => List.nodup_nil
  | _, _, .cons h t, n => by
    rw [List.nodup_cons] at n ⊢
    refine ⟨fun m => ?_, named_nodup nd t n.2⟩
    obtain ⟨i, m1, e⟩ := named_mem t m
    exact n.1 (nodup_at nd h e ▸ m1)
theorem zip_lookup_some {α : Type} {i : Nat} : ∀ {is : List Nat} {ws : List α}, is.length = ws.length → i ∈ is → ∃ w, (is.zip ws).lookup i = some w
  | [], _, _, m => by simp at m
  | j :: is, [], h, _ => by simp at h
  | j :: is, w :: ws, h, m => by
    rw [List.zip_cons_cons, List.lookup_cons]
    cases q : i == j with
    | true => exact ⟨w, rfl⟩
    | false =>
      rcases List.mem_cons.mp m with m | m
      · subst m
        simp at q
      · exact zip_lookup_some (by simpa using h) m
theorem putG_len {α : Type} {d : α} {is : List Nat} {xs zs : List α} (h : is.length = zs.length) : (putG d is xs zs).length = xs.length + zs.length := by
  cases is with
  | nil =>
    have e : zs = [] := by
      cases zs with
      | nil => rfl
      | cons _ _ => simp at h
    rw [e]
    rfl
  | cons j is =>
    show ((List.range _).map _).length = _
    rw [List.length_map, List.length_range]
theorem putG_get {α : Type} {d : α} {is : List Nat} {xs zs : List α} {i : Nat} (h : is.length = zs.length) (hi : i < xs.length + zs.length) : (putG d is xs zs)[i]? = some ((xs[i]?).getD (((is.zip zs).lookup i).getD d)) := by
  cases is with
  | nil =>
    have e : zs = [] := by
      cases zs with
      | nil => rfl
      | cons _ _ => simp at h
    subst e
    have hi : i < xs.length := by simpa using hi
    show xs[i]? = _
    rw [List.getElem?_eq_getElem hi]
    rfl
  | cons j is =>
    show ((List.range _).map _)[i]? = _
    rw [List.getElem?_map, List.getElem?_range hi]
    rfl
/-- the callee runs, an error at the caller's slots -/
theorem run_fnG {f : Addr} {fd : FuncData} {ps : List Str} {sp : Sp} {lv : Nat} {pins : List (Addr × Obj)} {σ : L2.St} {H : Hp} {s : Shared} {Q : VK} {us us' : List Value} {l : List (Str × Value)} {vs : List V} (F : FnOk X.prog X.w X.K X.mg X.base (L2.CX X.prog X.w) lv f fd ps sp) (hr : Room lv X.A) (tk : Takes X W)
    (hb : BindsTo s fd ⟨us, l⟩ (ps.zip us')) (I : L2.Inv X pins σ H s) (r : Vals vs us') (h : sp vs H Q (WE W σ)) : wpAny (model X.prog X.w) X.A (call (.ref f) us l) (EP X pins σ Q) X.xe s := by
  refine wpAny_call (codeAny_mono (F.run X.A X.stack s H ⟨us, l⟩ us' vs Q (WE W σ) hr I.env0 hb r h) fun r s' hq => ?_)
  cases r with
  | error e => exact passAt tk σ pins H s e s' I hq
  | ok fl =>
    cases fl with
    | ret u => exact I.after hq
    | next => exact False.elim hq
    | brk => exact False.elim hq
    | cont => exact False.elim hq
theorem pe_calG {i : Nat} {d : Fd} {es : List Expr} {ks : List Keyword} {is : List Nat} {p pos : Pos} {call : CallT} {A : Env → Sto → R (List Val)} {B : Env → Sto → R (List Val)} (F : FnAt X lv call i d) (hr : Room lv X.A) (tk : Takes X W) (hg : Gl X d.name) (hd : okName d.name = true) (hn : es.all nst = true)
    (ha : PA X es (tA X.K W A)) (hk : PK X ks (tA X.K W B)) (hks : ∀ kw ∈ ks, kw.arg.isSome = true) (hnm : Named d.N is (ks.filterMap (·.arg))) (hin : ∀ i ∈ is, es.length ≤ i ∧ i < d.ps) (hnd : is.Nodup) (hcov : ∀ i, i < d.ps → i < es.length ∨ i ∈ is) (hlen : es.length + ks.length = d.ps)
    (hA : LenIs A es.length) (hB : LenIs B ks.length) (hA0 : es = [] → ∀ l st, A l st = .ok [] st) :
    PE X (.Call (.Name d.name p) es ks pos) (tE X.K W fun l st => (A l st).bind fun xs st => (B l st).bind fun zs st => call i (putG .non is xs zs) st) := by
  obtain ⟨⟨f, fd, hm, hkeep, FO, hbind⟩, nd, hle⟩ := F
  obtain ⟨d1, d2, d3⟩ := ok_dbg hd
  obtain ⟨k1, k2, k3⟩ := ks_all (env := X.env) (pos := pos) hks
  have hpl : (d.N.take d.ps).length = d.ps := by rw [List.length_take]; omega
  have ndp : (d.N.take d.ps).Nodup := List.Sublist.nodup (List.take_sublist _ _) nd
  have hkl : (ks.filterMap (·.arg)).length = ks.length := by
    clear hk hnm hin hcov hlen hB k1 k2 k3
    induction ks with
    | nil => rfl
    | cons kw ks ih =>
      have h1 := hks kw List.mem_cons_self
      cases e : kw.arg with
      | none => rw [e] at h1; cases h1
      | some y =>
        rw [List.filterMap_cons, e]
        show (ks.filterMap (·.arg)).length + 1 = ks.length + 1
        rw [ih fun kw m => hks kw (List.mem_cons_of_mem _ m)]
  have hil : is.length = ks.length := by rw [named_len hnm, hkl]
  have inTake : ∀ (i : Nat) (x : Str), i < d.ps → d.N[i]? = some x → (d.N.take d.ps)[i]? = some x := fun i x h e => by rw [List.getElem?_take, if_pos h]; exact e
  -- how the values are bound
  have bind : ∀ (s : Shared) (us ws : List Value), us.length = es.length → ws.length = ks.length → BindsTo s fd ⟨us, (ks.filterMap (·.arg)).zip ws⟩ ((d.N.take d.ps).zip (putG .none is us ws)) := fun s us ws e1 e2 => by
    refine hbind s us _ _ (by omega) (fun q hq => ?_) ?_ (fun q hq => ?_) ?_ (fun q hq => ?_)
    · have m : q.1 ∈ ks.filterMap (·.arg) := (List.of_mem_zip hq).1
      obtain ⟨i, m1, e⟩ := named_mem hnm m
      exact List.mem_of_getElem? (inTake i q.1 (hin i m1).2 e)
    · have e : ((ks.filterMap (·.arg)).zip ws).map (·.1) = ks.filterMap (·.arg) := List.map_fst_zip (by omega)
      rw [e]
      exact named_nodup nd hnm hnd
    · have m : q.1 ∈ ks.filterMap (·.arg) := (List.of_mem_zip hq).1
      obtain ⟨i, m1, e⟩ := named_mem hnm m
      rw [zip_lookup ndp (inTake i q.1 (hin i m1).2 e)]
      rw [List.getElem?_eq_none_iff]
      have := (hin i m1).1
      omega
    · rw [putG_len (by omega), hpl]
      omega
    · obtain ⟨j, hj, ej⟩ := List.mem_iff_getElem.mp hq
      rw [List.length_zip, hpl, putG_len (by omega)] at hj
      rw [List.getElem_zip] at ej
      have ex : (d.N.take d.ps)[j]? = some q.1 := by
        rw [← ej]
        exact List.getElem?_eq_getElem _
      have ev : (putG Value.none is us ws)[j]? = some q.2 := by
        rw [← ej]
        exact List.getElem?_eq_getElem _
      rw [putG_get (by omega) (by omega)] at ev
      have exN : d.N[j]? = some q.1 := by
        rw [List.getElem?_take] at ex
        split at ex
        · exact ex
        · cases ex
      rw [List.lookup_append, zip_lookup ndp ex, named_lookup nd exN hnm]
      rcases hcov j (by omega) with h | h
      · obtain ⟨u, eu⟩ := get_some (l := us) (i := j) (by omega)
        rw [eu] at ev ⊢
        exact ev
      · have nu : us[j]? = none := by
          rw [List.getElem?_eq_none_iff]
          have := (hin j h).1
          omega
        obtain ⟨w, ew⟩ := zip_lookup_some (ws := ws) (by omega) h
        rw [nu, ew] at ev ⊢
        exact ev
  have lenOf : ∀ {C : Env → Sto → R (List Val)} {n : Nat} {cf : Cf} {σ : L2.St} {H : Hp} {l : Env} {st : Sto} {Q : Cf → Hp → List Val → Sto → Prop}, LenIs C n → Run X.K W cf σ H (C l st) Q → Run X.K W cf σ H (C l st) (fun c' H' vs st' => vs.length = n ∧ Q c' H' vs st') := fun {C n cf σ H l st Q} hC q => by
    cases e : C l st with
    | ok vs st' =>
      rw [e] at q
      exact fun c' H' e1 h1 => ⟨hC _ _ _ _ e, q c' H' e1 h1⟩
    | exn x st' => rw [e] at q; exact q
    | stuck => rw [e] at q; exact q
  refine ⟨fun pins s σ H Q I ⟨cf, l, st, hH, hS, q⟩ => ?_⟩
  refine wpAny_Call_Name_kw (ld_glob I hg hm ?_ d1)
  -- the keywords, then the call
  have behind : ∀ (s1 : Shared) (us : List Value) (xs : List V) (vs : List Val) (c1 : Cf) (H1 : Hp) (st1 : Sto), L2.Inv X pins σ H1 s1 → Vals xs us → vs.length = es.length → Ext cf H c1 H1 → RelH X.K c1 H1 st1 → Reps X.K c1 xs vs →
      Run X.K W c1 σ H1 ((B l st1).bind fun zs st => call i (putG .non is vs zs) st) (fun c' H' v _ => ∀ x, Rep X.K c' x v → Q x H') →
      wpAny (model X.prog X.w) X.A (evalAll ((backToKw pos (keywordEach ks X.env)).map (·.2))) (fun ws s2 => X.K.In s2.heap ∧ wpAny (model X.prog X.w) X.A (PySem.call (.ref f) us ((ks.filterMap (·.arg)).zip ws)) (EP X pins σ Q) X.xe s2) X.xe s1 := fun s1 us xs vs c1 H1 st1 I1 r1 hvs e1 h1 rx q1 => by
    refine thn (hk.run pos pins s1 σ H1 (fun zs H2 => ∃ (c2 : Cf) (ws : List Val) (st2 : Sto), ws.length = ks.length ∧ Reps X.K c2 zs ws ∧ Ext c1 H1 c2 H2 ∧ RelH X.K c2 H2 st2 ∧ Run X.K W c2 σ H2 (call i (putG .non is vs ws) st2) (fun c' H' v _ => ∀ x, Rep X.K c' x v → Q x H')) I1 ⟨c1, l, st1, h1, hS.mono e1, (lenOf hB q1.bind).mono fun c2 H2 ws st2 e2 h2 q2 zs rz => ⟨c2, ws, st2, q2.1, rz, e2, h2, q2.2⟩⟩) fun ws' s2 ⟨zs, H2, I2, r2, c2, ws, st2, hl2, rz, e2, h2, q2⟩ => ⟨I2.kIn, ?_⟩
    have hu : us.length = es.length := by rw [← r1.length, rx.length]; exact hvs
    have hw : ws'.length = ks.length := by rw [← r2.length, rz.length]; exact hl2
    refine run_fnG FO hr tk (bind s2 us ws' hu hw) I2 (putG_V r1 r2) ⟨?_, c2, putG .non is vs ws, st2, σ, h2, putG_R (rx.mono e2) rz, ?_⟩
    · rw [putG_len (by rw [hil, rz.length, hl2]), hpl, rx.length, rz.length, hvs, hl2]
      exact hlen
    · cases ec : call i (putG .non is vs ws) st2 with
      | ok v st' => rw [ec] at q2; exact q2
      | stuck => rw [ec] at q2; exact q2
      | exn x st' => rw [ec] at q2; exact q2
  cases es with
  | nil =>
    refine PySem.W.callWith_KW0 (h₀ := X.base) I.ok.mod.kin hkeep k1 ?_ (by rw [k2]; rfl)
    rw [k3]
    have q : Run X.K W cf σ H ((A l st).bind fun xs st => (B l st).bind fun zs st => call i (putG .non is xs zs) st) _ := q
    rw [hA0 rfl] at q
    exact behind s [] [] [] cf H st I .nil rfl Ext.refl hH .nil q
  | cons e es =>
    rw [List.all_cons, Bool.and_eq_true] at hn
    refine PySem.W.callWith_KW (h₀ := X.base) I.ok.mod.kin hkeep k1 (thn (ha.run pos pins s σ H (fun xs H1 => ∃ (c1 : Cf) (vs : List Val) (st1 : Sto), vs.length = (e :: es).length ∧ Reps X.K c1 xs vs ∧ Ext cf H c1 H1 ∧ RelH X.K c1 H1 st1 ∧ Run X.K W c1 σ H1 ((B l st1).bind fun zs st => call i (putG .non is vs zs) st) (fun c' H' v _ => ∀ x, Rep X.K c' x v → Q x H')) I ⟨cf, l, st, hH, hS, (lenOf hA q.bind).mono fun c1 H1 vs st1 e1 h1 q1 xs rx => ⟨c1, vs, st1, q1.1, rx, e1, h1, q1.2⟩⟩) fun us s1 ⟨xs, H1, I1, r1, c1, vs, st1, hl1, rx, e1, h1, q1⟩ => ?_) ?_ (nst_eq hn.1)
    · rw [k3]
      exact behind s1 us xs vs c1 H1 st1 I1 r1 hl1 e1 h1 rx q1
    · rw [nst_eq hn.1]
      show ((false || (backTo pos (starEach es X.env)).any (·.1)) || _) = false
      rw [stars_eq hn.2, k2]
      rfl
end
end Pv

set_option Elab.async false
set_option linter.all false
set_option maxRecDepth 100000
set_option maxHeartbeats 4000000
namespace Pv
open PySem PySem.Spec PyProof.Rows L2 RZ
section
variable {c : Cn} {lv : Nat}
theorem pe_eq {X : Cx} {W : WX} {e : Expr} {f g : Env → Sto → R Val} (h : PE X e (tE X.K W g)) (q : ∀ l st, f l st = g l st) : PE X e (tE X.K W f) := by
  have z : f = g := funext fun l => funext fun st => q l st
  rw [z]
  exact h
theorem pt_eq {X : Cx} {W : WX} {e : Expr} {f g : Env → Sto → R Val} (h : PT X e (tT X.K W g)) (q : ∀ l st, f l st = g l st) : PT X e (tT X.K W f) := by
  have z : f = g := funext fun l => funext fun st => q l st
  rw [z]
  exact h
theorem pa_eq {X : Cx} {W : WX} {e : List Expr} {f g : Env → Sto → R (List Val)} (h : PA X e (tA X.K W g)) (q : ∀ l st, f l st = g l st) : PA X e (tA X.K W f) := by
  have z : f = g := funext fun l => funext fun st => q l st
  rw [z]
  exact h
theorem po_eq {X : Cx} {W : WX} {e : Option Expr} {f g : Env → Sto → R (Option Int)} (h : PO X e (tOI X.K W g)) (q : ∀ l st, f l st = g l st) : PO X e (tOI X.K W f) := by
  have z : f = g := funext fun l => funext fun st => q l st
  rw [z]
  exact h
theorem pi_eq {X : Cx} {W : WX} {tg e : Expr} {f g : Env → Sto → R Its} (h : PI X tg e (tI X.K W g)) (q : ∀ l st, f l st = g l st) : PI X tg e (tI X.K W f) := by
  have z : f = g := funext fun l => funext fun st => q l st
  rw [z]
  exact h
theorem fin_bind {α : Type} {r : R α} {f : α → Sto → R Val} : fin true (r.bind f) = r.bind fun a st => fin true (f a st) := by
  cases r <;> rfl
theorem fin_ite {p : Prop} [Decidable p] {a b : R Val} : fin true (if p then a else b) = if p then fin true a else fin true b := by
  split <;> rfl
noncomputable def evkV (c : Cn) : List (Nat × Xp) → Env → Sto → R (List Val)
  | [], _, st => .ok [] st
  | (_, e) :: es, l, st => (ev c false e l st).bind fun x st => (evkV c es l st).bind fun xs st => .ok (x :: xs) st
theorem evk_eq : ∀ (ks : List (Nat × Xp)) (l : Env) (st : Sto), evk c ks l st = (evkV c ks l st).bind fun ws st => .ok ((ks.map (·.1)).zip ws) st
  | [], l, st => by simp only [evk, evkV, R.bind_ok] <;> rfl
  | (k, e) :: ks, l, st => by
    simp only [evk, evkV]
    cases ev c false e l st with
    | ok v st1 =>
      simp only [R.bind_ok]
      rw [evk_eq ks l st1]
      cases evkV c ks l st1 with
      | ok ws st2 => rfl
      | exn x st2 => rfl
      | stuck => rfl
    | exn x st1 => rfl
    | stuck => rfl
theorem bind_ok_iff {α β : Type} {r : R α} {f : α → Sto → R β} {b : β} {st' : Sto} (h : r.bind f = .ok b st') : ∃ a st1, r = .ok a st1 ∧ f a st1 = .ok b st' := by
  cases r with
  | ok a st1 => exact ⟨a, st1, rfl, h⟩
  | exn x st1 => cases h
  | stuck => cases h
theorem evkV_len : ∀ (ks : List (Nat × Xp)), LenIs (evkV c ks) ks.length
  | [], l, st, vs, st', h => by simp only [evkV] at h; cases h; rfl
  | (k, e) :: ks, l, st, vs, st', h => by
    simp only [evkV] at h
    obtain ⟨a, st1, _, h⟩ := bind_ok_iff h
    obtain ⟨as, st2, h2, h⟩ := bind_ok_iff h
    cases h
    rw [List.length_cons, evkV_len ks _ _ _ _ h2]
    rfl
theorem evs_len : ∀ (es : List Xp), LenIs (evs c es) es.length
  | [], l, st, vs, st', h => by simp only [evs] at h; cases h; rfl
  | e :: es, l, st, vs, st', h => by
    simp only [evs] at h
    obtain ⟨a, st1, _, h⟩ := bind_ok_iff h
    obtain ⟨as, st2, h2, h⟩ := bind_ok_iff h
    cases h
    rw [List.length_cons, evs_len es _ _ _ _ h2]
    rfl
theorem mEs_len {k : Ck} : ∀ {xs : List Xp} {es : List Expr}, mEs k xs es = true → xs.length = es.length
  | [], [], _ => rfl
  | [], _ :: _, h => by simp only [mEs] at h; cases h
  | _ :: _, [], h => by simp only [mEs] at h; cases h
  | x :: xs, e :: es, h => by
    simp only [mEs, Bool.and_eq_true] at h
    rw [List.length_cons, List.length_cons, mEs_len h.2]
theorem CkE.blk {k : Ck} {X : Cx} {W : WX} (C : CkE k X W c lv) {scope : Scope} {s : Shared} {H : Hp} {C' : Addr} {cl : List (Str × Addr)} {fp : List Addr} : CkE (k.blk scope) (X.blk s H scope (compEnvC scope cl C' X.env) fp) W0 c lv where
  N := C.N
  sc := by
    show relabel scope X.env = relS scope k.sc
    rw [← C.sc]
    rfl
  fn := rfl
  calm := C.calm
  nd := C.nd
  tk := takes0
  room := C.room
  blt := C.blt
  G := C.G
  glo := C.glo
  fns := fun i d h => by
    obtain ⟨e, n, l⟩ := C.fns i d h
    exact ⟨e, n, l⟩
theorem bn (x : Str) (h : bnames.contains x = true) : x ∈ bnames := by simpa using h
theorem CkE.bf {k : Ck} {X : Cx} {W : WX} (C : CkE k X W c lv) (x : Str) (h : bnames.contains x = true) : X.mg x = none := C.blt x (bn x h)
theorem callN_eq {e : Expr} {x : Str} {es : List Expr} {ks : List Keyword} (h : callN e = some (x, es, ks)) : ∃ p pos, e = .Call (.Name x p) es ks pos := by
  cases e with
  | Call f es' ks' pos =>
    cases f with
    | Name y p =>
      cases h
      exact ⟨p, pos, rfl⟩
    | _ => cases h
  | _ => cases h
theorem methN_eq {e o : Expr} {f : Str} {es : List Expr} (h : methN e = some (o, f, es)) : ∃ apos pos, e = .Call (.Attribute o f apos) es [] pos ∧ (apos.endLine == pos.line) = true := by
  cases e with
  | Call g es' ks' pos =>
    cases g with
    | Attribute o' f' apos =>
      cases ks' with
      | nil =>
        have h : (if apos.endLine == pos.line then some (o', f', es') else none) = some (o, f, es) := h
        split at h
        · rename_i hl
          cases h
          exact ⟨apos, pos, rfl, hl⟩
        · cases h
      | cons _ _ => cases h
    | _ => cases h
  | _ => cases h
theorem notSet_eq {e : Expr} {env : PySem.Env} (h : notSet e = true) : ∀ x, foldedSetIterable e env x = pure x := by
  intro x
  cases e <;> first | rfl | cases h
mutual
theorem snd_sE : ∀ (x : Xp) {k : Ck} {X : Cx} {W : WX}, CkE k X W c lv → ∀ {e : Expr}, mE k x e = true → PE X e (tE X.K W (ev c false x)) ∧ PT X e (tT X.K W (ev c true x))
  | .var i, k, X, W, C, e, h => by
    simp only [mE] at h
    split at h
    · rename_i y p
      simp only [Bool.and_eq_true, decide_eq_true_eq] at h
      obtain ⟨⟨h1, h2⟩, h3⟩ := h
      obtain ⟨d1, d2, d3⟩ := ok_dbg h3
      have P : PE X (.Name y p) (tE X.K W (ev c false (.var i))) := (pe_var (by rw [C.N]; exact h1) (C.vis h2) d1 d2).imp fun σ H Q ⟨cf, l, st, hH, hS, q⟩ => by
        simp only [ev] at q
        split at q
        · rename_i v ev'
          obtain ⟨x, e1, r⟩ := hS.2 i v ev'
          exact ⟨x, e1, q.here hH _ r⟩
        · exact q.elim
      refine ⟨P, pt_plain P rfl fun l st => ?_⟩
      simp only [ev]
      split <;> rfl
    · cases h
  | .num n, k, X, W, C, e, h => by
    simp only [mE] at h
    split at h
    · rename_i j a p
      have e1 : j = n := of_decide_eq_true h
      subst e1
      have P : PE X (.Constant (.int j) a p) (tE X.K W (ev c false (.num j))) := pe_int.imp fun σ H Q ⟨cf, l, st, hH, hS, q⟩ => by
        simp only [ev, fin_false] at q
        exact q.here hH _ (.int _)
      exact ⟨P, pt_plain P rfl fun l st => by simp only [ev, fin_false]⟩
    · cases h
  | .bol b, k, X, W, C, e, h => by
    simp only [mE] at h
    split at h
    · rename_i j a p
      have e1 : j = b := of_decide_eq_true h
      subst e1
      have P : PE X (.Constant (.bool j) a p) (tE X.K W (ev c false (.bol j))) := pe_bl.imp fun σ H Q ⟨cf, l, st, hH, hS, q⟩ => by
        simp only [ev] at q
        exact q.here hH _ (.bl _)
      exact ⟨P, pt_plain P rfl fun l st => by simp only [ev, fin_bl]⟩
    · cases h
  | .non, k, X, W, C, e, h => by
    simp only [mE] at h
    split at h
    · rename_i a p
      have P : PE X (.Constant .none a p) (tE X.K W (ev c false .non)) := pe_non.imp fun σ H Q ⟨cf, l, st, hH, hS, q⟩ => by
        simp only [ev, fin_false] at q
        exact q.here hH _ .non
      exact ⟨P, pt_plain P rfl fun l st => by simp only [ev, fin_false]⟩
    · cases h
  | .str s, k, X, W, C, e, h => by
    simp only [mE] at h
    split at h
    · rename_i j a p
      have e1 : j = s := of_decide_eq_true h
      subst e1
      have P : PE X (.Constant (.str j) a p) (tE X.K W (ev c false (.str j))) := pe_str.imp fun σ H Q ⟨cf, l, st, hH, hS, q⟩ => by
        simp only [ev, fin_false] at q
        exact q.here hH _ (.str _)
      exact ⟨P, pt_plain P rfl fun l st => by simp only [ev, fin_false]⟩
    · cases h
  | .glo n, k, X, W, C, e, h => by
    simp only [mE] at h
    split at h
    · rename_i y p
      simp only [Bool.and_eq_true, decide_eq_true_eq] at h
      obtain ⟨⟨h1, h2⟩, h3⟩ := h
      obtain ⟨d1, d2, d3⟩ := ok_dbg h3
      cases eG : k.G[n]? with
      | none => rw [eG] at h1; cases h1
      | some pr =>
        rw [eG] at h1
        have e1 : pr.1 = y := Option.some.inj h1
        subst e1
        obtain ⟨u, V, m1, m2, m3⟩ := C.glo n pr eG
        have P : PE X (.Name pr.1 p) (tE X.K W (ev c false (.glo n))) := (pe_glob (C.gl h2) m1 m2 d1).imp fun σ H Q ⟨cf, l, st, hH, hS, q⟩ => by
          simp only [ev, C.G, eG, fin_false] at q
          exact q.here hH _ (m3 cf)
        refine ⟨P, pt_plain P rfl fun l st => ?_⟩
        simp only [ev, C.G, eG, fin_false]
    · cases h
  | .bin o a b, k, X, W, C, e, h => by
    simp only [mE] at h
    split at h
    · rename_i a' o' b' p
      simp only [Bool.and_eq_true, decide_eq_true_eq] at h
      obtain ⟨⟨rfl, h1⟩, h2⟩ := h
      have P : PE X (.BinOp a' (opM o) b' p) (tE X.K W (ev c false (.bin o a b))) := pe_eq (pe_op2 (binR o) (snd_sE a C h1).1 (snd_sE b C h2).1) fun l st => by simp only [ev, fin_false]
      exact ⟨P, pt_plain P rfl fun l st => by simp only [ev, fin_false, fin_bind]⟩
    · cases h
  | .neg a, k, X, W, C, e, h => by
    simp only [mE] at h
    split at h
    · rename_i a' p
      have P : PE X (.UnaryOp .USub a' p) (tE X.K W (ev c false (.neg a))) := (pe_un un_neg (snd_sE a C h).1).imp fun σ H Q ⟨cf, l, st, hH, hS, q⟩ => by
        simp only [ev] at q
        refine ⟨cf, l, st, hH, hS, q.bind.mono fun c1 H1 v st1 e1 h1 q1 x rx => ?_⟩
        split at q1
        · cases rx
          exact ⟨_, rfl, q1.here h1 _ (.int _)⟩
        · exact q1.elim
      refine ⟨P, pt_plain P rfl fun l st => ?_⟩
      simp only [ev, fin_bind]
      congr 1
      funext v st
      split <;> rfl
    · cases h
  | .cmp o a b, k, X, W, C, e, h => by
    simp only [mE] at h
    split at h
    · rename_i a' o' b' p
      simp only [Bool.and_eq_true, decide_eq_true_eq, Bool.not_eq_true'] at h
      obtain ⟨⟨⟨rfl, h0⟩, h1⟩, h2⟩ := h
      exact ⟨pe_eq (pe_cm2 (cmR o C.hu) h0 (snd_sE a C h1).1 (snd_sE b C h2).1) fun l st => by simp only [ev], pt_eq (pt_cm2 C.hu h0 (snd_sE a C h1).1 (snd_sE b C h2).1) fun l st => by simp only [ev]⟩
    · cases h
  | .chn o q a b d, k, X, W, C, e, h => by
    simp only [mE] at h
    split at h
    · rename_i a' o' p' b' c' p
      simp only [Bool.and_eq_true, decide_eq_true_eq, Bool.not_eq_true'] at h
      obtain ⟨⟨⟨⟨⟨⟨rfl, rfl⟩, h0⟩, h00⟩, h1⟩, h2⟩, h3⟩ := h
      exact ⟨pe_eq (pe_chn C.hu h00 (snd_sE a C h1).1 (snd_sE b C h2).1 (snd_sE d C h3).1) fun l st => by simp only [ev] <;> rfl, pt_eq (pt_chn C.hu h00 (snd_sE a C h1).1 (snd_sE b C h2).1 (snd_sE d C h3).1) fun l st => by simp only [ev]; rfl⟩
    · cases h
  | .and a b, k, X, W, C, e, h => by
    simp only [mE] at h
    split at h
    · rename_i a' b' p
      simp only [Bool.and_eq_true] at h
      obtain ⟨h1, h2⟩ := h
      exact ⟨pe_eq (pe_andG (snd_sE a C h1).1 (pe_one (snd_sE b C h2).1)) fun l st => by simp only [ev] <;> rfl, pt_eq (pw_andG (snd_sE a C h1).2 (pw_and1 (snd_sE b C h2).2)).pt fun l st => by simp only [ev]; rfl⟩
    · rename_i a' b' c' r p
      simp only [Bool.and_eq_true] at h
      obtain ⟨h1, h2⟩ := h
      obtain ⟨q1, q2⟩ := snd_sE b C h2
      refine ⟨pe_eq (pe_andG (snd_sE a C h1).1 q1) fun l st => by simp only [ev] <;> rfl, pt_eq (pw_andG (snd_sE a C h1).2 ⟨fun whole pins s σ H Q I hw => ?_⟩).pt fun l st => by simp only [ev]; rfl⟩
      exact q2.run pins s σ H Q I hw
    · cases h
  | .or a b, k, X, W, C, e, h => by
    simp only [mE] at h
    split at h
    · rename_i a' b' p
      simp only [Bool.and_eq_true] at h
      obtain ⟨h1, h2⟩ := h
      exact ⟨pe_eq (pe_orG (snd_sE a C h1).1 (pe_one (snd_sE b C h2).1)) fun l st => by simp only [ev] <;> rfl, pt_eq (pw_orG (snd_sE a C h1).2 (pw_or1 (snd_sE b C h2).2)).pt fun l st => by simp only [ev]; rfl⟩
    · rename_i a' b' c' r p
      simp only [Bool.and_eq_true] at h
      obtain ⟨h1, h2⟩ := h
      obtain ⟨q1, q2⟩ := snd_sE b C h2
      refine ⟨pe_eq (pe_orG (snd_sE a C h1).1 q1) fun l st => by simp only [ev] <;> rfl, pt_eq (pw_orG (snd_sE a C h1).2 ⟨fun whole pins s σ H Q I hw => ?_⟩).pt fun l st => by simp only [ev]; rfl⟩
      exact q2.run pins s σ H Q I hw
    · cases h
  | .not a, k, X, W, C, e, h => by
    simp only [mE] at h
    split at h
    · rename_i a' p
      exact ⟨pe_eq (pe_notG (snd_sE a C h).1) fun l st => by simp only [ev] <;> rfl, pt_eq (pt_notG (snd_sE a C h).2) fun l st => by simp only [ev]; rfl⟩
    · cases h
  | .ife d a b, k, X, W, C, e, h => by
    simp only [mE] at h
    split at h
    · rename_i d' a' b' p
      simp only [Bool.and_eq_true] at h
      obtain ⟨⟨h1, h2⟩, h3⟩ := h
      refine ⟨(pe_ifExp (snd_sE d C h1).2 (snd_sE a C h2).1 (snd_sE b C h3).1).imp fun σ H Q ⟨cf, l, st, hH, hS, q⟩ => ?_, ⟨fun pins s σ H Q I ⟨cf, l, st, hH, hS, q⟩ => ?_⟩⟩
      · simp only [ev] at q
        refine ⟨cf, l, st, hH, hS, q.bind.mono fun c1 H1 v st1 e1 h1 q1 => ?_⟩
        split at q1
        · exact ⟨true, rfl, iteT ⟨c1, l, st1, h1, hS.mono e1, q1⟩⟩
        · exact ⟨false, rfl, iteF ⟨c1, l, st1, h1, hS.mono e1, q1⟩⟩
        · exact q1.elim
      · simp only [ev] at q
        exact q.elim
    · cases h
  | .tup es, k, X, W, C, e, h => by
    simp only [mE] at h
    split at h
    · rename_i es' n p
      have P : PE X (.Tuple es' n p) (tE X.K W (ev c false (.tup es))) := (pe_tup (snd_sEs es C h)).imp fun σ H Q ⟨cf, l, st, hH, hS, q⟩ => by
        simp only [ev, fin_false] at q
        refine ⟨cf, l, st, hH, hS, q.bind.mono fun c1 H1 vs st1 e1 h1 q1 xs rx => ?_⟩
        split at q1
        · rename_i hz
          refine ⟨by rw [rx.length]; exact hz, fun pp n => ?_⟩
          obtain ⟨c', r, q'⟩ := run_tup h1 q1 n rx
          exact q' _ r
        · exact q1.elim
      refine ⟨P, pt_plain P rfl fun l st => ?_⟩
      simp only [ev, fin_false, fin_bind, fin_ite, fin_stuck]
    · cases h
  | .lst m es, k, X, W, C, e, h => by
    simp only [mE] at h
    split at h
    · rename_i es' p
      have P : PE X (.List es' p) (tE X.K W (ev c false (.lst m es))) := (pe_lst (snd_sEs es C h)).imp fun σ H Q ⟨cf, l, st, hH, hS, q⟩ => by
        simp only [ev, fin_false] at q
        refine ⟨cf, l, st, hH, hS, q.bind.mono fun c1 H1 vs st1 e1 h1 q1 xs rx => ?_⟩
        split at q1
        · rename_i hz
          refine ⟨by rw [rx.length]; exact hz, fun pp n => ?_⟩
          obtain ⟨c', v', st', r, q'⟩ := run_newL h1 q1 n rx
          exact q' _ r
        · exact q1.elim
      refine ⟨P, pt_plain P rfl fun l st => ?_⟩
      simp only [ev, fin_false, fin_bind, fin_ite, fin_stuck]
    · cases h
  | .idx a i, k, X, W, C, e, h => by
    simp only [mE] at h
    split at h
    · rename_i a' i' p
      simp only [Bool.and_eq_true] at h
      obtain ⟨⟨h0, h1⟩, h2⟩ := h
      have P : PE X (.Subscript a' i' p) (tE X.K W (ev c false (.idx a i))) := pe_eq (pe_idxG h0 (snd_sE a C h1).1 (snd_sE i C h2).1) fun l st => by simp only [ev, fin_false]
      exact ⟨P, pt_plain P rfl fun l st => by simp only [ev, fin_false, fin_bind]⟩
    · cases h
  | .slc m a lo hi, k, X, W, C, e, h => by
    simp only [mE] at h
    split at h
    · rename_i a' lo' hi' p2 p
      simp only [Bool.and_eq_true] at h
      obtain ⟨⟨h1, h2⟩, h3⟩ := h
      have P : PE X (.Subscript a' (.Slice lo' hi' none p2) p) (tE X.K W (ev c false (.slc m a lo hi))) := pe_eq (pe_slcG (m := m) (snd_sE a C h1).1 (snd_sEo lo C h2) (snd_sEo hi C h3)) fun l st => by simp only [ev, fin_false]
      exact ⟨P, pt_plain P rfl fun l st => by simp only [ev, fin_false, fin_bind]⟩
    · cases h
  | .isi a kc, k, X, W, C, e, h => by
    simp only [mE] at h
    split at h
    · rename_i f a' y p' eN
      obtain ⟨p, pos, rfl⟩ := callN_eq eN
      simp only [Bool.and_eq_true, decide_eq_true_eq] at h
      obtain ⟨⟨⟨⟨⟨rfl, h1⟩, h2⟩, rfl⟩, h4⟩, h5⟩ := h
      have P : PE X (.Call (.Name "isinstance" p) [a', .Name (clM kc) p'] [] pos) (tE X.K W (ev c false (.isi a kc))) := pe_eq (pe_isiG (C.gl h1) (C.bf _ (by decide +kernel)) (C.gl h4) (C.bf _ (by cases kc <;> decide +kernel)) h2 (snd_sE a C h5).1) fun l st => by simp only [ev] <;> rfl
      refine ⟨P, pt_plain P rfl fun l st => ?_⟩
      simp only [ev, fin_bind]
      congr 1
      funext v st
      split <;> rfl
    · cases h
  | .blt f es, k, X, W, C, e, h => by
    simp only [mE] at h
    split at h
    · rename_i x es' eN
      obtain ⟨p, pos, rfl⟩ := callN_eq eN
      simp only [Bool.and_eq_true, decide_eq_true_eq] at h
      obtain ⟨⟨⟨⟨rfl, h1⟩, h2⟩, h3⟩, h4⟩ := h
      cases es' with
      | nil => cases f <;> exact absurd h1 (by decide)
      | cons e0 es0 =>
        have P : PE X (.Call (.Name (bfM f).1 p) (e0 :: es0) [] pos) (tE X.K W (ev c false (.blt f es))) := pe_eq (pe_bfG (bfR C.calm f) (by cases f <;> first | exact .inl ⟨_, rfl⟩ | exact .inr ⟨_, rfl⟩) (by cases f <;> decide +kernel) (C.gl h2) (C.bf _ (by cases f <;> decide +kernel)) h3 (by cases f <;> decide +kernel) (snd_sEs es C h4)) fun l st => by simp only [ev, fin_false]
        exact ⟨P, pt_plain P rfl fun l st => by simp only [ev, fin_false, fin_bind]⟩
    · cases h
  | .mkl m a, k, X, W, C, e, h => by
    simp only [mE] at h
    split at h
    · rename_i x a' eN
      obtain ⟨p, pos, rfl⟩ := callN_eq eN
      simp only [Bool.and_eq_true, decide_eq_true_eq] at h
      obtain ⟨⟨⟨rfl, h2⟩, h3⟩, h4⟩ := h
      have P : PE X (.Call (.Name "list" p) [a'] [] pos) (tE X.K W (ev c false (.mkl m a))) := pe_eq (pe_bfG (mklR m) (.inr ⟨_, rfl⟩) (by decide +kernel) (C.gl h2) (C.bf _ (by decide +kernel)) (by simp [h3]) (by decide +kernel) (pa_consG h3 (snd_sE a C h4).1 pa_nilG)) fun l st => by
        simp only [ev, fin_false]
        cases ev c false a l st <;> rfl
      exact ⟨P, pt_plain P rfl fun l st => by simp only [ev, fin_false, fin_bind]⟩
    · cases h
  | .cat m a b, k, X, W, C, e, h => by
    simp only [mE] at h
    split at h
    · rename_i a' b' p
      simp only [Bool.and_eq_true] at h
      obtain ⟨h1, h2⟩ := h
      have P : PE X (.BinOp a' .Add b' p) (tE X.K W (ev c false (.cat m a b))) := pe_eq (pe_op2 (catR m) (snd_sE a C h1).1 (snd_sE b C h2).1) fun l st => by simp only [ev, fin_false]
      exact ⟨P, pt_plain P rfl fun l st => by simp only [ev, fin_false, fin_bind]⟩
    · cases h
  | .rep m a b, k, X, W, C, e, h => by
    simp only [mE] at h
    split at h
    · rename_i a' b' p
      simp only [Bool.and_eq_true] at h
      obtain ⟨h1, h2⟩ := h
      have P : PE X (.BinOp a' .Mult b' p) (tE X.K W (ev c false (.rep m a b))) := pe_eq (pe_op2 (repR m) (snd_sE a C h1).1 (snd_sE b C h2).1) fun l st => by simp only [ev, fin_false]
      exact ⟨P, pt_plain P rfl fun l st => by simp only [ev, fin_false, fin_bind]⟩
    · cases h
  | .cal f es ks, k, X, W, C, e, h => by
    simp only [mE] at h
    split at h
    · rename_i x es' ks' d eN eT
      obtain ⟨p, pos, rfl⟩ := callN_eq eN
      simp only [Bool.and_eq_true, decide_eq_true_eq] at h
      obtain ⟨⟨⟨⟨⟨⟨⟨⟨⟨⟨rfl, h1⟩, h2⟩, h3⟩, h4⟩, h5⟩, h6⟩, h7⟩, h8⟩, h9⟩, hok⟩ := h
      obtain ⟨k1, k2, k3, k4, k5⟩ := snd_sKs ks C h4
      have hcov : ∀ i, i < d.ps → i < es'.length ∨ i ∈ ks.map (·.1) := fun i hi => by
        have q := List.all_eq_true.mp h7 i (List.mem_range.mpr hi)
        simp only [Bool.or_eq_true, decide_eq_true_eq, List.contains_iff_mem] at q
        exact q
      have P : PE X (.Call (.Name d.name p) es' ks' pos) (tE X.K W (ev c false (.cal f es ks))) := pe_eq (pe_calG (C.fns f d eT) C.room C.tk (C.gl h1) hok h2 (snd_sEs es C h3) k1 k3 k2 k4 h6 hcov h5 (by rw [← mEs_len h3]; exact evs_len es) (by rw [← k5]; exact evkV_len ks) (fun z l st => by
          have z' : es = [] := by
            have := mEs_len h3
            rw [z] at this
            exact List.length_eq_zero_iff.mp this
          rw [z']
          simp only [evs])) fun l st => by
        simp only [ev, fin_false]
        congr 1
        funext xs st1
        rw [evk_eq]
        cases ez : evkV c ks l st1 with
        | ok ws st2 =>
          simp only [R.bind_ok]
          rw [putK_eq (by rw [List.length_map, evkV_len ks _ _ _ _ ez])]
        | exn x st2 => rfl
        | stuck => rfl
      refine ⟨P, pt_plain P rfl fun l st => by simp only [ev, fin_false, fin_bind]⟩
    · cases h
  | .lc m a tg it ifs, k, X, W, C, e, h => by
    simp only [mE] at h
    split at h
    · rename_i a' tg' it' ifs' z scope p
      simp only [Bool.and_eq_true, decide_eq_true_eq] at h
      obtain ⟨⟨⟨⟨⟨⟨⟨⟨rfl, h1⟩, h2⟩, h3⟩, h4⟩, h5⟩, h6⟩, h7⟩, h8⟩ := h
      have hi : PI X tg' it' (tI X.K W (evi c it)) := snd_sI it C h3 h8
      have nd : X.N.Nodup := by rw [C.N]; exact C.nd
      have ok : BlkOk X.N X.env.scope scope (ownOf X.N tg.slots) := blkOk_by (by rw [C.N, C.sc]; exact h1)
      have P : PE X (.ListComp a' [⟨tg', it', ifs', 0⟩] scope p) (tE X.K W (ev c false (.lc m a tg it ifs))) := by
        refine pe_eq (pe_lcG (m := m) (F := evf c ifs) (A := ev c false a) (iter := it') (elt := a') (tgE := tg') (ifs := ifs') (scope := scope) (pos := p) C.calm nd hi ok (fun s H C' cl fp => mTg_ok (C.blk).N (C.blk).sc (C.blk).fn C.calm C.nd h2) (fun s H C' cl fp => ?_) (fun s H C' cl fp => (snd_sE a C.blk h7).1) h4 (fun t => PE X (.ListComp a' [⟨tg', it', ifs', 0⟩] scope p) t) (fun t ht t' i => ht.imp i)
          (pe_lc C.calm nd hi ok (fun s H C' cl fp => mTg_ok (C.blk).N (C.blk).sc (C.blk).fn C.calm C.nd h2) (fun s H C' cl fp => snd_sF ifs C.blk h5 h6) (fun s H C' cl fp => (snd_sE a C.blk h7).1) (notSet_eq h4))) fun l st => ?_
        · exact snd_sF ifs C.blk h5 h6
        · simp only [ev, fin_false]
          rfl
      exact ⟨P, pt_plain P rfl fun l st => by simp only [ev, fin_false, fin_bind]⟩
    · cases h
  | .app o a, k, X, W, C, e, h => by
    simp only [mE] at h
    split at h
    · rename_i o' f a' eN
      obtain ⟨apos, pos, rfl, hl⟩ := methN_eq eN
      simp only [Bool.and_eq_true, decide_eq_true_eq] at h
      obtain ⟨⟨⟨⟨rfl, h1⟩, h2⟩, h3⟩, h4⟩ := h
      have P : PE X (.Call (.Attribute o' "append" apos) [a'] [] pos) (tE X.K W (ev c false (.app o a))) := pe_eq (pe_mtG PySem.F.slot_list_append PySem.F.type_list_append appR h1 hl h2 (snd_sE o C h3).1 (snd_sE a C h4).1) fun l st => by simp only [ev, fin_false] <;> rfl
      refine ⟨P, pt_plain P rfl fun l st => ?_⟩
      simp only [ev, fin_false, fin_bind]
      congr 1
      funext v st
      split <;> simp only [fin_bind, fin_stuck]
    · cases h
  | .ext o a, k, X, W, C, e, h => by
    simp only [mE] at h
    split at h
    · rename_i o' f a' eN
      obtain ⟨apos, pos, rfl, hl⟩ := methN_eq eN
      simp only [Bool.and_eq_true, decide_eq_true_eq] at h
      obtain ⟨⟨⟨⟨rfl, h1⟩, h2⟩, h3⟩, h4⟩ := h
      have P : PE X (.Call (.Attribute o' "extend" apos) [a'] [] pos) (tE X.K W (ev c false (.ext o a))) := pe_eq (pe_mtG PySem.F.slot_list_extend PySem.F.type_list_extend extR h1 hl h2 (snd_sE o C h3).1 (snd_sE a C h4).1) fun l st => by simp only [ev, fin_false] <;> rfl
      refine ⟨P, pt_plain P rfl fun l st => ?_⟩
      simp only [ev, fin_false, fin_bind]
      congr 1
      funext v st
      split <;> simp only [fin_bind, fin_stuck]
    · cases h
theorem snd_sEs : ∀ (xs : List Xp) {k : Ck} {X : Cx} {W : WX}, CkE k X W c lv → ∀ {es : List Expr}, mEs k xs es = true → PA X es (tA X.K W (evs c xs))
  | [], k, X, W, C, [], h => pa_eq pa_nilG fun l st => by simp only [evs]
  | [], k, X, W, C, _ :: _, h => by simp only [mEs] at h; cases h
  | x :: xs, k, X, W, C, [], h => by simp only [mEs] at h; cases h
  | x :: xs, k, X, W, C, e :: es, h => by
    simp only [mEs, Bool.and_eq_true] at h
    obtain ⟨⟨h1, h2⟩, h3⟩ := h
    exact pa_eq (pa_consG h1 (snd_sE x C h2).1 (snd_sEs xs C h3)) fun l st => by simp only [evs]
theorem snd_sEo : ∀ (x : Option Xp) {k : Ck} {X : Cx} {W : WX}, CkE k X W c lv → ∀ {e : Option Expr}, mEo k x e = true → PO X e (tOI X.K W (evo c x))
  | none, k, X, W, C, none, h => po_eq po_noneG fun l st => by simp only [evo]
  | none, k, X, W, C, some _, h => by simp only [mEo] at h; cases h
  | some x, k, X, W, C, none, h => by simp only [mEo] at h; cases h
  | some x, k, X, W, C, some e, h => by
    simp only [mEo] at h
    exact po_eq (po_someG (snd_sE x C h).1) fun l st => by simp only [evo] <;> rfl
theorem snd_sKs : ∀ (xs : List (Nat × Xp)) {k : Ck} {X : Cx} {W : WX}, CkE k X W c lv → ∀ {n : Nat} {d : Fd} {es : List Keyword}, mKs k n d xs es = true →
    PK X es (tA X.K W (evkV c xs)) ∧ Named d.N (xs.map (·.1)) (es.filterMap (·.arg)) ∧ (∀ kw ∈ es, kw.arg.isSome = true) ∧ (∀ i ∈ xs.map (·.1), n ≤ i ∧ i < d.ps) ∧ xs.length = es.length
  | [], k, X, W, C, n, d, [], h => ⟨⟨fun pos pins s σ H Q I hw => pk_nilG.run pos pins s σ H Q I (by
      obtain ⟨cf, l, st, hH, hS, q⟩ := hw
      simp only [evkV] at q
      exact ⟨cf, l, st, hH, hS, q⟩)⟩, .nil, fun _ m => by simp at m, fun _ m => by simp at m, rfl⟩
  | [], k, X, W, C, n, d, _ :: _, h => by simp only [mKs] at h; cases h
  | (i, x) :: xs, k, X, W, C, n, d, [], h => by simp only [mKs] at h; cases h
  | (i, x) :: xs, k, X, W, C, n, d, ⟨a, e, kp⟩ :: es, h => by
    cases a with
    | none => simp only [mKs] at h; cases h
    | some y =>
      simp only [mKs, Bool.and_eq_true, decide_eq_true_eq] at h
      obtain ⟨⟨⟨⟨h1, h2⟩, h3⟩, h4⟩, h5⟩ := h
      obtain ⟨k1, k2, k3, k4, k5⟩ := snd_sKs xs C h5
      refine ⟨⟨fun pos pins s σ H Q I hw => (pk_consG (snd_sE x C h4).1 k1).run pos pins s σ H Q I (by
        obtain ⟨cf, l, st, hH, hS, q⟩ := hw
        simp only [evkV] at q
        exact ⟨cf, l, st, hH, hS, q⟩)⟩, ?_, fun kw m => ?_, fun j m => ?_, by rw [List.length_cons, List.length_cons, k5]⟩
      · show Named d.N (i :: xs.map (·.1)) _
        rw [List.filterMap_cons]
        exact .cons h1 k2
      · rcases List.mem_cons.mp m with m | m
        · rw [m]; rfl
        · exact k3 kw m
      · rcases List.mem_cons.mp m with m | m
        · rw [m]; exact ⟨h2, h3⟩
        · exact k4 j m
theorem snd_sF : ∀ (xs : List Xp) {k : Ck} {X : Cx}, CkE k X W0 c lv → ∀ {es : List Expr}, es.length ≤ 1 → mEs k xs es = true → PTs X es (tF X.K (evf c xs))
  | [], k, X, C, [], _, h => ⟨fun pins s σ H Q I ⟨cf, l, st, hH, hS, q⟩ => pts_nil.run pins s σ H Q I (by
      simp only [evf] at q
      exact q.here hH)⟩
  | [], k, X, C, _ :: _, _, h => by simp only [mEs] at h; cases h
  | x :: xs, k, X, C, [], _, h => by simp only [mEs] at h; cases h
  | [x], k, X, C, [e], _, h => by
    simp only [mEs, Bool.and_eq_true] at h
    obtain ⟨⟨h1, h2⟩, h3⟩ := h
    exact ⟨fun pins s σ H Q I ⟨cf, l, st, hH, hS, q⟩ => (pts_one (snd_sE x C h2).2).run pins s σ H Q I (by
      simp only [evf] at q
      refine ⟨cf, l, st, hH, hS, q.bind.mono fun c1 H1 v st1 e1 h1 q1 => ?_⟩
      split at q1
      · exact ⟨true, rfl, q1.here h1⟩
      · exact ⟨false, rfl, q1.here h1⟩
      · exact q1.elim)⟩
  | x :: y :: xs, k, X, C, [e], _, h => by
    simp only [mEs, Bool.and_eq_true] at h
    exact absurd h.2 (by simp)
  | x :: xs, k, X, C, e :: e' :: es, h0, h => by simp at h0
theorem snd_sI : ∀ (x : It) {k : Ck} {X : Cx} {W : WX}, CkE k X W c lv → ∀ {tg e : Expr}, mI k x e = true → (match x with
      | .zip _ _ => isTupE tg
      | _ => true) = true → PI X tg e (tI X.K W (evi c x))
  | .rng es, k, X, W, C, tg, e, h, _ => by
    simp only [mI] at h
    split at h
    · rename_i f es' eN
      obtain ⟨p, pos, rfl⟩ := callN_eq eN
      simp only [Bool.and_eq_true, decide_eq_true_eq] at h
      obtain ⟨⟨⟨⟨⟨rfl, h1⟩, h2⟩, h3⟩, h4⟩, h5⟩ := h
      exact pi_eq (pi_rngG (C.gl h1) (C.bf _ (by decide +kernel)) h2 h4 h5 (snd_sEs es C h3) (by rw [← mEs_len h3]; exact evs_len es)) fun l st => by simp only [evi] <;> rfl
    · cases h
  | .seq a, k, X, W, C, tg, e, h, _ => by
    simp only [mI] at h
    exact pi_eq (pi_seqG (snd_sE a C h).1) fun l st => by simp only [evi] <;> rfl
  | .zip a b, k, X, W, C, tg, e, h, ht => by
    simp only [mI] at h
    split at h
    · rename_i f a' b' eN
      obtain ⟨p, pos, rfl⟩ := callN_eq eN
      simp only [Bool.and_eq_true, decide_eq_true_eq] at h
      obtain ⟨⟨⟨⟨⟨rfl, h1⟩, h2⟩, h3⟩, h4⟩, h5⟩ := h
      cases tg with
      | Tuple elts kk tpos => exact pi_eq (pi_zipG (C.gl h1) (C.bf _ (by decide +kernel)) h2 h3 (snd_sE a C h4).1 (snd_sE b C h5).1) fun l st => by simp only [evi] <;> rfl
      | _ => cases ht
    · cases h
end
end
end Pv

set_option Elab.async false
set_option linter.all false
set_option maxRecDepth 100000
set_option maxHeartbeats 1000000
namespace Pv
open PySem PySem.Spec PyProof.Rows L2 RZ
/-! ### statements -/
def RunF (K : PySem.W.Frag) (W : WX) (c : Cf) (H : Hp) (r : Fl) (D : Ends) : Prop := match r with
  | .nx l st => ∀ c' H' σ', Ext c H c' H' → RelH K c' H' st → RelS K c' σ' l → D.nx σ' H'
  | .ret v st => ∀ c' H' x, Ext c H c' H' → RelH K c' H' st → Rep K c' x v → D.rt x H'
  | .brk l st => ∀ c' H' σ', Ext c H c' H' → RelH K c' H' st → RelS K c' σ' l → D.bk σ' H'
  | .cnt l st => ∀ c' H' σ', Ext c H c' H' → RelH K c' H' st → RelS K c' σ' l → D.ct σ' H'
  | .exn x l st => ∀ c' H' σ' cls d, Ext c H c' H' → RelH K c' H' st → RelS K c' σ' l → RepX K c' H' cls d x → W cls d σ' H'
  | .stuck => False
def tS (K : PySem.W.Frag) (W : WX) (f : Env → Sto → Fl) : TS := fun D σ H => ∃ c l st, RelH K c H st ∧ RelS K c σ l ∧ RunF K W c H (f l st) D
theorem _root_.L2.PS.imp {X : Cx} {e : Stmt} {t t' : TS} (h : PS X e t) (i : ∀ D σ H, t' D σ H → t D σ H) : PS X e t' := ⟨fun pins s σ H Q I q => h.run pins s σ H Q I (i Q σ H q)⟩
theorem _root_.L2.PSs.imp {X : Cx} {e : List Stmt} {t t' : TS} (h : PSs X e t) (i : ∀ D σ H, t' D σ H → t D σ H) : PSs X e t' := ⟨fun pins s σ H Q I q => h.run pins s σ H Q I (i Q σ H q)⟩
theorem ps_eq {X : Cx} {W : WX} {e : Stmt} {f g : Env → Sto → Fl} (h : PS X e (tS X.K W g)) (q : ∀ l st, f l st = g l st) : PS X e (tS X.K W f) := by
  have z : f = g := funext fun l => funext fun st => q l st
  rw [z]
  exact h
section
variable {K : PySem.W.Frag} {W : WX} {c c1 : Cf} {H H1 : Hp} {σ : L2.St} {l : Env} {st : Sto} {D : Ends}
theorem RunF.from {r : Fl} (e : Ext c H c1 H1) (h : RunF K W c H r D) : RunF K W c1 H1 r D := by
  cases r with
  | nx l st => exact fun c' H' σ' e' q s => h c' H' σ' (e.trans e') q s
  | ret v st => exact fun c' H' x e' q s => h c' H' x (e.trans e') q s
  | brk l st => exact fun c' H' σ' e' q s => h c' H' σ' (e.trans e') q s
  | cnt l st => exact fun c' H' σ' e' q s => h c' H' σ' (e.trans e') q s
  | exn x l st => exact fun c' H' σ' cls d e' q s => h c' H' σ' cls d (e.trans e') q s
  | stuck => exact h
theorem RunF.fl {α : Type} {r : R α} {f : α → Sto → Fl} (hS : RelS K c σ l) (h : RunF K W c H (r.fl l f) D) : Run K W c σ H r (fun c1 H1 a st1 => RunF K W c1 H1 (f a st1) D) := by
  cases r with
  | ok a st => exact fun c' H' e q => RunF.from e h
  | exn x st => exact fun c' H' cls d e q rx => h c' H' σ cls d e q (hS.mono e) rx
  | stuck => exact h
theorem RunF.nxt (h : RunF K W c H (.nx l st) D) (hH : RelH K c H st) (hS : RelS K c σ l) : D.nx σ H := h c H σ Ext.refl hH hS
end
structure CkS (k : Ck) (X : Cx) (W : WX) (c : Cn) (lv : Nat) : Prop where
  E : CkE k X W c lv
  own : PassesOwn (model X.prog X.w) X.A X.env X.xe
  kind : k.sc.kind = .function
section
variable {k : Ck} {X : Cx} {W : WX} {c : Cn} {lv : Nat}
theorem CkE.nox (C : CkE k X W c lv) : CkE k X.nox W0 c lv where
  N := C.N
  sc := C.sc
  fn := C.fn
  calm := C.calm
  nd := C.nd
  tk := takes0
  room := C.room
  blt := C.blt
  G := C.G
  glo := C.glo
  fns := fun i d h => by
    obtain ⟨e, n, l⟩ := C.fns i d h
    exact ⟨e, n, l⟩
theorem CkS.nox (C : CkS k X W c lv) : CkS k X.nox W0 c lv := ⟨C.E.nox, PassesOwn.never, C.kind⟩
/-! in-place operations -/
theorem iop_mulW : OpR X (inplaceOp .Mult) (rI CMulW fun i j => .int (i * j)) := L2.opI fun _ _ _ _ _ _ _ hc q => imul_int q hc.ok
theorem augR {o : Op} (ho : augB o = true) {H : Hp} {i j k : Int} (e : opI o i j = some k) {pins : List (Addr × Obj)} {s : Shared} {σ : L2.St} {Q : VK} {u v : Value} (I : Inv X pins σ H s) (ru : RelV (.int i) u) (rv : RelV (.int j) v) (q : Q (.int k) H) :
    wpAny (model X.prog X.w) X.A (inplaceOp (opM o) u v) (EP X pins σ Q) X.xe s := by
  cases o with
  | add =>
    cases e
    exact iop_add pins s σ H _ _ _ _ Q I ru rv ⟨i, j, rfl, rfl, q⟩
  | sub =>
    cases e
    exact iop_sub pins s σ H _ _ _ _ Q I ru rv ⟨i, j, rfl, rfl, q⟩
  | mul =>
    simp only [opI] at e
    split at e
    · rename_i hm
      cases e
      rcases hm with hm | hm | hm
      · exact iop_mul pins s σ H _ _ _ _ Q I ru rv ⟨i, j, rfl, rfl, .inl hm, q⟩
      · exact iop_mul pins s σ H _ _ _ _ Q I ru rv ⟨i, j, rfl, rfl, .inr hm, q⟩
      · exact iop_mulW pins s σ H _ _ _ _ Q I ru rv ⟨i, j, rfl, rfl, hm, q⟩
    · cases e
  | fdiv =>
    simp only [opI] at e
    split at e
    · rename_i hm
      cases e
      exact iop_fdivW pins s σ H _ _ _ _ Q I ru rv ⟨i, j, rfl, rfl, hm, q⟩
    · cases e
  | mod =>
    simp only [opI] at e
    split at e
    · rename_i hm
      cases e
      exact iop_mod pins s σ H _ _ _ _ Q I ru rv ⟨i, j, rfl, rfl, hm, q⟩
    · cases e
  | pow => cases ho
  | shl =>
    simp only [opI] at e
    split at e
    · rename_i hm
      cases e
      exact iop_shl pins s σ H _ _ _ _ Q I ru rv ⟨i, j, rfl, rfl, hm, q⟩
    · cases e
  | shr =>
    simp only [opI] at e
    split at e
    · rename_i hm
      cases e
      exact iop_shr pins s σ H _ _ _ _ Q I ru rv ⟨i, j, rfl, rfl, hm, q⟩
    · cases e
  | band =>
    cases e
    exact iop_and pins s σ H _ _ _ _ Q I ru rv ⟨i, j, rfl, rfl, q⟩
/-! for, while -/
theorem ps_forG {tgE iter : Expr} {body : List Stmt} {pos : Pos} {tg : Tg} {I : Env → Sto → R Its} {B : Env → Sto → Fl} (hp : PassesOwn (model X.prog X.w) X.A X.env X.xe) (hc : X.calm = true) (hi : PI X tgE iter (tI X.K W I)) (hg : PG X tgE (gTg X.K tg))
    (hb : PSs X body (tS X.K W B)) (hs : notSet iter = true) : PS X (.For tgE iter body [] pos) (tS X.K W fun l st => (I l st).fl l fun J st => forL B tg J.2 J.1 l st) := by
  refine (ps_for hp hc hi hg hb (notSet_eq hs)).imp fun D σ H ⟨cf, l, st, hH, hS, q⟩ => ?_
  refine ⟨cf, l, st, hH, hS, (q.fl hS).mono fun c1 H1 P st1 e1 h1 q1 It hW => ?_⟩
  refine ⟨fun i mm σ' H' => mm = P.1.length - i ∧ i ≤ P.1.length ∧ ∃ c2 l2 st2, Ext c1 H1 c2 H' ∧ RelH X.K c2 H' st2 ∧ RelS X.K c2 σ' l2 ∧ RunF X.K W c2 H' (forL B tg P.2 (P.1.drop i) l2 st2) D,
    ⟨P.1.length, by simp, Nat.zero_le _, c1, l, st1, Ext.refl, h1, hS.mono e1, by rw [List.drop_zero]; exact q1⟩, ?_⟩
  rintro i mm σ2 H2 ⟨rfl, hi, c2, l2, st2, e2, h2, s2, q2⟩
  by_cases hlt : i < P.1.length
  · obtain ⟨v, ev⟩ := get_some hlt
    have ed : P.1.drop i = v :: P.1.drop (i + 1) := by
      rw [List.drop_eq_getElem_cons hlt]
      rw [List.getElem?_eq_getElem hlt] at ev
      rw [Option.some.inj ev]
    rw [ed] at q2
    by_cases hgd : guardOk st2 P.2
    · rw [forL, if_pos hgd] at q2
      obtain ⟨_, wk⟩ := hW c2 H2 st2 e2 h2 hgd
      obtain ⟨go, yl⟩ := wk i hlt
      refine .inr ⟨go, fun σ' H' => ∃ c2 l2 st2, Ext c1 H1 c2 H' ∧ RelH X.K c2 H' st2 ∧ RelS X.K c2 σ' l2 ∧ RunF X.K W c2 H' (forL B tg P.2 (P.1.drop (i + 1)) l2 st2) D, fun σ' H' hx => ⟨P.1.length - (i + 1), by omega, rfl, hlt, hx⟩, fun x H3 hy => ?_⟩
      obtain ⟨c3, v', e3, h3, ev', r3⟩ := yl x H3 hy
      have z : v' = v := Option.some.inj (ev'.symm.trans ev)
      subst z
      cases et : tgSet tg v' l2 with
      | none =>
        rw [et] at q2
        exact q2.elim
      | some l3 =>
        rw [et] at q2
        refine gTg_ok h3 (s2.mono e3) r3 et fun σ' hS' _ => ⟨c3, l3, st2, h3, hS', ?_⟩
        cases eB : B l3 st2 with
        | nx l4 st4 =>
          simp only [eB] at q2
          exact fun c4 H4 σ4 e4 h4 s4 => ⟨c4, l4, st4, (e2.trans e3).trans e4, h4, s4, RunF.from (e3.trans e4) q2⟩
        | cnt l4 st4 =>
          simp only [eB] at q2
          exact fun c4 H4 σ4 e4 h4 s4 => ⟨c4, l4, st4, (e2.trans e3).trans e4, h4, s4, RunF.from (e3.trans e4) q2⟩
        | brk l4 st4 =>
          simp only [eB] at q2
          exact fun c4 H4 σ4 e4 h4 s4 => q2 c4 H4 σ4 (e3.trans e4) h4 s4
        | ret v4 st4 =>
          simp only [eB] at q2
          exact fun c4 H4 x4 e4 h4 r4 => q2 c4 H4 x4 (e3.trans e4) h4 r4
        | exn x4 l4 st4 =>
          simp only [eB] at q2
          exact fun c4 H4 σ4 cls d e4 h4 s4 r4 => q2 c4 H4 σ4 cls d (e3.trans e4) h4 s4 r4
        | stuck =>
          simp only [eB] at q2
          exact q2.elim
    · rw [forL, if_neg hgd] at q2
      exact q2.elim
  · have e : i = P.1.length := by omega
    subst e
    rw [List.drop_length] at q2
    by_cases hgd : guardOk st2 P.2
    · rw [forL, if_pos hgd] at q2
      obtain ⟨stop, _⟩ := hW c2 H2 st2 e2 h2 hgd
      exact .inl ⟨stop _ (Nat.le_refl _), q2.nxt h2 s2⟩
    · rw [forL, if_neg hgd] at q2
      exact q2.elim
theorem ps_whG {cond : Expr} {body : List Stmt} {pos : Pos} {A : Env → Sto → R Val} {B : Env → Sto → Fl} (n : Nat) (hp : PassesOwn (model X.prog X.w) X.A X.env X.xe) (hc : PT X cond (tT X.K W A)) (hb : PSs X body (tS X.K W B)) : PS X (.While cond body [] pos) (tS X.K W fun l st => whL A B n l st) := by
  refine (ps_while hp hc hb).imp fun D σ H ⟨cf, l, st, hH, hS, q⟩ => ?_
  refine ⟨fun m σ' H' => ∃ c2 l2 st2, RelH X.K c2 H' st2 ∧ RelS X.K c2 σ' l2 ∧ RunF X.K W c2 H' (whL A B m l2 st2) D, ⟨n, cf, l, st, hH, hS, q⟩, ?_⟩
  rintro m σ2 H2 ⟨c2, l2, st2, h2, s2, q2⟩
  cases m with
  | zero =>
    rw [whL] at q2
    exact q2.elim
  | succ m =>
    rw [whL] at q2
    refine ⟨c2, l2, st2, h2, s2, ?_⟩
    cases eA : A l2 st2 with
    | stuck =>
      simp only [eA] at q2
      exact q2.elim
    | exn x st3 =>
      simp only [eA] at q2
      exact fun c' H' cls d e h rx => q2 c' H' σ2 cls d e h (s2.mono e) rx
    | ok v st3 =>
      intro c3 H3 e3 h3
      cases v with
      | bl b =>
        cases b with
        | true =>
          simp only [eA] at q2
          refine ⟨true, rfl, iteT ⟨fun σ' H' => ∃ c2 l2 st2, RelH X.K c2 H' st2 ∧ RelS X.K c2 σ' l2 ∧ RunF X.K W c2 H' (whL A B m l2 st2) D, fun σ' H' hx => ⟨m, Nat.lt_succ_self m, hx⟩, c3, l2, st3, h3, s2.mono e3, ?_⟩⟩
          cases eB : B l2 st3 with
          | nx l4 st4 =>
            simp only [eB] at q2
            exact fun c4 H4 σ4 e4 h4 s4 => ⟨c4, l4, st4, h4, s4, RunF.from (e3.trans e4) q2⟩
          | cnt l4 st4 =>
            simp only [eB] at q2
            exact fun c4 H4 σ4 e4 h4 s4 => ⟨c4, l4, st4, h4, s4, RunF.from (e3.trans e4) q2⟩
          | brk l4 st4 =>
            simp only [eB] at q2
            exact fun c4 H4 σ4 e4 h4 s4 => q2 c4 H4 σ4 (e3.trans e4) h4 s4
          | ret v4 st4 =>
            simp only [eB] at q2
            exact fun c4 H4 x4 e4 h4 r4 => q2 c4 H4 x4 (e3.trans e4) h4 r4
          | exn x4 l4 st4 =>
            simp only [eB] at q2
            exact fun c4 H4 σ4 cls d e4 h4 s4 r4 => q2 c4 H4 σ4 cls d (e3.trans e4) h4 s4 r4
          | stuck =>
            simp only [eB] at q2
            exact q2.elim
        | false =>
          simp only [eA] at q2
          exact ⟨false, rfl, iteF (q2 c3 H3 σ2 e3 h3 (s2.mono e3))⟩
      | _ =>
        simp only [eA] at q2
        exact q2.elim
end
/-! ### the ghost: a list of one's own stands from now on -/
section
variable {K : PySem.W.Frag} {c : Cf} {H : Hp} {st : Sto}
mutual
theorem Rep.pure {v : V} {d : Val} {F : Hp} {φ : List Addr} (hF : Same c.F F) (p : pureV d = true) (h : Rep K c v d) : Rep K ⟨F, φ⟩ v d := by
  cases h with
  | non => exact .non
  | bl b => exact .bl b
  | int i => exact .int i
  | str s => exact .str s
  | tup h1 h2 =>
    simp only [pureV] at p
    exact .tup (SqT.mono hF h1) (Reps.pure hF p h2)
  | lst h1 h2 =>
    simp only [pureV] at p
    exact .lst (hF _ _ h1) (Reps.pure hF p h2)
  | scr h1 => exact .scr (Same.seq hF h1)
  | ref h1 => simp only [pureV] at p; cases p
termination_by sizeOf d
theorem Reps.pure {vs : List V} {l : List Val} {F : Hp} {φ : List Addr} (hF : Same c.F F) (p : pureVs l = true) (h : Reps K c vs l) : Reps K ⟨F, φ⟩ vs l := by
  cases h with
  | nil => exact .nil
  | cons h1 h2 =>
    simp only [pureVs, Bool.and_eq_true] at p
    exact .cons (Rep.pure hF p.1 h1) (Reps.pure hF p.2 h2)
termination_by sizeOf l
end
/-- what the addresses at ns hold stands from now on -/
def frzF (c : Cf) (H : Hp) (ns : List Nat) : Hp := fun a => if ∃ n ∈ ns, c.φ[n]? = some a then H a else c.F a
theorem frz_same (h : RelH K c H st) (ns : List Nat) : Same c.F (frzF c H ns) := fun a o e => by
  unfold frzF
  split
  · exact h.sub a o e
  · exact e
theorem kill_len : ∀ (ns : List Nat) (st : Sto), (killAll ns st).length = st.length
  | [], _ => rfl
  | n :: ns, st => by rw [killAll, kill_len ns, List.length_set]
theorem kill_get : ∀ (ns : List Nat) (st : Sto) {i : Nat} {l : List Val}, (killAll ns st)[i]? = some (.lst l) → i ∉ ns ∧ st[i]? = some (.lst l)
  | [], _, _, _, h => ⟨by simp, h⟩
  | n :: ns, st, i, l, h => by
    obtain ⟨h1, h2⟩ := kill_get ns _ h
    by_cases e : n = i
    · subst e
      rw [List.getElem?_set] at h2
      split at h2
      · split at h2
        · cases h2
        · cases h2
      · rename_i z
        exact absurd rfl z
    · rw [List.getElem?_set_ne e] at h2
      exact ⟨fun m => (List.mem_cons.mp m).elim (fun z => e z.symm) h1, h2⟩
theorem frz_ext (h : RelH K c H st) (ns : List Nat) : Ext c H ⟨frzF c H ns, c.φ⟩ H ∧ RelH K ⟨frzF c H ns, c.φ⟩ H (killAll ns st) := by
  refine ⟨⟨frz_same h ns, List.prefix_refl _, fun a o e n => ⟨e, n⟩, fun a o e n z => ?_⟩, ⟨fun a o e => ?_, by rw [kill_len]; exact h.len, h.nd, h.all, fun n l e => ?_⟩⟩
  · show frzF c H ns a = none
    unfold frzF
    rw [if_neg (fun ⟨i, _, q⟩ => n (List.mem_of_getElem? q))]
    exact z
  · have e : frzF c H ns a = some o := e
    unfold frzF at e
    split at e
    · exact e
    · exact h.sub a o e
  · obtain ⟨e1, e2⟩ := kill_get ns st e
    obtain ⟨a, vs, q1, q2, q3, q4⟩ := h.obs n l e2
    refine ⟨a, vs, q1, ?_, q3, Reps.mono' (c := c) (c' := ⟨frzF c H ns, c.φ⟩) (frz_same h ns) (List.prefix_refl _) q4⟩
    show frzF c H ns a = none
    unfold frzF
    rw [if_neg]
    · exact q2
    · rintro ⟨j, hj, q⟩
      exact e1 (nodup_at h.nd q1 q ▸ hj)
theorem thaw1_ok (h : RelH K c H st) {v u : Val} {a : List Nat} {x : V} (e : thaw1 st v = some (u, a)) (r : Rep K c x v) (ns : List Nat) (hn : ∀ n ∈ a, n ∈ ns) : Rep K ⟨frzF c H ns, c.φ⟩ x u := by
  unfold thaw1 at e
  split at e
  · rename_i n
    split at e
    · rename_i l el
      split at e
      · rename_i hp
        cases e
        cases r with
        | ref hφ =>
          obtain ⟨b, vs, q1, q2, q3, q4⟩ := h.obs n l el
          have z := Option.some.inj (q1.symm.trans hφ)
          subst z
          refine .lst (vs := vs) ?_ (Reps.pure (frz_same h ns) hp q4)
          show frzF c H ns b = _
          unfold frzF
          rw [if_pos ⟨n, hn n (by simp), q1⟩]
          exact q3
      · cases e
    · cases e
  · split at e
    · rename_i hp
      cases e
      exact Rep.pure (frz_same h ns) hp r
    · cases e
theorem thawL_ok (h : RelH K c H st) (ns : List Nat) : ∀ {vs us : List Val} {a : List Nat} {xs : List V}, thawL st vs = some (us, a) → Reps K c xs vs → (∀ n ∈ a, n ∈ ns) → Reps K ⟨frzF c H ns, c.φ⟩ xs us
  | [], us, a, xs, e, r, hn => by
    cases e
    cases r
    exact .nil
  | v :: vs, us, a, xs, e, r, hn => by
    cases r with
    | cons r1 r2 =>
      rw [thawL] at e
      split at e
      · rename_i y a1 ys a2 e1 e2
        cases e
        exact .cons (thaw1_ok h e1 r1 ns fun n m => hn n (List.mem_append_left _ m)) (thawL_ok h ns e2 r2 fun n m => hn n (List.mem_append_right _ m))
      · cases e
theorem frz_ok {i : Nat} {l : Env} {σ : L2.St} {l' : Env} {st' : Sto} (h : RelH K c H st) (hS : RelS K c σ l) (e : frzEv i l st = .nx l' st') : ∃ c', Ext c H c' H ∧ RelH K c' H st' ∧ RelS K c' σ l' := by
  unfold frzEv at e
  split at e
  · rename_i n en
    split at e
    · rename_i xs ex
      split at e
      · rename_i ys ns et
        cases e
        obtain ⟨e1, h1⟩ := frz_ext h (n :: ns)
        refine ⟨_, e1, h1, ?_⟩
        obtain ⟨x, q1, q2⟩ := hS.2 i _ en
        cases q2 with
        | @ref b _ hφ =>
          obtain ⟨b', vs, p1, p2, p3, p4⟩ := h.obs n xs ex
          have z := Option.some.inj (p1.symm.trans hφ)
          subst z
          have r : Rep K ⟨frzF c H (n :: ns), c.φ⟩ (.ref b') (.lst ys) := by
            refine .lst (vs := vs) ?_ (thawL_ok h (n :: ns) et p4 fun m hm => List.mem_cons_of_mem _ hm)
            show frzF c H (n :: ns) b' = _
            unfold frzF
            rw [if_pos ⟨n, by simp, p1⟩]
            exact p3
          have z := (hS.mono e1).set (i := i) r
          have w : σ.set i (some (V.ref b')) = σ := by
            apply List.ext_getElem?
            intro j
            by_cases hj : i = j
            · subst hj
              rw [List.getElem?_set_self (List.getElem?_eq_some_iff.mp q1).1, q1]
            · rw [List.getElem?_set_ne hj]
          rw [w] at z
          exact z
      · cases e
    · cases e
  · cases e
end
section
variable {k : Ck} {X : Cx} {W : WX} {c : Cn} {lv : Nat}
theorem notComp_sw {e : Expr} {t : Option Expr} {n : Nat} {env : PySem.Env} (h : notComp e = true) : swapsWith e t n env = pure false := by
  cases e <;> first | rfl | cases h
theorem notLoc_sw {e : Expr} {x : Str} {p : Pos} {n : Nat} {env : PySem.Env} (h : env.scope.names.lookup x ≠ some .local) : swapsWith e (some (.Name x p)) n env = pure false := by
  have ky : (env.kindOf x == some NameKind.local) = false := by
    have e1 : env.kindOf x = env.scope.names.lookup x := rfl
    rw [e1]
    cases q : env.scope.names.lookup x with
    | none => rfl
    | some k =>
      cases k with
      | «local» => exact absurd q h
      | _ => rfl
  cases e <;> first | rfl | (unfold swapsWith; simp only [ky, Bool.and_false, Bool.false_and] <;> rfl)
theorem notComp_sole {e t : Expr} {n : Nat} {env : PySem.Env} (h : notComp e = true) : swapsWithSole [t] e n env = pure false := by
  show swapsWith e (some t) n env = pure false
  exact notComp_sw h
theorem notTup_sw {es : List Expr} {k : Nat} {p : Pos} {e : Expr} {env : PySem.Env} (h : notTup e = true) : swappedStores [.Tuple es k p] e env = pure none := by
  cases e <;> first | rfl | cases h
theorem notSl_assign {o i : Expr} {pos : Pos} {env : PySem.Env} (h : notSl i = true) : ∀ v, assign (.Subscript o i pos) env v = (do
      let ov ← holding [v] (eval o env)
      let iv ← holding [v, ov] (eval i env)
      standAt pos
      holding [v, ov, iv] (setItem ov iv v)
      release [v, ov, iv] []) := by
  intro v
  cases i <;> first | rfl | cases h
theorem swB_ok {X : Cx} {sc : Scope} {x : Str} {p : Pos} {e : Expr} {n : Nat} (hs : X.env.scope = sc) (hk : sc.kind = .function) (h : swB sc x p e = true) : X.env.scope.names.lookup x = some .local ∧ swapsWith e (some (.Name x p)) n X.env = pure true := by
  cases e with
  | ListComp a g s q =>
    simp only [swB, Bool.and_eq_true, Bool.not_eq_true', decide_eq_true_eq] at h
    obtain ⟨⟨h1, h2⟩, h3⟩ := h
    subst hs
    exact ⟨h1, sw_true hk h1 h2 h3⟩
  | _ => cases h
theorem hfn {X : Cx} {k : Ck} {x : Str} (hf : X.fn = k.fn) (hs : X.env.scope = k.sc) (h : (k.fn x || decide (k.sc.names.lookup x = some .local)) = true) : X.fn x = true ∨ X.env.scope.names.lookup x = some .local := by
  simp only [Bool.or_eq_true, decide_eq_true_eq] at h
  rw [hf, hs]
  exact h
/-- x = [..] that takes its name's place -/
theorem ps_setLcG {i : Nat} {y : Str} {py spos : Pos} {k : Ck} {X : Cx} {W : WX} {c : Cn} {lv : Nat} (C : CkS k X W c lv) (hy : k.N[i]? = some y) {m : Bool} {a : Xp} {tg : Tg} {it : It} {ifs : List Xp} {e : Expr} (h : mE k (.lc m a tg it ifs) e = true) (hw : swB k.sc y py e = true) :
    PS X (.Assign [.Name y py] e spos) (tAsg (tE X.K W (ev c false (.lc m a tg it ifs))) (gName i)) := by
  obtain ⟨hyl, hsw⟩ := swB_ok (n := spos.line) C.E.sc C.kind hw
  have C0 := C
  obtain ⟨C, hp, hk⟩ := C
  simp only [mE] at h
  split at h
  · rename_i a' tg' it' ifs' z scope p
    simp only [Bool.and_eq_true, decide_eq_true_eq] at h
    obtain ⟨⟨⟨⟨⟨⟨⟨⟨rfl, h1⟩, h2⟩, h3⟩, h4⟩, h5⟩, h6⟩, h7⟩, h8⟩ := h
    have hi : PI X tg' it' (tI X.K W (evi c it)) := snd_sI it C h3 h8
    have nd : X.N.Nodup := by rw [C.N]; exact C.nd
    have ok : BlkOk X.N X.env.scope scope (ownOf X.N tg.slots) := blkOk_by (by rw [C.N, C.sc]; exact h1)
    have q : PS X (.Assign [.Name y py] (.ListComp a' [⟨tg', it', ifs', 0⟩] scope p) spos) (tAsg (tE X.K W (lcEv (evi c it) (lcB tg (evf c ifs) (ev c false a)) m)) (gName i)) := by
      refine pe_lcG (m := m) (F := evf c ifs) (A := ev c false a) (iter := it') (elt := a') (tgE := tg') (ifs := ifs') (scope := scope) (pos := p) C.calm nd hi ok (fun s H C' cl fp => mTg_ok (C.blk).N (C.blk).sc (C.blk).fn C.calm C.nd h2) (fun s H C' cl fp => snd_sF ifs C.blk h5 h6) (fun s H C' cl fp => (snd_sE a C.blk h7).1) h4
        (fun t => PS X (.Assign [.Name y py] (.ListComp a' [⟨tg', it', ifs', 0⟩] scope p) spos) (tAsg t (gName i))) (fun t ht t' i => ht.imp fun D σ H q => i _ _ _ q)
        (ps_setLc C.calm nd (by rw [C.N]; exact hy) hyl hsw hi ok (fun s H C' cl fp => mTg_ok (C.blk).N (C.blk).sc (C.blk).fn C.calm C.nd h2) (fun s H C' cl fp => snd_sF ifs C.blk h5 h6) (fun s H C' cl fp => (snd_sE a C.blk h7).1) (notSet_eq h4))
    have z : lcEv (evi c it) (lcB tg (evf c ifs) (ev c false a)) m = ev c false (.lc m a tg it ifs) := by
      funext l st
      simp only [ev, fin_false]
      rfl
    rw [z] at q
    exact q
  · cases h
theorem sSet {K : PySem.W.Frag} {i : Nat} {A : Env → Sto → R Val} {D : Ends} {σ : L2.St} {H : Hp} {W : WX} (h : tS K W (fun l st => (A l st).fl l fun x st => .nx (l.set i (some x)) st) D σ H) : tAsg (tE K W A) (gName i) D σ H := by
  obtain ⟨cf, l, st, hH, hS, q⟩ := h
  exact ⟨cf, l, st, hH, hS, (q.fl hS).mono fun c1 H1 v st1 e1 h1 q1 x rx => q1 c1 H1 _ Ext.refl h1 ((hS.mono e1).set rx)⟩
end
section
variable {c : Cn} {lv : Nat}
mutual
theorem snd_sS : ∀ (s : Sm) {k : Ck} {X : Cx} {W : WX}, CkS k X W c lv → ∀ {p : Stmt}, mS k s p = true → PS X p (tS X.K W (evS c s))
  | .set i e, k, X, W, C, p, h => by
    simp only [mS] at h
    split at h
    · rename_i x px e' pos
      simp only [Bool.and_eq_true, Bool.or_eq_true, decide_eq_true_eq] at h
      obtain ⟨⟨⟨⟨h1, h2⟩, h3⟩, h4⟩, h5⟩ := h
      have fnx := hfn C.E.fn C.E.sc (by simpa using h5 : (k.fn x || decide (k.sc.names.lookup x = some .local)) = true)
      refine ps_eq (g := fun l st => (ev c false e l st).fl l fun x st => .nx (l.set i (some x)) st) ?_ fun l st => by simp only [evS]
      rcases h4 with (h4 | h4) | h4
      · exact (ps_set (by rw [C.E.N]; exact C.E.nd) (by rw [C.E.N]; exact h1) (C.E.loc h2) (snd_sE e C.E h3).1 (notComp_sw h4) fnx).imp fun D σ H q => sSet q
      · cases e' with
        | ListComp a' g' s' q' =>
          cases e with
          | lc m a tg it ifs => exact (ps_setLcG C h1 h3 h4).imp fun D σ H q => sSet q
          | isi a kc => simp only [mE, callN] at h3; cases h3
          | blt f es => simp only [mE, callN] at h3; cases h3
          | mkl f es => simp only [mE, callN] at h3; cases h3
          | cal f es ks => simp only [mE, callN] at h3; cases h3
          | app f es => simp only [mE, methN] at h3; cases h3
          | ext f es => simp only [mE, methN] at h3; cases h3
          | _ => simp only [mE] at h3; cases h3
        | _ => cases h4
      · exact (ps_set (by rw [C.E.N]; exact C.E.nd) (by rw [C.E.N]; exact h1) (C.E.loc h2) (snd_sE e C.E h3).1 (notLoc_sw (by rw [C.E.sc]; exact h4)) fnx).imp fun D σ H q => sSet q
    · cases h
  | .asg tg e, k, X, W, C, p, h => by
    simp only [mS] at h
    split at h
    · rename_i tg' e' pos
      simp only [Bool.and_eq_true] at h
      obtain ⟨⟨⟨⟨h1, h2⟩, h3⟩, h4⟩, h5⟩ := h
      cases tg' with
      | Tuple elts kk tpos =>
        refine (ps_asg (snd_sE e C.E h5).1 (mTg_ok C.E.N C.E.sc C.E.fn C.E.calm C.E.nd h2) (notComp_sole h4) (notTup_sw h3)).imp fun D σ H ⟨cf, l, st, hH, hS, q⟩ => ?_
        simp only [evS] at q
        refine ⟨cf, l, st, hH, hS, (q.fl hS).mono fun c1 H1 v st1 e1 h1' q1 x rx => ?_⟩
        split at q1
        · rename_i l1 et
          exact gTg_ok h1' (hS.mono e1) rx et fun σ' hS' _ => q1 c1 H1 _ Ext.refl h1' hS'
        · exact q1.elim
      | _ => cases h1
    · cases h
  | .aug i o e, k, X, W, C, p, h => by
    simp only [mS] at h
    split at h
    · rename_i x px o' e' pos
      simp only [Bool.and_eq_true, Bool.or_eq_true, decide_eq_true_eq] at h
      obtain ⟨⟨⟨⟨⟨h1, h2⟩, rfl⟩, h3⟩, h4⟩, h5⟩ := h
      have fnx := hfn C.E.fn C.E.sc (by simpa using h5 : (k.fn x || decide (k.sc.names.lookup x = some .local)) = true)
      refine (ps_aug (ti := fun x y H Q => ∃ i j n, x = .int i ∧ y = .int j ∧ opI o i j = some n ∧ Q (.int n) H) (by rw [C.E.N]; exact C.E.nd) (by rw [C.E.N]; exact h1) (C.E.loc h2) (snd_sE e C.E h3).1 (fun pins s σ H x y v u Q I rx ry ⟨i, j, n, e1, e2, e3, q⟩ => ?_) fnx).imp fun D σ H ⟨cf, l, st, hH, hS, q⟩ => ?_
      · subst e1
        subst e2
        exact augR h4 e3 I rx ry q
      · simp only [evS] at q
        split at q
        · rename_i v ev'
          obtain ⟨x', q1, q2⟩ := hS.2 i v ev'
          refine ⟨x', q1, cf, l, st, hH, hS, (q.fl hS).mono fun c1 H1 w st1 e1 h1' q3 y ry => ?_⟩
          split at q3
          · rename_i a b
            split at q3
            · rename_i n en
              cases q2
              cases ry
              exact ⟨a, b, n, rfl, rfl, en, q3 c1 H1 _ Ext.refl h1' ((hS.mono e1).set (.int _))⟩
            · exact q3.elim
          · exact q3.elim
        · exact q.elim
    · cases h
  | .setI a i e, k, X, W, C, p, h => by
    simp only [mS] at h
    split at h
    · rename_i a' i' ipos e' pos
      simp only [Bool.and_eq_true] at h
      obtain ⟨⟨⟨⟨h1, h2⟩, h3⟩, h4⟩, h5⟩ := h
      refine (ps_asg (snd_sE e C.E h3).1 (pg_sub (snd_sE a C.E h4).1 (snd_sE i C.E h5).1 set_list (notSl_assign h1)) (notComp_sole h2) (by cases e' <;> rfl)).imp fun D σ H ⟨cf, l, st, hH, hS, q⟩ => ?_
      simp only [evS] at q
      refine ⟨cf, l, st, hH, hS, (q.fl hS).mono fun c1 H1 v st1 e1 h1' q1 x rx => ?_⟩
      have hS1 := hS.mono e1
      refine ⟨c1, l, st1, h1', hS1, (q1.fl hS1).mono fun c2 H2 o st2 e2 h2' q2 y ry => ?_⟩
      have hS2 := hS1.mono e2
      refine ⟨c2, l, st2, h2', hS2, (q2.fl hS2).mono fun c3 H3 j st3 e3 h3' q3 z rz => ?_⟩
      split at q3
      · rename_i st' es
        unfold setIEv at es
        split at es
        · rename_i n lo jj em
          split at es
          · rename_i ix ei
            cases es
            obtain ⟨b, vs, z1, z2, z3, z4, z5⟩ := h3'.mlist (ry.mono e3) em
            cases rz
            subst z1
            have rx3 := (rx.mono e2).mono e3
            obtain ⟨e4, h4'⟩ := h3'.put z2 z3 (z5.set rx3 ix)
            exact ⟨b, vs, jj, ix, rfl, rfl, z4, by rw [z5.length]; exact ei, q3 c3 _ _ e4 h4' ((hS2.mono e3).mono e4)⟩
          · cases es
        · cases es
      · exact q3.elim
    · cases h
  | .exp e, k, X, W, C, p, h => by
    simp only [mS] at h
    split at h
    · rename_i e' pos
      simp only [Bool.and_eq_true] at h
      refine (ps_expr (snd_sE e C.E h.2).1 (notComp_sw h.1)).imp fun D σ H ⟨cf, l, st, hH, hS, q⟩ => ?_
      simp only [evS] at q
      exact ⟨cf, l, st, hH, hS, (q.fl hS).mono fun c1 H1 v st1 e1 h1' q1 x rx => q1 c1 H1 _ Ext.refl h1' (hS.mono e1)⟩
    · cases h
  | .ret e, k, X, W, C, p, h => by
    simp only [mS] at h
    split at h
    · rename_i e' pos
      refine (ps_ret (snd_sE e C.E h).1).imp fun D σ H ⟨cf, l, st, hH, hS, q⟩ => ?_
      simp only [evS] at q
      exact ⟨cf, l, st, hH, hS, (q.fl hS).mono fun c1 H1 v st1 e1 h1' q1 x rx => q1 c1 H1 _ Ext.refl h1' rx⟩
    · cases h
  | .retN, k, X, W, C, p, h => by
    simp only [mS] at h
    split at h
    · refine ps_retN.imp fun D σ H ⟨cf, l, st, hH, hS, q⟩ => ?_
      simp only [evS] at q
      exact q cf H _ Ext.refl hH .non
    · cases h
  | .ife d a b, k, X, W, C, p, h => by
    simp only [mS] at h
    split at h
    · rename_i d' a' b' pos
      simp only [Bool.and_eq_true] at h
      obtain ⟨⟨h1, h2⟩, h3⟩ := h
      refine (ps_if (snd_sE d C.E h1).2 (snd_sSs a C h2) (snd_sSs b C h3)).imp fun D σ H ⟨cf, l, st, hH, hS, q⟩ => ?_
      simp only [evS] at q
      refine ⟨cf, l, st, hH, hS, (q.fl hS).mono fun c1 H1 v st1 e1 h1' q1 => ?_⟩
      split at q1
      · exact ⟨true, rfl, iteT ⟨c1, l, st1, h1', hS.mono e1, q1⟩⟩
      · exact ⟨false, rfl, iteF ⟨c1, l, st1, h1', hS.mono e1, q1⟩⟩
      · exact q1.elim
    · cases h
  | .for' tg it b, k, X, W, C, p, h => by
    simp only [mS] at h
    split at h
    · rename_i tg' it' b' pos
      simp only [Bool.and_eq_true] at h
      obtain ⟨⟨⟨⟨h1, h2⟩, h3⟩, h4⟩, h5⟩ := h
      exact ps_eq (ps_forG C.own C.E.calm (snd_sI it C.E h2 h5) (mTg_ok C.E.N C.E.sc C.E.fn C.E.calm C.E.nd h1) (snd_sSs b C h4) h3) fun l st => by simp only [evS]
    · cases h
  | .whl d b, k, X, W, C, p, h => by
    simp only [mS] at h
    split at h
    · rename_i d' b' pos
      simp only [Bool.and_eq_true] at h
      exact ps_eq (ps_whG wfuel C.own (snd_sE d C.E h.1).2 (snd_sSs b C h.2)) fun l st => by simp only [evS]
    · cases h
  | .brk, k, X, W, C, p, h => by
    simp only [mS] at h
    split at h
    · exact ps_break.imp fun D σ H ⟨cf, l, st, hH, hS, q⟩ => by
        simp only [evS] at q
        exact q cf H σ Ext.refl hH hS
    · cases h
  | .cnt, k, X, W, C, p, h => by
    simp only [mS] at h
    split at h
    · exact ps_continue.imp fun D σ H ⟨cf, l, st, hH, hS, q⟩ => by
        simp only [evS] at q
        exact q cf H σ Ext.refl hH hS
    · cases h
  | .pas, k, X, W, C, p, h => by
    simp only [mS] at h
    split at h
    · exact ps_pass.imp fun D σ H ⟨cf, l, st, hH, hS, q⟩ => by
        simp only [evS] at q
        exact q cf H σ Ext.refl hH hS
    · cases h
  | .try' b, k, X, W, C, p, h => by
    simp only [mS] at h
    split at h
    · rename_i b' h0 hs pos
      refine (ps_try_thru0 (snd_sSs b C.nox h)).imp fun D σ H ⟨cf, l, st, hH, hS, q⟩ => ?_
      simp only [evS] at q
      refine ⟨cf, l, st, hH, hS, ?_⟩
      cases eB : evSs c b l st with
      | exn x l' st' =>
        rw [eB] at q
        exact q.elim
      | _ =>
        rw [eB] at q
        exact q
    · cases h
  | .frz i, k, X, W, C, p, h => by
    simp only [mS] at h
    cases h
theorem snd_sSs : ∀ (ss : List Sm) {k : Ck} {X : Cx} {W : WX}, CkS k X W c lv → ∀ {ps : List Stmt}, mSs k ss ps = true → PSs X ps (tS X.K W (evSs c ss))
  | [], k, X, W, C, ps, h => by
    simp only [mSs] at h
    cases ps with
    | nil =>
      exact pss_nil.imp fun D σ H ⟨cf, l, st, hH, hS, q⟩ => by
        simp only [evSs] at q
        exact q cf H σ Ext.refl hH hS
    | cons _ _ => cases h
  | s :: ss, k, X, W, C, ps, h => by
    by_cases hz : ∃ i, s = .frz i
    · obtain ⟨i, rfl⟩ := hz
      simp only [mSs] at h
      refine (snd_sSs ss C h).imp fun D σ H ⟨cf, l, st, hH, hS, q⟩ => ?_
      simp only [evSs, evS] at q
      cases eF : frzEv i l st with
      | nx l' st' =>
        rw [eF] at q
        obtain ⟨c', e1, h1, s1⟩ := frz_ok hH hS eF
        exact ⟨c', l', st', h1, s1, RunF.from e1 q⟩
      | stuck =>
        rw [eF] at q
        exact q.elim
      | _ =>
        unfold frzEv at eF
        split at eF
        · split at eF
          · split at eF <;> cases eF
          · cases eF
        · cases eF
    · cases ps with
      | nil =>
        exfalso
        cases s with
        | frz i => exact hz ⟨i, rfl⟩
        | _ =>
          simp only [mSs] at h
          cases h
      | cons p ps =>
        have h2 : mS k s p = true ∧ mSs k ss ps = true := by
          cases s with
          | frz i => exact absurd ⟨i, rfl⟩ hz
          | _ =>
            simp only [mSs, Bool.and_eq_true] at h
            exact h
        refine (pss_cons (snd_sS s C h2.1) (snd_sSs ss C h2.2)).imp fun D σ H ⟨cf, l, st, hH, hS, q⟩ => ?_
        simp only [evSs] at q
        refine ⟨cf, l, st, hH, hS, ?_⟩
        cases eS : evS c s l st with
        | nx l1 st1 =>
          rw [eS] at q
          exact fun c1 H1 σ1 e1 h1 s1 => ⟨c1, l1, st1, h1, s1, RunF.from e1 q⟩
        | _ =>
          rw [eS] at q
          exact q
end
end
end Pv

set_option Elab.async false
set_option linter.all false
set_option maxRecDepth 100000
set_option maxHeartbeats 1000000
namespace Pv
open PySem PySem.Spec PyProof.Rows L2 RZ
/-! ### defs -/
section
variable {K : PySem.W.Frag} {c : Cf} {H : Hp} {st : Sto}
mutual
theorem Rep.blw {v : V} {d : Val} (h : Rep K c v d) : belowV c.φ.length d = true := by
  cases h with
  | tup h1 h2 =>
    simp only [belowV]
    exact Reps.blw h2
  | lst h1 h2 =>
    simp only [belowV]
    exact Reps.blw h2
  | ref h1 =>
    simp only [belowV, decide_eq_true_eq]
    exact (List.getElem?_eq_some_iff.mp h1).1
  | _ => simp only [belowV]
termination_by sizeOf d
theorem Reps.blw {vs : List V} {l : List Val} (h : Reps K c vs l) : belowVs c.φ.length l = true := by
  cases h with
  | nil => simp only [belowVs]
  | cons h1 h2 =>
    simp only [belowVs, Bool.and_eq_true]
    exact ⟨Rep.blw h1, Reps.blw h2⟩
termination_by sizeOf l
end
theorem take_get {α : Type} {l : List α} {n k : Nat} (h : k < n) : (l.take n)[k]? = l[k]? := by rw [List.getElem?_take, if_pos h]
mutual
theorem Rep.cut {v : V} {d : Val} (n : Nat) (hb : belowV n d = true) (h : Rep K c v d) : Rep K ⟨c.F, c.φ.take n⟩ v d := by
  cases h with
  | non => exact .non
  | bl b => exact .bl b
  | int i => exact .int i
  | str s => exact .str s
  | tup h1 h2 =>
    simp only [belowV] at hb
    exact .tup h1 (Reps.cut n hb h2)
  | lst h1 h2 =>
    simp only [belowV] at hb
    exact .lst h1 (Reps.cut n hb h2)
  | scr h1 => exact .scr h1
  | ref h1 =>
    simp only [belowV, decide_eq_true_eq] at hb
    exact .ref (by show (c.φ.take n)[_]? = _; rw [take_get hb]; exact h1)
termination_by sizeOf d
theorem Reps.cut {vs : List V} {l : List Val} (n : Nat) (hb : belowVs n l = true) (h : Reps K c vs l) : Reps K ⟨c.F, c.φ.take n⟩ vs l := by
  cases h with
  | nil => exact .nil
  | cons h1 h2 =>
    simp only [belowVs, Bool.and_eq_true] at hb
    exact .cons (Rep.cut n hb.1 h1) (Reps.cut n hb.2 h2)
termination_by sizeOf l
end
theorem take_prefix {α : Type} {l m : List α} (h : l <+: m) : m.take l.length = l := by
  obtain ⟨t, rfl⟩ := h
  simp
/-- a call is left: its own lists are forgotten -/
theorem leave_ok {W : WX} {σ : L2.St} {v : Val} {st' : Sto} {Q : VK} (hH : RelH K c H st) (q : Run K W c σ H (leave st v st') (fun c' H' v _ => ∀ x, Rep K c' x v → Q x H')) {c' : Cf} {H' : Hp} {x : V} (e : Ext c H c' H') (h : RelH K c' H' st') (r : Rep K c' x v) : Q x H' := by
  unfold leave at q
  split at q
  · rename_i hb
    obtain ⟨hb, ho⟩ := hb
    have hl : c'.φ.take st.length = c.φ := by rw [← hH.len]; exact take_prefix e.φ
    have hn : st.length ≤ st'.length := by
      have h1 := e.φ.length_le
      rw [hH.len, h.len] at h1
      exact h1
    have r' : Rep K ⟨c'.F, c'.φ.take st.length⟩ x v := r.cut _ hb
    rw [hl] at r'
    refine q ⟨c'.F, c.φ⟩ H' ⟨e.F, List.prefix_refl _, fun a o z n => ⟨(e.fr a o z n).1, n⟩, e.nf⟩ ⟨h.sub, by show c.φ.length = _; rw [List.length_take, hH.len]; omega, hH.nd, fun a m => h.all a (e.φ.subset m), fun k l z => ?_⟩ x r'
    have hk : k < st.length := by
      have := (List.getElem?_eq_some_iff.mp z).1
      rw [List.length_take] at this
      omega
    rw [take_get hk] at z
    obtain ⟨a, vs, q1, q2, q3, q4⟩ := h.obs k l z
    have bl : belowVs st.length l = true := by
      rcases ho k hk with z' | ⟨o, z', zb⟩
      · rw [z] at z'
        obtain ⟨_, _, _, _, _, p4⟩ := hH.obs k l z'.symm
        have := p4.blw
        rw [hH.len] at this
        exact this
      · rw [z] at z'
        cases z'
        exact zb
    have q4' := q4.cut _ bl
    rw [hl] at q4'
    refine ⟨a, vs, ?_, q2, q3, q4'⟩
    rw [← hl]
    show (c'.φ.take st.length)[k]? = _
    rw [take_get hk]
    exact q1
  · exact q c' H' e h x r
theorem start_ok {N : List Str} {d : Fd} (hN : N = d.N) {vs : List V} {args : List Val} (r : Reps K c vs args) : RelS K c (L2.start N vs) (frameOf d args) := by
  have hl := r.length
  subst hN
  refine ⟨by unfold L2.start frameOf; rw [List.length_append, List.length_append, List.length_map, List.length_map, List.length_replicate, List.length_replicate, hl], fun i v e => ?_⟩
  unfold frameOf at e
  by_cases hi : i < args.length
  · rw [List.getElem?_append_left (by simpa using hi), List.getElem?_map] at e
    cases ea : args[i]? with
    | none => rw [ea] at e; cases e
    | some a =>
      rw [ea] at e
      cases e
      obtain ⟨x, e1, e2⟩ := r.get ea
      refine ⟨x, ?_, e2⟩
      unfold L2.start
      rw [List.getElem?_append_left (by rw [List.length_map, hl]; exact hi), List.getElem?_map, e1]
      rfl
  · rw [List.getElem?_append_right (by simpa using hi), List.getElem?_replicate] at e
    split at e <;> cases e
end
/-- the module stands: each def of T is the text's, the built-in names are free, the globals are told -/
structure ModOk (K : PySem.W.Frag) (mg : Str → Option Value) (T : List Fd) (G : List (Str × Val)) : Prop where
  blt : ∀ x ∈ bnames, mg x = none
  glo : ∀ (i : Nat) (p : Str × Val), G[i]? = some p → ∃ u V, mg p.1 = some u ∧ RelV V u ∧ ∀ cf, Rep K cf V p.2
  fns : ∀ (i : Nat) (d : Fd), T[i]? = some d → ∃ a fd qual params body scope kws, mg d.name = some (.ref a) ∧ FunD K d.name qual params body scope [] kws a fd ∧ mF T G d params body scope = true
structure FnAt0 (P : Program) (w : World) (K : PySem.W.Frag) (mg : Str → Option Value) (base : Heap) (lv : Nat) (call : CallT) (i : Nat) (d : Fd) : Prop where
  ex : ∃ a fd, mg d.name = some (.ref a) ∧ (∃ oc od osl, K.lookup a = some ⟨oc, od, .func fd, osl⟩) ∧ PySem.W.keepIn K (.ref a) = true ∧ FnOk P w K mg base (L2.CX P w) lv a fd (d.N.take d.ps) (spC K call i (d.N.take d.ps).length) ∧
    ∀ (s : Shared) (us vs : List Value) (l : List (Str × Value)), us.length ≤ (d.N.take d.ps).length → (∀ p ∈ l, p.1 ∈ d.N.take d.ps) → (l.map (·.1)).Nodup → (∀ p ∈ l, ((d.N.take d.ps).zip us).lookup p.1 = none) → vs.length = (d.N.take d.ps).length →
      (∀ p ∈ (d.N.take d.ps).zip vs, ((d.N.take d.ps).zip us ++ l).lookup p.1 = some p.2) → BindsTo s fd ⟨us, l⟩ ((d.N.take d.ps).zip vs)
  nd : d.N.Nodup
  le : d.ps ≤ d.N.length
theorem FnOk.zero {P : Program} {w : World} {K : PySem.W.Frag} {mg : Str → Option Value} {base : Heap} {CX : CXT} {k : Nat} {f : Addr} {fd : FuncData} {ps : List Str} {sp : Sp} (h : ∀ vs H Q E, ¬ sp vs H Q E) : FnOk P w K mg base CX k f fd ps sp :=
  ⟨fun vs H Q E q => absurd q (h _ _ _ _), fun A outer s H args us vs Q E _ _ _ _ q => absurd q (h _ _ _ _)⟩
theorem scopeB_ok {N : List Str} {n : Nat} {sc : Scope} (h : scopeB N n sc = true) : FnScope N (N.take n) sc ∧ n ≤ N.length := by
  simp only [scopeB, Bool.and_eq_true, decide_eq_true_eq, Bool.not_eq_true'] at h
  obtain ⟨⟨⟨⟨⟨⟨h1, h2⟩, h3⟩, h4⟩, h5⟩, h6⟩, h7⟩ := h
  refine ⟨⟨?_, h2, h3, h4, ?_, fun x m => ?_, fun y m => ?_⟩, h5⟩
  · split at h1
    · assumption
    · cases h1
  · rw [List.length_take, Nat.min_eq_left h5]
  · have := List.all_eq_true.mp h6 x m
    simp only [locB, Bool.or_eq_true, decide_eq_true_eq] at this
    exact this
  · have := List.all_eq_true.mp h7 y m
    intro z
    rw [z] at this
    cases this
theorem fnAt_all {P : Program} {w : World} {K : PySem.W.Frag} {mg : Str → Option Value} {base : Heap} {T : List Fd} {G : List (Str × Val)} (M : ModOk K mg T G) : ∀ (n i : Nat) (d : Fd), T[i]? = some d → FnAt0 P w K mg base n (runF T G n) i d := by
  intro n
  induction n with
  | zero =>
    intro i d hd
    obtain ⟨a, fd, qual, params, body, scope, kws, e1, F, hm⟩ := M.fns i d hd
    simp only [mF, Bool.and_eq_true] at hm
    obtain ⟨⟨h1, h2⟩, h3⟩ := hm
    obtain ⟨S, hle⟩ := scopeB_ok h1
    have lkF : ∃ oc od osl, K.lookup a = some ⟨oc, od, .func fd, osl⟩ := by
      obtain ⟨oc, od, dV, kV, doc, pm, an, cdv, ct, osl, _, lk, _, _, _⟩ := F.ex
      exact ⟨oc, od, osl, lk⟩
    refine ⟨⟨a, fd, e1, lkF, F.kp, FnOk.zero fun vs H Q E q => ?_, ?_⟩, S.nd, hle⟩
    · obtain ⟨_, c, args, st, σ, _, _, q⟩ := q
      exact q
    · obtain ⟨as, rfl, ha⟩ := argsB_ok h2
      obtain ⟨oc, od, dV, kV, doc, pm, an, cdv, ct, osl, rfl, lk, hcd, hD, hK⟩ := F.ex
      rcases hD with ⟨_, rfl⟩ | ⟨e, _⟩
      · exact fun s us vs l p1 p2 p3 p4 p5 p6 => .of_eq (bind_gen ha p1 p2 p3 p4 p5 p6)
      · exact absurd rfl e
  | succ n ih =>
    intro i d hd
    obtain ⟨a, fd, qual, params, body, scope, kws, e1, F, hm⟩ := M.fns i d hd
    simp only [mF, Bool.and_eq_true] at hm
    obtain ⟨⟨h1, h2⟩, h3⟩ := hm
    obtain ⟨S, hle⟩ := scopeB_ok h1
    have lkF : ∃ oc od osl, K.lookup a = some ⟨oc, od, .func fd, osl⟩ := by
      obtain ⟨oc, od, dV, kV, doc, pm, an, cdv, ct, osl, _, lk, _, _, _⟩ := F.ex
      exact ⟨oc, od, osl, lk⟩
    refine ⟨⟨a, fd, e1, lkF, F.kp, ?_, ?_⟩, S.nd, hle⟩
    · refine F.ok S (fun vs H Q E q => q.1) fun cdv A outer s H vs Q E hr hsp => ?_
      obtain ⟨hlen, c, args, st, σ, hH, hR, q⟩ := hsp
      have C : CkS ⟨d.N, scope, fun _ => true, T, G⟩ (cxOf (L2.CX P w) P w K mg base d.N qual scope a cdv A outer s H E) (fun cls d _ H => E cls d H) ⟨runF T G n, G⟩ n :=
        ⟨⟨rfl, rfl, rfl, rfl, S.nd, takes_of rfl rfl rfl rfl, hr, M.blt, rfl, M.glo, fun j dj hj => by
          obtain ⟨⟨a', fd', y1, _, y2, y3, y4⟩, x2, x3⟩ := ih j dj hj
          exact ⟨⟨a', fd', y1, y2, y3, y4⟩, x2, x3⟩⟩, passes_of rfl, S.kind⟩
      refine ⟨_, snd_sSs d.body C h3, c, frameOf d args, st, hH, start_ok rfl hR, ?_⟩
      have q : Run K (fun cls d _ H' => E cls d H') c σ H (callF T ⟨runF T G n, G⟩ i args st) (fun c' H' v _ => ∀ x, Rep K c' x v → Q x H') := q
      unfold callF at q
      simp only [hd] at q
      by_cases hp : args.length = d.ps
      · rw [if_pos hp] at q
        cases eB : evSs ⟨runF T G n, G⟩ d.body (frameOf d args) st with
        | nx l' st' =>
          simp only [eB] at q
          exact fun c' H' σ' e h s => leave_ok hH q e h .non
        | ret v st' =>
          simp only [eB] at q
          exact fun c' H' x e h r => leave_ok hH q e h r
        | exn x l' st' =>
          simp only [eB] at q
          exact fun c' H' σ' cls dd e h s rx => q c' H' cls dd e h rx
        | brk l' st' =>
          simp only [eB] at q
          exact q.elim
        | cnt l' st' =>
          simp only [eB] at q
          exact q.elim
        | stuck =>
          simp only [eB] at q
          exact q.elim
      · rw [if_neg hp] at q
        exact q.elim
    · obtain ⟨as, rfl, ha⟩ := argsB_ok h2
      obtain ⟨oc, od, dV, kV, doc, pm, an, cdv, ct, osl, rfl, lk, hcd, hD, hK⟩ := F.ex
      rcases hD with ⟨_, rfl⟩ | ⟨e, _⟩
      · exact fun s us vs l p1 p2 p3 p4 p5 p6 => .of_eq (bind_gen ha p1 p2 p3 p4 p5 p6)
      · exact absurd rfl e
end Pv

set_option Elab.async false
set_option linter.all false
set_option maxRecDepth 100000
set_option maxHeartbeats 1000000
namespace Pv
open PySem PySem.Spec PyProof.Rows L2 RZ
/-! ### the head -/
/-- the top's defs by name -/
def defIn : List Stmt → Str → Option (Arguments × List Stmt × Scope)
  | [], _ => none
  | .FunctionDef n a b _ _ _ sc _ _ _ :: r, x => if n = x then some (a, b, sc) else defIn r x
  | _ :: r, x => defIn r x
def dOf (body : List Stmt) (d : Fd) : He.DefD := match defIn body d.name with
  | some (a, b, sc) => ⟨(d.name, none), d.name, d.name, a, b, sc, [], []⟩
  | none => ⟨(d.name, none), d.name, d.name, ⟨[], [], none, [], [], none, []⟩, [], ⟨.function, [], false, false, []⟩, [], []⟩
def boundOf : List Stmt → List Str
  | [] => []
  | .FunctionDef n _ _ _ _ _ _ _ _ _ :: r => n :: boundOf r
  | .ClassDef n _ _ _ _ _ _ _ _ _ _ :: r => n :: boundOf r
  | .Assign [.Name x _] _ _ :: r => x :: boundOf r
  | _ :: r => boundOf r
def looseOf (body : List Stmt) : List Str := (boundOf body).filter fun x => !(x == ("law" : Str)) && !(x == ("__name__" : Str))
/-- the text is T's -/
def textB (T : List Fd) (G : List (Str × Val)) (body : List Stmt) : Bool := T.all fun d => mF T G d (dOf body d).params (dOf body d).body (dOf body d).scope
def fnOf (T : List Fd) (body : List Stmt) : List He.DefD := T.map (dOf body)
def faOf (T : List Fd) : List He.Fa := T.map (fun d => .glo d.name) ++ bnames.map .free
theorem dOf_at {body : List Stmt} {d : Fd} : (dOf body d).at_ = (d.name, none) ∧ (dOf body d).name = d.name ∧ (dOf body d).dfl = [] := by
  unfold dOf
  split <;> exact ⟨rfl, rfl, rfl⟩
theorem says_facts {fa : List He.Fa} {fn : List He.DefD} {K : PySem.W.Frag} (c : He.SaysD fa fn K) {f : He.Fa} (h : f ∈ fa) : f.ok K = true := by
  obtain ⟨i, hi, e⟩ := List.mem_iff_getElem.mp h
  exact c.fact i (f := f) (by rw [List.getElem?_eq_getElem hi, e])
theorem says_defs {fa : List He.Fa} {fn : List He.DefD} {K : PySem.W.Frag} (c : He.SaysD fa fn K) {d : He.DefD} (h : d ∈ fn) : ∃ fd, FunD K d.name d.qual d.params d.body d.scope (d.dvs K) (d.kws K) (He.fAd K d.at_) fd := by
  obtain ⟨i, hi, e⟩ := List.mem_iff_getElem.mp h
  exact c.def_ i (d := d) (by rw [List.getElem?_eq_getElem hi, e])
theorem modOk_of {T : List Fd} {G : List (Str × Val)} {body : List Stmt} {K : PySem.W.Frag} {h : Heap} {mg : Str → Option Value} (ht : textB T G body = true) (X : K.In h) (N : h.Ns mainGlobals mg) (c : He.SaysD (faOf T) (fnOf T body) K)
    (hG : ∀ (i : Nat) (p : Str × Val), G[i]? = some p → ∃ u V, mg p.1 = some u ∧ RelV V u ∧ ∀ cf, Rep K cf V p.2) : ModOk K mg T G where
  blt := fun x hx => He.free_ok X N (says_facts c (List.mem_append_right _ (List.mem_map_of_mem hx)))
  glo := hG
  fns := fun i d hd => by
    have m : d ∈ T := List.mem_of_getElem? hd
    obtain ⟨e1, e2, e3⟩ := dOf_at (body := body) (d := d)
    obtain ⟨fd, F⟩ := says_defs c (d := dOf body d) (List.mem_map_of_mem m)
    have g := He.glo_ok X N (says_facts c (List.mem_append_left _ (List.mem_map_of_mem (f := fun d : Fd => He.Fa.glo d.name) m)))
    have ed : (dOf body d).dvs K = [] := by
      unfold He.DefD.dvs
      rw [e3]
      rfl
    rw [ed, e2] at F
    have ea : He.fAd K (dOf body d).at_ = He.ga K d.name := by
      rw [e1]
      rfl
    rw [ea] at F
    exact ⟨_, fd, _, _, _, _, _, g, F, List.all_eq_true.mp ht d m⟩
/-- whatever the world is -/
def CXw (P : Program) : CXT := fun outer H s E u s' => ∃ w, L2.CX P w outer H s E u s'
theorem FnOk.toW {P : Program} {w : World} {K : PySem.W.Frag} {mg : Str → Option Value} {base : Heap} {k : Nat} {f : Addr} {fd : FuncData} {ps : List Str} {sp : Sp} (F : FnOk P w K mg base (L2.CX P w) k f fd ps sp) : FnOk P w K mg base (CXw P) k f fd ps sp :=
  ⟨F.len, fun A outer s H args us vs Q E hr he hb hv hs => codeAny_mono (F.run A outer s H args us vs Q E hr he hb hv hs) fun r s' q => by
    cases r with
    | ok fl =>
      cases fl with
      | ret u => exact q
      | _ => exact q.elim
    | error e => exact ⟨w, q⟩⟩
theorem walk_pv {l : PySem.W.OpenLaw} {n k i m : Nat} {q : Program} {loose : List Str} {T : List Fd} {G : List (Str × Val)} {body : List Stmt} {dl : Fd} {d : DefRec} {x : Str}
    (hn : l.most = some n) (hn2 : n ≤ sizeLine) (hdf : d.params.defaults = []) (hr : Room k callerA) (ht : textB T G body = true) (hT : T[i]? = some dl) (hps : dl.N.take dl.ps = [x]) (hname : d.name = dl.name) (hG : G = [])
    (hL : ∀ ns : List Int, ns.length ≤ n → ∃ st, runF T G k i [.scr ns] [] = .ok (.bl true) st) :
    PySem.W.WalkO q loose (PySem.W.XL q []) (He.hookD m (faOf T) (fnOf T body)).says l.row.toRowW d [] (fun f vs => PySem.call f vs) := by
  refine L2.walk_ofE (l := l) (n := n) (k := k) (x := x) (CX := CXw l.prog) hn hn2 hdf hr ?_ ?_
  · intro w mg fa h Y N hmg
    obtain ⟨K, KX, c⟩ := Y
    have M : ModOk K mg T G := modOk_of ht KX N c fun i p hp => by
      rw [hG] at hp
      simp at hp
    rw [hname] at hmg
    obtain ⟨a, fd, e1, lk, kp, F, hb⟩ := (fnAt_all (P := l.prog) (w := w) (base := h) M k i dl hT).ex
    have ea : a = fa := by
      rw [e1] at hmg
      cases hmg
      rfl
    subst ea
    rw [hps] at hb
    refine ⟨K, fd, spC K (runF T G k) i [x].length, KX, fun s u => ?_, fun H a ns hlen hO hS => ?_, fun base _ _ => ?_⟩
    · exact hb s [u] [u] [] (Nat.le_refl _) (fun p hp => by simp at hp) List.nodup_nil (fun p hp => by simp at hp) rfl fun p hp => by
        have e : p = (x, u) := by simpa using hp
        subst e
        simp [List.lookup]
    · refine ⟨rfl, ⟨H, []⟩, [.scr ns], [], [], ⟨Same.refl _, rfl, List.nodup_nil, fun a m => by simp at m, fun n l e => by simp at e⟩, .cons (.scr hS) .nil, ?_⟩
      obtain ⟨st, e⟩ := hL ns hlen
      rw [e]
      intro c' H' _ _ y r
      cases r
      rfl
    · obtain ⟨a', fd', e1', lk', kp', F', hb'⟩ := (fnAt_all (P := l.prog) (w := w) (base := base) M k i dl hT).ex
      have ea : a' = a := by
        rw [e1] at e1'
        cases e1'
        rfl
      subst ea
      obtain ⟨_, _, _, lk⟩ := lk
      obtain ⟨_, _, _, lk'⟩ := lk'
      rw [lk] at lk'
      cases lk'
      rw [hps] at F'
      exact Pv.FnOk.toW F'
  · intro H s e s' ⟨w, _, _, _, _, _, _, _, _, _, _, _, _, z⟩
    exact z
end Pv

set_option Elab.async false
set_option linter.all false
set_option maxRecDepth 100000
namespace Pv
open PySem
/-- def level_of(c, q): slots: 0:c 1:q 2:level -/
def f_level_of : Fd := ⟨"level_of", 2, ["c", "q", "level"], [.set 2 (.bin .fdiv (.bin .add (.blt .abs [.var 0]) (.bin .fdiv (.var 1) (.num 2))) (.var 1)), .ret (.ife (.cmp .ge (.var 0) (.num 0)) (.var 2) (.bin .sub (.num 0) (.var 2)))]⟩
/-- def levels(square, q): slots: 0:square 1:q 2:row 3:c -/
def f_levels : Fd := ⟨"levels", 2, ["square", "q", "row", "c"], [.ret (.blt .tuple [.lc false (.blt .tuple [.lc false (.cal 0 [.var 3, .var 1] []) (.nm 3) (.seq (.var 2)) []]) (.nm 2) (.seq (.var 0)) []])]⟩
/-- def unlevelled(square, q): slots: 0:square 1:q 2:row 3:level -/
def f_unlevelled : Fd := ⟨"unlevelled", 2, ["square", "q", "row", "level"], [.ret (.blt .tuple [.lc false (.blt .tuple [.lc false (.bin .mul (.var 3) (.var 1)) (.nm 3) (.seq (.var 2)) []]) (.nm 2) (.seq (.var 0)) []])]⟩
/-- def half_up(v): slots: 0:v -/
def f_half_up : Fd := ⟨"half_up", 1, ["v"], [.ret (.bin .fdiv (.bin .add (.var 0) (.num 1)) (.num 2))]⟩
/-- def place_bound(n, q): slots: 0:n 1:q 2:r 3:bound 4:m -/
def f_place_bound : Fd := ⟨"place_bound", 2, ["n", "q", "r", "bound", "m"], [.set 2 (.bin .fdiv (.var 1) (.num 2)), .set 3 (.var 2), .set 4 (.num 2), .whl (.cmp .le (.var 4) (.var 0)) [.aug 3 .add (.bin .add (.cal 3 [.var 2] []) (.cal 3 [.bin .add (.var 2) (.cal 3 [.var 2] [])] [])), .set 4 (.bin .mul (.num 2) (.var 4))], .ret (.var 3)]⟩
/-- def stepped(row): slots: 0:row 1:pairs 2:at 3:a 4:b -/
def f_stepped : Fd := ⟨"stepped", 1, ["row", "pairs", "at", "a", "b"], [.set 1 (.lc false (.tup [.idx (.var 0) (.var 2), .idx (.var 0) (.bin .add (.var 2) (.num 1))]) (.nm 2) (.rng [.num 0, .blt .len [.var 0], .num 2]) []), .ret (.blt .tuple [.cat false (.lc false (.bin .add (.var 4) (.bin .fdiv (.bin .sub (.var 3) (.var 4)) (.num 2))) (.tp [3, 4]) (.seq (.var 1)) []) (.lc false (.bin .sub (.var 3) (.var 4)) (.tp [3, 4]) (.seq (.var 1)) [])])]⟩
/-- def stepped_back(row): slots: 0:row 1:half 2:made 3:s 4:d 5:b -/
def f_stepped_back : Fd := ⟨"stepped_back", 1, ["row", "half", "made", "s", "d", "b"], [.set 1 (.bin .fdiv (.blt .len [.var 0]) (.num 2)), .set 2 (.lst true []), .for' (.tp [3, 4]) (.zip (.slc false (.var 0) none (some (.var 1))) (.slc false (.var 0) (some (.var 1)) none)) [.set 5 (.bin .sub (.var 3) (.bin .fdiv (.var 4) (.num 2))), .exp (.ext (.var 2) (.lst false [.bin .add (.var 5) (.var 4), .var 5]))], .ret (.blt .tuple [.var 2])]⟩
/-- def turned(square): slots: 0:square 1:at 2:row -/
def f_turned : Fd := ⟨"turned", 1, ["square", "at", "row"], [.ret (.blt .tuple [.lc false (.blt .tuple [.lc false (.idx (.var 2) (.var 1)) (.nm 2) (.seq (.var 0)) []]) (.nm 1) (.rng [.blt .len [.var 0]]) []])]⟩
/-- def forward(square): slots: 0:square 1:made 2:m 3:row -/
def f_forward : Fd := ⟨"forward", 1, ["square", "made", "m", "row"], [.set 1 (.blt .tuple [.lc false (.blt .tuple [.var 3]) (.nm 3) (.seq (.var 0)) []]), .set 2 (.blt .len [.var 1]), .whl (.cmp .ge (.var 2) (.num 2)) [.set 1 (.cal 9 [.var 1, .var 2] []), .set 1 (.cal 7 [.cal 9 [.cal 7 [.var 1] [], .var 2] []] []), .set 2 (.bin .fdiv (.var 2) (.num 2))], .ret (.var 1)]⟩
/-- def rows_stepped(square, m): slots: 0:square 1:m 2:row -/
def f_rows_stepped : Fd := ⟨"rows_stepped", 2, ["square", "m", "row"], [.ret (.bin .add (.blt .tuple [.lc false (.bin .add (.cal 5 [.slc false (.var 2) none (some (.var 1))] []) (.slc false (.var 2) (some (.var 1)) none)) (.nm 2) (.seq (.slc false (.var 0) none (some (.var 1)))) []]) (.slc false (.var 0) (some (.var 1)) none))]⟩
/-- def rows_stepped_back(square, m): slots: 0:square 1:m 2:row -/
def f_rows_stepped_back : Fd := ⟨"rows_stepped_back", 2, ["square", "m", "row"], [.ret (.bin .add (.blt .tuple [.lc false (.bin .add (.cal 6 [.slc false (.var 2) none (some (.var 1))] []) (.slc false (.var 2) (some (.var 1)) none)) (.nm 2) (.seq (.slc false (.var 0) none (some (.var 1)))) []]) (.slc false (.var 0) (some (.var 1)) none))]⟩
/-- def backward(square): slots: 0:square 1:made 2:m 3:row -/
def f_backward : Fd := ⟨"backward", 1, ["square", "made", "m", "row"], [.set 1 (.blt .tuple [.lc false (.blt .tuple [.var 3]) (.nm 3) (.seq (.var 0)) []]), .set 2 (.num 2), .whl (.cmp .le (.var 2) (.blt .len [.var 1])) [.set 1 (.cal 7 [.cal 10 [.cal 7 [.var 1] [], .var 2] []] []), .set 1 (.cal 10 [.var 1, .var 2] []), .set 2 (.bin .mul (.num 2) (.var 2))], .ret (.var 1)]⟩
/-- def _law_cell(_law_script, _law_k): slots: 0:_law_script 1:_law_k -/
def f_l_cell : Fd := ⟨"_law_cell", 2, ["_law_script", "_law_k"], [.ife (.cmp .lt (.var 1) (.blt .len [.var 0])) [.ret (.idx (.var 0) (.var 1))] [], .ret (.num 0)]⟩
/-- def _law_row(_law_cell_here, _law_many, _law_base, _law_salt): slots: 0:_law_cell_here 1:_law_many 2:_law_base 3:_law_salt 4:_law_row_here 5:_law_left 6:_law_k 7:_law_first 8:_law_second -/
def f_l_row : Fd := ⟨"_law_row", 4, ["_law_cell_here", "_law_many", "_law_base", "_law_salt", "_law_row_here", "_law_left", "_law_k", "_law_first", "_law_second"], [.set 4 (.lst true []), .set 5 (.num 0), .ife (.cmp .ge (.var 0) (.bin .pow (.num 10) (.num 18))) [.set 5 (.var 0)] [], .for' (.nm 6) (.rng [.var 1]) [.ife (.cmp .gt (.var 5) (.num 0)) [.exp (.app (.var 4) (.bin .mod (.blt .int [.var 5]) (.var 2))), .set 5 (.bin .fdiv (.var 5) (.var 2))] [.set 7 (.bin .mod (.blt .int [.bin .add (.bin .add (.bin .mul (.var 0) (.num 48271)) (.bin .mul (.var 6) (.num 69621))) (.var 3)]) (.num 2147483647)), .set 8 (.bin .mod (.blt .int [.bin .add (.bin .add (.bin .mul (.var 7) (.var 7)) (.var 0)) (.bin .mul (.var 6) (.num 40692))]) (.num 2147483629)), .exp (.app (.var 4) (.bin .mod (.blt .int [.bin .fdiv (.bin .add (.bin .mul (.var 8) (.num 2147483647)) (.var 7)) (.num 16)]) (.var 2)))]], .frz 4, .ret (.var 4)]⟩
/-- def _law_bound(_law_n, _law_q): slots: 0:_law_n 1:_law_q 2:_law_r 3:_law_half 4:_law_bound_here 5:_law_m -/
def f_l_bound : Fd := ⟨"_law_bound", 2, ["_law_n", "_law_q", "_law_r", "_law_half", "_law_bound_here", "_law_m"], [.set 2 (.bin .fdiv (.var 1) (.num 2)), .set 3 (.bin .fdiv (.bin .add (.var 2) (.num 1)) (.num 2)), .set 4 (.var 2), .for' (.nm 5) (.seq (.tup [.num 2, .num 4, .num 8])) [.ife (.cmp .le (.var 5) (.var 0)) [.set 4 (.bin .add (.bin .add (.var 4) (.var 3)) (.bin .fdiv (.bin .add (.bin .add (.var 2) (.var 3)) (.num 1)) (.num 2)))] []], .ret (.var 4)]⟩
/-- def _law_step_back(_law_row_here): slots: 0:_law_row_here 1:_law_half 2:_law_back 3:_law_k 4:_law_right -/
def f_l_step_back : Fd := ⟨"_law_step_back", 1, ["_law_row_here", "_law_half", "_law_back", "_law_k", "_law_right"], [.set 1 (.bin .fdiv (.blt .len [.var 0]) (.num 2)), .set 2 (.lst true []), .for' (.nm 3) (.rng [.var 1]) [.set 4 (.bin .sub (.idx (.var 0) (.var 3)) (.bin .fdiv (.idx (.var 0) (.bin .add (.var 1) (.var 3))) (.num 2))), .exp (.app (.var 2) (.bin .add (.var 4) (.idx (.var 0) (.bin .add (.var 1) (.var 3))))), .exp (.app (.var 2) (.var 4))], .frz 2, .ret (.var 2)]⟩
/-- def _law_backward(_law_square): slots: 0:_law_square 1:_law_found 2:_law_m 3:_law_row_here 4:_law_x 5:_law_y 6:_law_back -/
def f_l_backward : Fd := ⟨"_law_backward", 1, ["_law_square", "_law_found", "_law_m", "_law_row_here", "_law_x", "_law_y", "_law_back"], [.set 1 (.lc true (.mkl true (.var 3)) (.nm 3) (.seq (.var 0)) []), .for' (.nm 2) (.seq (.tup [.num 2, .num 4, .num 8])) [.ife (.cmp .le (.var 2) (.blt .len [.var 1])) [.for' (.nm 4) (.rng [.var 2]) [.set 6 (.cal 15 [.lc false (.idx (.idx (.var 1) (.var 5)) (.var 4)) (.nm 5) (.rng [.var 2]) []] []), .for' (.nm 5) (.rng [.var 2]) [.setI (.idx (.var 1) (.var 5)) (.var 4) (.idx (.var 6) (.var 5))]], .for' (.nm 5) (.rng [.var 2]) [.set 6 (.cal 15 [.slc false (.idx (.var 1) (.var 5)) none (some (.var 2))] []), .for' (.nm 4) (.rng [.var 2]) [.setI (.idx (.var 1) (.var 5)) (.var 4) (.idx (.var 6) (.var 4))]]] []], .ret (.blt .tuple [.lc false (.blt .tuple [.var 3]) (.nm 3) (.seq (.var 1)) []])]⟩
/-- def _law_sign(_law_way, _law_y, _law_x, _law_mark): slots: 0:_law_way 1:_law_y 2:_law_x 3:_law_mark 4:_law_half -/
def f_l_sign : Fd := ⟨"_law_sign", 4, ["_law_way", "_law_y", "_law_x", "_law_mark", "_law_half"], [.ife (.cmp .lt (.var 0) (.num 2)) [.ret (.bin .sub (.num 1) (.bin .mul (.num 2) (.var 0)))] [], .ife (.cmp .eq (.var 0) (.num 3)) [.ret (.bin .sub (.num 1) (.bin .mul (.num 2) (.bin .mod (.blt .int [.var 3]) (.num 2))))] [], .set 4 (.num 4), .ife (.and (.cmp .lt (.var 1) (.num 4)) (.cmp .lt (.var 2) (.num 4))) [.set 4 (.num 2)] [], .ife (.and (.cmp .lt (.var 1) (.num 2)) (.cmp .lt (.var 2) (.num 2))) [.set 4 (.num 1)] [], .ret (.bin .sub (.num 1) (.bin .mul (.num 2) (.blt .int [.cmp .ne (.cmp .ge (.var 1) (.var 4)) (.cmp .ge (.var 2) (.var 4))])))]⟩
/-- def _law_coefficient(_law_q, _law_heads, _law_y, _law_x, _law_mark): slots: 0:_law_q 1:_law_heads 2:_law_y 3:_law_x 4:_law_mark 5:_law_r 6:_law_way 7:_law_rests -/
def f_l_coefficient : Fd := ⟨"_law_coefficient", 5, ["_law_q", "_law_heads", "_law_y", "_law_x", "_law_mark", "_law_r", "_law_way", "_law_rests"], [.set 5 (.bin .fdiv (.var 0) (.num 2)), .set 6 (.bin .mod (.blt .int [.idx (.var 1) (.num 3)]) (.num 4)), .set 7 (.lst false [.neg (.var 5), .var 5, .neg (.num 1), .num 0, .bin .sub (.var 5) (.num 1), .bin .sub (.num 1) (.var 5)]), .ife (.cmp .eq (.var 6) (.num 3)) [.ret (.bin .mul (.cal 17 [.var 6, .var 2, .var 3, .var 4] []) (.bin .add (.bin .mul (.var 0) (.bin .mod (.bin .fdiv (.blt .int [.var 4]) (.num 12)) (.num 5))) (.idx (.var 7) (.bin .mod (.bin .fdiv (.blt .int [.var 4]) (.num 2)) (.num 6)))))] [], .ret (.bin .mul (.cal 17 [.var 6, .var 2, .var 3, .var 4] []) (.bin .add (.bin .mul (.var 0) (.bin .add (.num 1) (.bin .mod (.blt .int [.var 4]) (.num 4)))) (.idx (.var 7) (.bin .mod (.blt .int [.idx (.var 1) (.num 4)]) (.num 4)))))]⟩
/-- def _law_number(_law_script, _law_heads): slots: 0:_law_script 1:_law_heads 2:_law_choice -/
def f_l_number : Fd := ⟨"_law_number", 2, ["_law_script", "_law_heads", "_law_choice"], [.set 2 (.bin .mod (.blt .int [.idx (.var 1) (.num 1)]) (.num 8)), .ife (.cmp .eq (.var 2) (.num 0)) [.ret (.num 1)] [], .ife (.cmp .lt (.var 2) (.num 3)) [.ret (.idx (.lst false [.num 2, .num 4, .num 8, .num 16, .num 32, .num 64]) (.bin .mod (.blt .int [.idx (.var 1) (.num 5)]) (.num 6)))] [], .ife (.cmp .lt (.var 2) (.num 6)) [.ret (.bin .add (.num 1) (.idx (.cal 13 [.cal 12 [.var 0, .num 1] [], .num 1, .num 400, .num 17] []) (.num 0)))] [], .ret (.bin .add (.num 1) (.bin .mod (.blt .int [.cal 12 [.var 0, .num 1] []]) (.bin .pow (.num 10) (.num 10))))]⟩
/-- def _law_built(_law_script, _law_heads, _law_n, _law_q): slots: 0:_law_script 1:_law_heads 2:_law_n 3:_law_q 4:_law_choice 5:_law_rows 6:_law_y 7:_law_marks 8:_law_size 9:_law_x 10:_law_mark -/
def f_l_built : Fd := ⟨"_law_built", 4, ["_law_script", "_law_heads", "_law_n", "_law_q", "_law_choice", "_law_rows", "_law_y", "_law_marks", "_law_size", "_law_x", "_law_mark"], [.set 4 (.bin .mod (.blt .int [.idx (.var 1) (.num 2)]) (.num 6)), .set 5 (.lst true []), .for' (.nm 6) (.rng [.var 2]) [.ife (.cmp .gt (.var 4) (.num 2)) [.set 7 (.cal 13 [.cal 12 [.var 0, .bin .add (.num 2) (.var 6)] [], .var 2, .num 60, .bin .add (.num 100) (.var 6)] []), .exp (.app (.var 5) (.blt .tuple [.lc false (.cal 18 [.var 3, .var 1, .var 6, .var 9, .idx (.var 7) (.var 9)] []) (.nm 9) (.rng [.var 2]) []]))] [.set 8 (.idx (.lst false [.num 255, .num 2000, .bin .pow (.num 10) (.num 12)]) (.var 4)), .set 7 (.cal 13 [.cal 12 [.var 0, .bin .add (.num 2) (.var 6)] [], .var 2, .bin .add (.bin .mul (.num 2) (.var 8)) (.num 1), .bin .add (.num 100) (.var 6)] []), .exp (.app (.var 5) (.blt .tuple [.lc false (.bin .sub (.var 10) (.var 8)) (.nm 10) (.seq (.var 7)) []]))]], .ife (.cmp .gt (.var 4) (.num 2)) [.ret (.cal 16 [.var 5] [])] [], .ret (.blt .tuple [.var 5])]⟩
/-- def _law_is_integer(_law_given): slots: 0:_law_given -/
def f_l_is_integer : Fd := ⟨"_law_is_integer", 1, ["_law_given"], [.ret (.and (.isi (.var 0) .int) (.not (.isi (.var 0) .bool)))]⟩
/-- def _law_is_square(_law_given, _law_n): slots: 0:_law_given 1:_law_n 2:_law_row_here 3:_law_member -/
def f_l_is_square : Fd := ⟨"_law_is_square", 2, ["_law_given", "_law_n", "_law_row_here", "_law_member"], [.ife (.or (.not (.isi (.var 0) .tuple)) (.cmp .ne (.blt .len [.var 0]) (.var 1))) [.ret (.bol false)] [], .for' (.nm 2) (.seq (.var 0)) [.ife (.or (.not (.isi (.var 2) .tuple)) (.cmp .ne (.blt .len [.var 2]) (.var 1))) [.ret (.bol false)] [], .for' (.nm 3) (.seq (.var 2)) [.ife (.not (.cal 21 [.var 3] [])) [.ret (.bol false)] []]], .ret (.bol true)]⟩
/-- def _law_within(_law_square, _law_n, _law_q): slots: 0:_law_square 1:_law_n 2:_law_q 3:_law_changed 4:_law_told 5:_law_great 6:_law_back 7:_law_bound_here 8:_law_y 9:_law_x -/
def f_l_within : Fd := ⟨"_law_within", 3, ["_law_square", "_law_n", "_law_q", "_law_changed", "_law_told", "_law_great", "_law_back", "_law_bound_here", "_law_y", "_law_x"], [.set 3 (.cal 8 [.var 0] []), .ife (.not (.cal 22 [.var 3, .var 1] [])) [.ret (.bol false)] [], .set 4 (.cal 1 [.var 3, .var 2] []), .ife (.not (.cal 22 [.var 4, .var 1] [])) [.ret (.bol false)] [], .set 5 (.cal 2 [.var 4, .var 2] []), .ife (.not (.cal 22 [.var 5, .var 1] [])) [.ret (.bol false)] [], .set 6 (.cal 11 [.var 5] []), .ife (.not (.cal 22 [.var 6, .var 1] [])) [.ret (.bol false)] [], .set 7 (.cal 14 [.var 1, .var 2] []), .for' (.nm 8) (.rng [.var 1]) [.for' (.nm 9) (.rng [.var 1]) [.ife (.or (.cmp .ne (.idx (.idx (.var 5) (.var 8)) (.var 9)) (.bin .mul (.var 2) (.idx (.idx (.var 4) (.var 8)) (.var 9)))) (.cmp .gt (.blt .abs [.bin .sub (.idx (.idx (.var 6) (.var 8)) (.var 9)) (.idx (.idx (.var 0) (.var 8)) (.var 9))]) (.var 7))) [.ret (.bol false)] []]], .ret (.bol true)]⟩
/-- def _law_whole(_law_script): slots: 0:_law_script 1:_law_heads 2:_law_n 3:_law_q 4:_law_size 5:_law_square 6:_law_other 7:_law_y 8:_law_bound_here 9:_law_mark -/
def f_l_whole : Fd := ⟨"_law_whole", 1, ["_law_script", "_law_heads", "_law_n", "_law_q", "_law_size", "_law_square", "_law_other", "_law_y", "_law_bound_here", "_law_mark"], [.set 1 (.cal 13 [.cal 12 [.var 0, .num 0] [], .num 6, .num 240, .num 5] []), .set 2 (.idx (.lst false [.num 2, .num 4, .num 8]) (.bin .mod (.blt .int [.idx (.var 1) (.num 0)]) (.num 3))), .set 3 (.cal 19 [.var 0, .var 1] []), .for' (.nm 4) (.seq (.tup [.num 2, .num 4, .num 8])) [.set 8 (.cal 4 [.var 4, .var 3] []), .ife (.or (.not (.cal 21 [.var 8] [])) (.cmp .ne (.var 8) (.cal 14 [.var 4, .var 3] []))) [.ret (.bol false)] []], .set 5 (.cal 20 [.var 0, .var 1, .var 2, .var 3] []), .set 6 (.lst true []), .for' (.nm 7) (.rng [.var 2]) [.exp (.app (.var 6) (.blt .tuple [.lc false (.bin .sub (.var 9) (.num 255)) (.nm 9) (.seq (.cal 13 [.cal 12 [.var 0, .bin .add (.num 10) (.var 7)] [], .var 2, .num 511, .bin .add (.num 200) (.var 7)] [])) []]))], .ife (.or (.not (.cal 23 [.var 5, .var 2, .var 3] [])) (.or (.not (.cal 23 [.blt .tuple [.var 6], .var 2, .var 3] [])) (.not (.cal 23 [.var 5, .var 2, .var 3] [])))) [.ret (.bol false)] [], .set 8 (.cal 4 [] [(1, .var 3), (0, .var 2)]), .ret (.and (.cal 21 [.var 8] []) (.cmp .eq (.var 8) (.cal 14 [.var 2, .var 3] [])))]⟩
/-- def law(_law_script): slots: 0:_law_script -/
def f_law : Fd := ⟨"law", 1, ["_law_script"], [.try' [.ret (.cal 24 [.var 0] [])]]⟩
def tabT : List Fd := [f_level_of, f_levels, f_unlevelled, f_half_up, f_place_bound, f_stepped, f_stepped_back, f_turned, f_forward, f_rows_stepped, f_rows_stepped_back, f_backward, f_l_cell, f_l_row, f_l_bound, f_l_step_back, f_l_backward, f_l_sign, f_l_coefficient, f_l_number, f_l_built, f_l_is_integer, f_l_is_square, f_l_within, f_l_whole, f_law]
def tabG : List (Str × Val) := []
end Pv

set_option Elab.async false
set_option linter.all false
set_option maxRecDepth 100000
/-! Lemmas for the laws: calls, loops, lists of ints. -/
namespace Pv
open PySem
theorem callF_eq {T : List Fd} {G : List (Str × Val)} {n i : Nat} {d : Fd} {args : List Val} {st : Sto} {r : R Val} (hT : T[i]? = some d) (hl : args.length = d.ps)
    (h : (match evSs ⟨runF T G n, G⟩ d.body (frameOf d args) st with
      | .nx _ st' => leave st .non st'
      | .ret v st' => leave st v st'
      | .exn x _ st' => .exn x st'
      | _ => .stuck) = r) : runF T G (n + 1) i args st = r := by
  rw [← h]
  show callF T ⟨runF T G n, G⟩ i args st = _
  unfold callF
  simp only [hT, hl, if_true] <;> rfl
theorem leave_same {st : Sto} {v : Val} : leave st v st = .ok v st := by
  unfold leave
  split
  · rw [List.take_length]
  · rfl
theorem leave_app {st e : Sto} {v : Val} (h : belowV st.length v = true) : leave st v (st ++ e) = .ok v st := by
  unfold leave
  rw [if_pos]
  · simp
  · exact ⟨h, fun i hi => .inl (by rw [List.getElem?_append_left hi])⟩
/-- a call by its body's end -/
theorem call_ret {T : List Fd} {G : List (Str × Val)} {n i : Nat} {d : Fd} {args : List Val} {st e : Sto} {v : Val} (hT : T[i]? = some d) (hl : args.length = d.ps)
    (h : evSs ⟨runF T G n, G⟩ d.body (frameOf d args) st = .ret v (st ++ e)) (hv : belowV st.length v = true) : runF T G (n + 1) i args st = .ok v st :=
  callF_eq hT hl (by rw [h]; exact leave_app hv)
theorem call_ret0 {T : List Fd} {G : List (Str × Val)} {n i : Nat} {d : Fd} {args : List Val} {st : Sto} {v : Val} (hT : T[i]? = some d) (hl : args.length = d.ps)
    (h : evSs ⟨runF T G n, G⟩ d.body (frameOf d args) st = .ret v st) : runF T G (n + 1) i args st = .ok v st :=
  callF_eq hT hl (by rw [h]; exact leave_same)
/-! the store -/
theorem st_get {st e : Sto} (k : Nat) : (st ++ e)[st.length + k]? = e[k]? := by
  rw [List.getElem?_append_right (by omega)]
  congr 1
  omega
theorem st_get0 {st e : Sto} : (st ++ e)[st.length]? = e[0]? := st_get 0
theorem st_set {st e : Sto} {o : Ob} (k : Nat) : (st ++ e).set (st.length + k) o = st ++ e.set k o := by
  rw [List.set_append_right _ _ (by omega)]
  congr 2
  omega
theorem st_set0 {st e : Sto} {o : Ob} : (st ++ e).set st.length o = st ++ e.set 0 o := st_set 0
theorem guard_nil {st : Sto} : guardOk st [] := fun p hp => by simp at hp
theorem guard_one {st : Sto} {n : Nat} {l : List Val} (h : st[n]? = some (.lst l)) : guardOk st [(n, l)] := fun p hp => by
  have e : p = (n, l) := by simpa using hp
  subst e
  exact h
/-! loops -/
theorem forL_inv {body : Env → Sto → Fl} {tg : Tg} {g : List (Nat × List Val)} (P : Nat → Env → Sto → Prop) (hg : ∀ i l st, P i l st → guardOk st g) : ∀ (items : List Val) (k : Nat) (l : Env) (st : Sto), P k l st →
    (∀ i v l st, items[i]? = some v → P (k + i) l st → ∃ l1, tgSet tg v l = some l1 ∧ ∃ l2 st2, body l1 st = .nx l2 st2 ∧ P (k + i + 1) l2 st2) → ∃ l' st', forL body tg g items l st = .nx l' st' ∧ P (k + items.length) l' st'
  | [], k, l, st, h, _ => ⟨l, st, by rw [forL, if_pos (hg _ _ _ h)], h⟩
  | v :: vs, k, l, st, h, hs => by
    obtain ⟨l1, e1, l2, st2, e2, h2⟩ := hs 0 v l st rfl h
    obtain ⟨l', st', e3, h3⟩ := forL_inv P hg vs (k + 1) l2 st2 h2 fun i v l st e h => by
      have := hs (i + 1) v l st (by simpa using e) (by rw [show k + (i + 1) = k + 1 + i by omega]; exact h)
      rw [show k + (i + 1) + 1 = k + 1 + i + 1 by omega] at this
      exact this
    refine ⟨l', st', ?_, by rw [List.length_cons, show k + (vs.length + 1) = k + 1 + vs.length by omega]; exact h3⟩
    rw [forL, if_pos (hg _ _ _ h), e1]
    simp only [e2]
    exact e3
theorem for_inv {body : Env → Sto → Fl} {tg : Tg} {g : List (Nat × List Val)} {items : List Val} {l : Env} {st : Sto} (P : Nat → Env → Sto → Prop) (h0 : P 0 l st) (hg : ∀ i l st, P i l st → guardOk st g)
    (hs : ∀ i v l st, items[i]? = some v → P i l st → ∃ l1, tgSet tg v l = some l1 ∧ ∃ l2 st2, body l1 st = .nx l2 st2 ∧ P (i + 1) l2 st2) : ∃ l' st', forL body tg g items l st = .nx l' st' ∧ P items.length l' st' := by
  obtain ⟨l', st', e, h⟩ := forL_inv P hg items 0 l st h0 fun i v l st e h => by
    rw [Nat.zero_add] at h ⊢
    exact hs i v l st e h
  rw [Nat.zero_add] at h
  exact ⟨l', st', e, h⟩
/-- .. where a turn may end it -/
theorem lcL_map {body : Val → Sto → R (Option Val)} {g : List (Nat × List Val)} {st : Sto} (f : Val → Option Val) (hg : guardOk st g) : ∀ (items acc : List Val), (∀ v ∈ items, body v st = .ok (f v) st) → acc.length + items.length ≤ sizeLine →
    lcL body g items acc st = .ok (acc ++ items.filterMap f) st
  | [], acc, _, _ => by rw [lcL, if_pos hg]; simp
  | v :: vs, acc, h, hz => by
    rw [lcL, if_pos hg, h v List.mem_cons_self]
    rw [List.length_cons] at hz
    cases e : f v with
    | none =>
      simp only
      rw [lcL_map f hg vs acc (fun u hu => h u (List.mem_cons_of_mem _ hu)) (by omega), List.filterMap_cons, e]
    | some x =>
      simp only
      rw [if_pos (by omega), lcL_map f hg vs (acc ++ [x]) (fun u hu => h u (List.mem_cons_of_mem _ hu)) (by rw [List.length_append]; simp; omega), List.filterMap_cons, e]
      simp
/-! lists of ints -/
abbrev iL (l : List Int) : List Val := l.map .int
theorem thaw_ints {st : Sto} : ∀ l : List Int, thawL st (iL l) = some (iL l, [])
  | [] => rfl
  | x :: l => by
    show thawL st (.int x :: iL l) = _
    rw [thawL, thaw_ints l]
    simp [thaw1, pureV]
theorem below_ints (n : Nat) : ∀ l : List Int, belowVs n (iL l) = true
  | [] => rfl
  | x :: l => by
    show belowVs n (.int x :: iL l) = true
    rw [belowVs, below_ints n l]
    rfl
theorem iL_get {l : List Int} {i : Nat} {v : Val} (h : (iL l)[i]? = some v) : ∃ (hi : i < l.length), v = .int l[i] := by
  rw [List.getElem?_map] at h
  cases e : l[i]? with
  | none => rw [e] at h; cases h
  | some x =>
    rw [e] at h
    cases h
    obtain ⟨hi, e⟩ := List.getElem?_eq_some_iff.mp e
    exact ⟨hi, by rw [e]⟩
theorem rngL_get' {lo c : Int} {n i : Nat} {v : Val} (h : (rngL lo c n)[i]? = some v) : i < n ∧ v = .int (lo + (i : Nat) * c) := by
  unfold rngL at h
  rw [List.getElem?_map] at h
  cases e : (List.range n)[i]? with
  | none => rw [e] at h; cases h
  | some x =>
    rw [e] at h
    cases h
    obtain ⟨hi, e⟩ := List.getElem?_eq_some_iff.mp e
    rw [List.length_range] at hi
    rw [List.getElem_range] at e
    subst e
    exact ⟨hi, rfl⟩
theorem rngL_len {lo c : Int} {n : Nat} : (rngL lo c n).length = n := by
  unfold rngL
  rw [List.length_map, List.length_range]
theorem atI_nat {α : Type} {l : List α} {k : Nat} (h : k < l.length) : L2.atI l (k : Int) = some l[k] := by
  unfold L2.atI L2.ixN
  rw [if_pos (by omega)]
  simp [h]
/-! what is wanted behind statements -/
structure Po where
  N : Env → Sto → Prop := fun _ _ => False
  R : Val → Sto → Prop := fun _ _ => False
  B : Env → Sto → Prop := fun _ _ => False
  C : Env → Sto → Prop := fun _ _ => False
def W (r : Fl) (D : Po) : Prop := match r with
  | .nx l st => D.N l st
  | .ret v st => D.R v st
  | .brk l st => D.B l st
  | .cnt l st => D.C l st
  | _ => False
@[simp] theorem W_nx {l : Env} {st : Sto} {D : Po} : W (.nx l st) D = D.N l st := rfl
@[simp] theorem W_ret {l : Val} {st : Sto} {D : Po} : W (.ret l st) D = D.R l st := rfl
@[simp] theorem W_brk {l : Env} {st : Sto} {D : Po} : W (.brk l st) D = D.B l st := rfl
@[simp] theorem W_cnt {l : Env} {st : Sto} {D : Po} : W (.cnt l st) D = D.C l st := rfl
theorem W_nil {c : Cn} {l : Env} {st : Sto} {D : Po} : W (evSs c [] l st) D = D.N l st := by simp only [evSs, W_nx]
theorem W_cons {c : Cn} {s : Sm} {ss : List Sm} {l : Env} {st : Sto} {D : Po} : W (evSs c (s :: ss) l st) D = W (evS c s l st) { D with N := fun l st => W (evSs c ss l st) D } := by
  simp only [evSs]
  cases evS c s l st <;> rfl
theorem W.mono {x : Fl} {D D' : Po} (h : W x D) (n : ∀ l st, D.N l st → D'.N l st) (r : ∀ l st, D.R l st → D'.R l st) (b : ∀ l st, D.B l st → D'.B l st) (k : ∀ l st, D.C l st → D'.C l st) : W x D' := by
  cases x with
  | nx l st => exact n _ _ h
  | ret l st => exact r _ _ h
  | brk l st => exact b _ _ h
  | cnt l st => exact k _ _ h
  | _ => exact h
theorem W_forL {body : Env → Sto → Fl} {tg : Tg} {g : List (Nat × List Val)} {D : Po} (P : Nat → Env → Sto → Prop) (hg : ∀ i l st, P i l st → guardOk st g) : ∀ (items : List Val) (k : Nat) (l : Env) (st : Sto), P k l st →
    (∀ i v l st, items[i]? = some v → P (k + i) l st → ∃ l1, tgSet tg v l = some l1 ∧ W (body l1 st) { N := P (k + i + 1), C := P (k + i + 1), B := D.N, R := D.R }) → (∀ l st, P (k + items.length) l st → D.N l st) → W (forL body tg g items l st) D
  | [], k, l, st, h, _, hk => by
    rw [forL, if_pos (hg _ _ _ h)]
    exact hk _ _ h
  | v :: vs, k, l, st, h, hs, hk => by
    obtain ⟨l1, e1, h1⟩ := hs 0 v l st rfl h
    rw [forL, if_pos (hg _ _ _ h), e1]
    simp only
    have again : ∀ l2 st2, P (k + 1) l2 st2 → W (forL body tg g vs l2 st2) D := fun l2 st2 h2 => W_forL P hg vs (k + 1) l2 st2 h2 (fun i v l st e h => by
      have := hs (i + 1) v l st (by simpa using e) (by rw [show k + (i + 1) = k + 1 + i by omega]; exact h)
      rw [show k + (i + 1) + 1 = k + 1 + i + 1 by omega] at this
      exact this) fun l st h => hk l st (by rw [List.length_cons, show k + (vs.length + 1) = k + 1 + vs.length by omega]; exact h)
    cases e : body l1 st with
    | nx l2 st2 =>
      rw [e] at h1
      exact again _ _ h1
    | cnt l2 st2 =>
      rw [e] at h1
      exact again _ _ h1
    | brk l2 st2 =>
      rw [e] at h1
      exact h1
    | ret l2 st2 =>
      rw [e] at h1
      exact h1
    | exn x l2 st2 =>
      rw [e] at h1
      exact h1.elim
    | stuck =>
      rw [e] at h1
      exact h1.elim
theorem W_for {body : Env → Sto → Fl} {tg : Tg} {g : List (Nat × List Val)} {D : Po} {items : List Val} {l : Env} {st : Sto} (P : Nat → Env → Sto → Prop) (h0 : P 0 l st) (hg : ∀ i l st, P i l st → guardOk st g)
    (hs : ∀ i v l st, items[i]? = some v → P i l st → ∃ l1, tgSet tg v l = some l1 ∧ W (body l1 st) { N := P (i + 1), C := P (i + 1), B := D.N, R := D.R }) (hk : ∀ l st, P items.length l st → D.N l st) : W (forL body tg g items l st) D :=
  W_forL P hg items 0 l st h0 (fun i v l st e h => by
    rw [Nat.zero_add] at h ⊢
    exact hs i v l st e h) fun l st h => hk l st (by rw [Nat.zero_add] at h; exact h)
/-- a def by its body -/
theorem call_W {T : List Fd} {G : List (Str × Val)} {n i : Nat} {d : Fd} {args : List Val} {st : Sto} (Q : Val → Prop) (hT : T[i]? = some d) (hl : args.length = d.ps)
    (h : W (evSs ⟨runF T G n, G⟩ d.body (frameOf d args) st) { N := fun _ st' => (∃ e, st' = st ++ e) ∧ Q .non, R := fun v st' => (∃ e, st' = st ++ e) ∧ belowV st.length v = true ∧ Q v }) : ∃ v, Q v ∧ runF T G (n + 1) i args st = .ok v st := by
  cases e : evSs ⟨runF T G n, G⟩ d.body (frameOf d args) st with
  | ret v st' =>
    rw [e] at h
    obtain ⟨⟨x, rfl⟩, hb, hq⟩ := h
    exact ⟨v, hq, call_ret hT hl e hb⟩
  | nx l st' =>
    rw [e] at h
    obtain ⟨⟨x, rfl⟩, hq⟩ := h
    exact ⟨.non, hq, callF_eq hT hl (by rw [e]; exact leave_app rfl)⟩
  | _ =>
    rw [e] at h
    exact h.elim
/-- .. with a known end -/
theorem call_eq {T : List Fd} {G : List (Str × Val)} {n i : Nat} {d : Fd} {args : List Val} {st : Sto} {v : Val} (hT : T[i]? = some d) (hl : args.length = d.ps) (hv : belowV st.length v = true)
    (h : W (evSs ⟨runF T G n, G⟩ d.body (frameOf d args) st) { R := fun u st' => (∃ e, st' = st ++ e) ∧ u = v }) : runF T G (n + 1) i args st = .ok v st := by
  obtain ⟨u, e1, e2⟩ := call_W (G := G) (n := n) (st := st) (fun u => u = v) hT hl (W.mono h (fun _ _ z => False.elim z) (fun u st' z => ⟨z.1, by rw [z.2]; exact hv, z.2⟩) (fun _ _ z => False.elim z) fun _ _ z => False.elim z)
  rw [e2, e1]
theorem mul_r {x y : Int} (h1 : -18446744073709551616 < y) (h2 : y < 18446744073709551616) : mulOk x y := .inr (.inl ⟨by omega, by omega⟩)
theorem mul_l {x y : Int} (h1 : -18446744073709551616 < x) (h2 : x < 18446744073709551616) : mulOk x y := .inl ⟨by omega, by omega⟩
theorem div_ok {y : Int} (h1 : 0 < y) (h2 : y < 18446744073709551616) : divOk y := by
  refine ⟨h1, ?_⟩
  have h : y.natAbs < 2 ^ 64 := by omega
  have := (Nat.log2_lt (n := y.natAbs) (k := 64) (by omega)).mpr h
  omega
theorem snoc_all {α : Type} {P : α → Prop} {l : List α} {x : α} (h : ∀ d ∈ l, P d) (hx : P x) : ∀ d ∈ l ++ [x], P d := fun d hd => by
  rcases List.mem_append.mp hd with z | z
  · exact h d z
  · have e : d = x := by simpa using z
    rw [e]
    exact hx
theorem iL_snoc (l : List Int) (x : Int) : iL (l ++ [x]) = iL l ++ [.int x] := by simp [iL]
theorem iL_len (l : List Int) : (iL l).length = l.length := by simp [iL]
theorem iL_atI {l : List Int} {k : Int} (h0 : 0 ≤ k) (h : k < l.length) : L2.atI (iL l) k = some (.int (l.getD k.toNat 0)) := by
  obtain ⟨j, rfl⟩ := Int.eq_ofNat_of_zero_le h0
  have hj : j < l.length := by omega
  show L2.atI (iL l) (j : Int) = _
  rw [atI_nat (by rw [iL_len]; exact hj)]
  simp [iL, hj]
theorem W_weak {x : Fl} {D D' : Po} (h : W x D) (n : ∀ l st, D.N l st → D'.N l st) (r : ∀ l st, D.R l st → D'.R l st) (b : ∀ l st, ¬ D.B l st) (k : ∀ l st, ¬ D.C l st) : W x D' := W.mono h n r (fun l st z => absurd z (b l st)) fun l st z => absurd z (k l st)
/-! comprehensions -/
theorem lcL_idx {body : Val → Sto → R (Option Val)} {g : List (Nat × List Val)} {st : Sto} (f : Nat → Val) (hg : guardOk st g) : ∀ (items acc : List Val) (k : Nat), (∀ i v, items[i]? = some v → body v st = .ok (some (f (k + i))) st) → acc.length + items.length ≤ sizeLine →
    lcL body g items acc st = .ok (acc ++ (List.range items.length).map fun i => f (k + i)) st
  | [], acc, k, _, _ => by rw [lcL, if_pos hg]; simp
  | v :: vs, acc, k, h, hz => by
    rw [lcL, if_pos hg, h 0 v rfl]
    rw [List.length_cons] at hz
    simp only
    rw [if_pos (by omega), lcL_idx f hg vs (acc ++ [f (k + 0)]) (k + 1) (fun i u e => by
      rw [show k + 1 + i = k + (i + 1) by omega]
      exact h (i + 1) u (by simpa using e)) (by rw [List.length_append]; simp; omega)]
    rw [List.length_cons, List.range_succ_eq_map, List.map_cons, List.map_map, List.append_assoc]
    congr 2
    simp only [List.cons_append, List.nil_append, List.cons.injEq, true_and]
    refine List.map_congr_left fun i _ => ?_
    show f (k + 1 + i) = f (k + (i + 1))
    congr 1
    omega
theorem ev_lc {c : Cn} {m : Bool} {e : Xp} {tg : Tg} {it : It} {l : Env} {st : Sto} {items : List Val} {g : List (Nat × List Val)} (f : Nat → Val) (hi : evi c it l st = .ok (items, g) st) (hg : guardOk st g)
    (hb : ∀ i v, items[i]? = some v → ∃ l1, tgSet tg v (wipeE l tg.slots) = some l1 ∧ ev c false e l1 st = .ok (f i) st) (hz : items.length ≤ sizeLine) : ev c false (.lc m e tg it []) l st = newL m ((List.range items.length).map f) st := by
  simp only [ev, hi, R.bind_ok, fin_false]
  rw [lcL_idx f hg items [] 0 (fun i v ei => by
    obtain ⟨l1, e1, e2⟩ := hb i v ei
    simp only [e1, evf, R.bind_ok, e2, Nat.zero_add]) (by simpa using hz)]
  simp
theorem ev_lcF {c : Cn} {m : Bool} {e : Xp} {tg : Tg} {it : It} {ifs : List Xp} {l : Env} {st : Sto} {items : List Val} {g : List (Nat × List Val)} (f : Val → Option Val) (hi : evi c it l st = .ok (items, g) st) (hg : guardOk st g)
    (hb : ∀ v ∈ items, ∃ l1, tgSet tg v (wipeE l tg.slots) = some l1 ∧ ((evf c ifs l1 st).bind fun b st => match b with
          | true => (ev c false e l1 st).bind fun x st => .ok (some x) st
          | false => .ok none st) = .ok (f v) st) (hz : items.length ≤ sizeLine) : ev c false (.lc m e tg it ifs) l st = newL m (items.filterMap f) st := by
  simp only [ev, hi, R.bind_ok, fin_false]
  rw [lcL_map f hg items [] (fun v hv => by
    obtain ⟨l1, e1, e2⟩ := hb v hv
    simp only [e1]
    exact e2) (by simpa using hz)]
  simp
def gi (l : List Int) (k : Nat) : Int := l.getD k 0
/-- range(h) as ints -/
def tab (h : Nat) (f : Nat → Int) : List Int := (List.range h).map f
theorem tab_len {h : Nat} {f : Nat → Int} : (tab h f).length = h := by simp [tab]
theorem iL_tab {h : Nat} {f : Nat → Int} : iL (tab h f) = (List.range h).map fun i => Val.int (f i) := by simp [iL, tab]
theorem tab_get {h k : Nat} {f : Nat → Int} (hk : k < h) : gi (tab h f) k = f k := by simp [gi, tab, hk]
theorem tab_self (l : List Int) : l = tab l.length fun k => gi l k := by
  apply List.ext_getElem?
  intro i
  unfold tab gi
  rw [List.getElem?_map]
  by_cases h : i < l.length
  · simp [h]
  · simp [h]
theorem tab_congr {h : Nat} {f g : Nat → Int} (e : ∀ k, k < h → f k = g k) : tab h f = tab h g := List.map_congr_left fun k hk => e k (List.mem_range.mp hk)
theorem tab_add {h k : Nat} {f : Nat → Int} : tab (h + k) f = tab h f ++ tab k fun i => f (h + i) := by
  unfold tab
  rw [List.range_add, List.map_append, List.map_map]
  rfl
theorem gi_at {l : List Int} {k : Nat} {z : Int} (h : k < l.length) (e : z = k) : L2.atI (iL l) z = some (.int (gi l k)) := by
  subst e
  rw [iL_atI (by omega) (by omega)]
  rfl
theorem iL_tab_succ {j : Nat} {f : Nat → Int} : iL (tab (j + 1) f) = iL (tab j f) ++ [.int (f j)] := by
  unfold tab
  rw [List.range_succ, List.map_append, iL, List.map_append]
  rfl
theorem zipV_ints : ∀ (a b : List Int) (k : Nat) (v : Val), (zipV (iL a) (iL b))[k]? = some v → k < a.length ∧ k < b.length ∧ v = .tup [.int (gi a k), .int (gi b k)]
  | [], _, k, v, h => by simp [iL, zipV] at h
  | _ :: _, [], k, v, h => by simp [iL, zipV] at h
  | x :: a, y :: b, 0, v, h => by
    simp [iL, zipV] at h
    exact ⟨by simp, by simp, h.symm⟩
  | x :: a, y :: b, k + 1, v, h => by
    obtain ⟨h1, h2, h3⟩ := zipV_ints a b k v (by simpa [iL, zipV] using h)
    exact ⟨by simp; omega, by simp; omega, by rw [h3]; rfl⟩
theorem zipV_len : ∀ (a b : List Int), (zipV (iL a) (iL b)).length = min a.length b.length
  | [], _ => by simp [iL, zipV]
  | _ :: _, [] => by simp [iL, zipV]
  | x :: a, y :: b => by
    have := zipV_len a b
    simp only [iL, List.map_cons, zipV, List.length_cons] at this ⊢
    rw [this]
    omega
theorem gi_take {l : List Int} {h k : Nat} (hk : k < h) : gi (l.take h) k = gi l k := by simp [gi, List.getElem?_take, hk]
theorem gi_drop {l : List Int} {h k : Nat} : gi (l.drop h) k = gi l (h + k) := by simp [gi]
theorem cut_lo {l : List Int} {h : Nat} (hh : h ≤ l.length) : cutL (iL l) none (some (h : Int)) = iL (l.take h) := by
  unfold cutL
  have e1 : HT.sIx (iL l).length 0 none = 0 := rfl
  have e2 : HT.sIx (iL l).length (iL l).length (some (h : Int)) = h := by
    rw [iL_len, HT.sIx_nat]
    omega
  rw [e1, e2]
  simp [iL]
theorem cut_hi {l : List Int} {h : Nat} (hh : h ≤ l.length) : cutL (iL l) (some (h : Int)) none = iL (l.drop h) := by
  unfold cutL
  have e1 : HT.sIx (iL l).length (iL l).length none = l.length := by rw [iL_len]; rfl
  have e2 : HT.sIx (iL l).length 0 (some (h : Int)) = h := by
    rw [iL_len, HT.sIx_nat]
    omega
  rw [e1, e2, iL, ← List.map_drop, List.take_of_length_le (by simp)]
@[simp] theorem truth_bl {st : Sto} {b : Bool} : truth st (.bl b) = some b := rfl
@[simp] theorem truth_int {st : Sto} {b : Int} : truth st (.int b) = some (b != 0) := rfl
@[simp] theorem truth_non {st : Sto} : truth st .non = some false := rfl
/-! == of lists of ints -/
theorem toDs_ints : ∀ l : List Int, toDs0 (iL l) = some (l.map .int)
  | [] => by simp [iL, toDs0]
  | x :: l => by
    have := toDs_ints l
    simp only [iL, List.map_cons, toDs0, toD0] at this ⊢
    rw [this]
theorem lay_ints : ∀ l : List Int, PyData.canLayAll0 (l.map .int) = true
  | [] => by simp [PyData.canLayAll0]
  | x :: l => by simp [PyData.canLayAll0, PyData.canLay0, lay_ints l]
theorem depth_ints : ∀ l : List Int, PyData.depthAll (l.map .int) = 0
  | [] => by simp [PyData.depthAll]
  | x :: l => by simp [PyData.depthAll, PyData.depth, depth_ints l]
theorem eqv_ints : ∀ l m : List Int, PyData.eqvAll (l.map .int) (m.map .int) = decide (l = m)
  | [], [] => by simp [PyData.eqvAll]
  | [], _ :: _ => by simp [PyData.eqvAll]
  | _ :: _, [] => by simp [PyData.eqvAll]
  | x :: l, y :: m => by
    simp only [List.map_cons, PyData.eqvAll, PyData.eqv, eqv_ints l m]
    by_cases h : x = y <;> by_cases g : l = m <;> simp [h, g]
theorem shaped_ints (l : List Int) : SeqAt.shaped (.list (l.map .int)) = true ∧ SeqAt.shaped (.tuple (l.map .int)) = true := by
  constructor <;> simp [SeqAt.shaped, PyData.canLay0, PyData.depth, lay_ints, depth_ints]
theorem eq_lints {st : Sto} {a b : Val} {l m : List Int} (ha : lview st a = some (iL l)) (hb : lview st b = some (iL m)) : eqEv st a b = some (decide (l = m)) := by
  have da : toD st a = some (.list (l.map .int)) := by
    cases a with
    | lst x =>
      simp only [lview] at ha
      cases ha
      simp [toD, toD0, toDs_ints]
    | ref n =>
      simp only [lview] at ha
      split at ha
      · rename_i x e
        cases ha
        simp [toD, e, toDs_ints]
      · cases ha
    | _ => simp [lview] at ha
  have db : toD st b = some (.list (m.map .int)) := by
    cases b with
    | lst x =>
      simp only [lview] at hb
      cases hb
      simp [toD, toD0, toDs_ints]
    | ref n =>
      simp only [lview] at hb
      split at hb
      · rename_i x e
        cases hb
        simp [toD, e, toDs_ints]
      · cases hb
    | _ => simp [lview] at hb
  have e : eqEv st a b = (match toD st a, toD st b with
    | some d, some e => if SeqAt.shaped d = true ∧ SeqAt.shaped e = true then some (PyData.eqv d e) else none
    | _, _ => none) := by
    cases a <;> first | rfl | simp [lview] at ha
  rw [e, da, db]
  simp only
  rw [if_pos ⟨(shaped_ints l).1, (shaped_ints m).1⟩, PyData.eqv, eqv_ints]
theorem eq_tints {st : Sto} {l m : List Int} : eqEv st (.tup (iL l)) (.tup (iL m)) = some (decide (l = m)) := by
  show (match toD st (.tup (iL l)), toD st (.tup (iL m)) with
    | some d, some e => if SeqAt.shaped d = true ∧ SeqAt.shaped e = true then some (PyData.eqv d e) else none
    | _, _ => none) = _
  simp only [toD, toD0, toDs_ints, Option.map_some]
  rw [if_pos ⟨(shaped_ints l).2, (shaped_ints m).2⟩, PyData.eqv, eqv_ints]
theorem mul_w {x y : Int} (h1 : x.natAbs < 2 ^ 200) (h2 : y.natAbs < 2 ^ 200) : mulOk x y := by
  refine .inr (.inr ?_)
  have l : ∀ n : Nat, n < 2 ^ 200 → n.log2 < 200 := fun n h => by
    by_cases h0 : n = 0
    · subst h0
      decide
    · exact (Nat.log2_lt h0).mpr h
  have := l _ h1
  have := l _ h2
  omega
/-! rows of rows -/
abbrev rows (m : List (List Int)) : List Val := m.map fun r => .tup (iL r)
theorem below_rows (n : Nat) : ∀ m : List (List Int), belowVs n (rows m) = true
  | [] => rfl
  | r :: m => by
    show belowVs n (.tup (iL r) :: rows m) = true
    rw [belowVs, below_rows n m, belowV, below_ints]
    rfl
theorem lcL_M {α : Type} {body : Val → Sto → R (Option Val)} {st : Sto} {g h : α → Val} {gs : List (Nat × List Val)} (hg : guardOk st gs) : ∀ (L : List α) (acc : List Val), (∀ a ∈ L, body (g a) st = .ok (some (h a)) st) → acc.length + L.length ≤ sizeLine →
    lcL body gs (L.map g) acc st = .ok (acc ++ L.map h) st
  | [], acc, _, _ => by
    rw [List.map_nil, lcL, if_pos hg]
    simp
  | a :: L, acc, hb, hz => by
    rw [List.length_cons] at hz
    rw [List.map_cons, lcL, if_pos hg, hb a List.mem_cons_self]
    simp only
    rw [if_pos (by omega), lcL_M hg L (acc ++ [h a]) (fun b hb' => hb b (List.mem_cons_of_mem _ hb')) (by rw [List.length_append]; simp; omega)]
    simp
/-- a comprehension over a mapped list -/
theorem ev_lcM {α : Type} {c : Cn} {m : Bool} {e : Xp} {tg : Tg} {it : It} {l : Env} {st : Sto} {L : List α} {g h : α → Val} {gs : List (Nat × List Val)} (hi : evi c it l st = .ok (L.map g, gs) st) (hg : guardOk st gs)
    (hb : ∀ a ∈ L, ∃ l1, tgSet tg (g a) (wipeE l tg.slots) = some l1 ∧ ev c false e l1 st = .ok (h a) st) (hz : L.length ≤ sizeLine) : ev c false (.lc m e tg it []) l st = newL m (L.map h) st := by
  simp only [ev, hi, R.bind_ok, fin_false]
  rw [lcL_M (h := h) hg L [] (fun a ha => by
    obtain ⟨l1, e1, e2⟩ := hb a ha
    simp only [e1, evf, R.bind_ok, e2]) (by simpa using hz)]
  simp
theorem iL_map {l : List Int} {f : Int → Int} : iL (l.map f) = l.map fun x => Val.int (f x) := by simp [iL]
def gr (m : List (List Int)) (k : Nat) : List Int := m.getD k []
theorem gr_mem {m : List (List Int)} {k : Nat} (h : k < m.length) : gr m k ∈ m := by
  unfold gr
  rw [List.getD_eq_getElem?_getD, List.getElem?_eq_getElem h]
  exact List.getElem_mem h
theorem map_at {m : List (List Int)} {g : List Int → Val} {k : Nat} {z : Int} (h : k < m.length) (e : z = k) : L2.atI (m.map g) z = some (g (gr m k)) := by
  subst e
  rw [atI_nat (by simpa using h)]
  simp [gr, h]
theorem cut_mid {l : List Int} {a b : Nat} (h1 : a ≤ b) (h2 : b ≤ l.length) : cutL (iL l) (some (a : Int)) (some (b : Int)) = iL ((l.drop a).take (b - a)) := by
  unfold cutL
  rw [iL_len, HT.sIx_nat, HT.sIx_nat, iL, ← List.map_drop, ← List.map_take]
  congr 2
  · omega
  · rw [show min a l.length = a by omega]
theorem putK0 {xs : List Val} : putK xs [] = xs := rfl
theorem putK1 {a : Val} : putK [] [(0, a)] = [a] := rfl
theorem putK10 {a b : Val} : putK [] [(1, a), (0, b)] = [b, a] := rfl
theorem putK01 {a b : Val} : putK [] [(0, a), (1, b)] = [a, b] := rfl
/-! while: a measure -/
theorem W_whL {c : Env → Sto → R Val} {body : Env → Sto → Fl} {D : Po} (P : Nat → Env → Sto → Prop) (hs : ∀ k l st, P k l st → (∃ st', c l st = .ok (.bl false) st' ∧ D.N l st') ∨ (∃ j st', k = j + 1 ∧ c l st = .ok (.bl true) st' ∧ W (body l st') { N := P j, C := P j, B := D.N, R := D.R })) :
    ∀ (n k : Nat) (l : Env) (st : Sto), k < n → P k l st → W (whL c body n l st) D
  | 0, _, _, _, h, _ => absurd h (by omega)
  | n + 1, k, l, st, h, hp => by
    rw [whL]
    rcases hs k l st hp with ⟨st', e, hn⟩ | ⟨j, st', rfl, e, hb⟩
    · rw [e]
      exact hn
    · rw [e]
      simp only
      cases eb : body l st' with
      | nx l2 st2 =>
        rw [eb] at hb
        exact W_whL P hs n j l2 st2 (by omega) hb
      | cnt l2 st2 =>
        rw [eb] at hb
        exact W_whL P hs n j l2 st2 (by omega) hb
      | brk l2 st2 =>
        rw [eb] at hb
        exact hb
      | ret l2 st2 =>
        rw [eb] at hb
        exact hb
      | exn x l2 st2 =>
        rw [eb] at hb
        exact hb.elim
      | stuck =>
        rw [eb] at hb
        exact hb.elim
theorem W_while {c : Env → Sto → R Val} {body : Env → Sto → Fl} {D : Po} {l : Env} {st : Sto} (k : Nat) (P : Nat → Env → Sto → Prop) (hk : k < 1000000) (h0 : P k l st)
    (hs : ∀ k l st, P k l st → (∃ st', c l st = .ok (.bl false) st' ∧ D.N l st') ∨ (∃ j st', k = j + 1 ∧ c l st = .ok (.bl true) st' ∧ W (body l st') { N := P j, C := P j, B := D.N, R := D.R })) : W (whL c body wfuel l st) D :=
  W_whL P hs wfuel k l st (by rw [wfuel_eq]; omega) h0
end Pv

set_option Elab.async false
set_option linter.all false
set_option maxRecDepth 100000
set_option maxHeartbeats 1000000
namespace Pv
open PySem
def stepF (h : Nat) (l : List Int) : List Int := tab h (fun k => gi l (2*k+1) + (gi l (2*k) - gi l (2*k+1))/2) ++ tab h fun k => gi l (2*k) - gi l (2*k+1)
theorem rs2 (h : Nat) (hh : h < 1000) : rngC 0 (2 * (h : Int)) 2 ∧ (Builtin.Range.rangeSize 0 (2 * (h : Int)) 2).toNat = h := by
  have e : Builtin.Range.rangeSize 0 (2 * (h : Int)) 2 = h := by
    unfold Builtin.Range.rangeSize
    rw [if_pos (by decide)]
    split <;> omega
  refine ⟨⟨by decide, by decide, ?_⟩, by rw [e]; omega⟩
  unfold Builtin.Range.small
  rw [e]
  have f1 : ∀ x : Int, -9223372036854775808 ≤ x → x < 9223372036854775808 → Builtin.Range.rangeFitsLong x = true := fun x a b => by
    unfold Builtin.Range.rangeFitsLong
    simp
    omega
  rw [f1 _ (by omega) (by omega), f1 _ (by omega) (by omega), f1 _ (by omega) (by omega), f1 _ (by omega) (by omega), if_pos (by decide), f1 _ (by omega) (by omega)]
  simp
def prs (h : Nat) (l : List Int) : List Val := (List.range h).map fun k => .tup [.int (gi l (2*k)), .int (gi l (2*k+1))]
theorem prs_get {h i : Nat} {l : List Int} {v : Val} (e : (prs h l)[i]? = some v) : i < h ∧ v = .tup [.int (gi l (2*i)), .int (gi l (2*i+1))] := by
  unfold prs at e
  rw [List.getElem?_map] at e
  by_cases hi : i < h
  · rw [List.getElem?_range hi] at e
    exact ⟨hi, (Option.some.inj e).symm⟩
  · rw [List.getElem?_eq_none (by simpa using hi)] at e
    cases e
theorem stepped_ok {T : List Fd} {G : List (Str × Val)} {i : Nat} (hT : T[i]? = some f_stepped) (n : Nat) (h : Nat) (l : List Int) (v : Val) (st : Sto) (hv : sview st v = some (iL l)) (hl : l.length = 2 * h) (hz : h < 1000) : runF T G (n + 1) i [v] st = .ok (.tup (iL (stepF h l))) st := by
  refine call_eq hT rfl (below_ints _ _) ?_
  have hf : frameOf f_stepped [v] = [some v, none, none, none, none] := rfl
  rw [hf]
  show W (evSs _ (_ :: _ :: []) _ _) _
  rw [W_cons]
  obtain ⟨r1, r2⟩ := rs2 h hz
  have sz : 10000 ≤ sizeLine := by show 10000 ≤ 2 ^ 24; decide
  have e1 := ev_lc (c := ⟨runF T G n, G⟩) (m := false) (e := .tup [.idx (.var 0) (.var 2), .idx (.var 0) (.bin .add (.var 2) (.num 1))]) (tg := .nm 2) (it := .rng [.num 0, .blt .len [.var 0], .num 2]) (l := [some v, none, none, none, none]) (st := st)
    (items := rngL 0 2 h) (g := []) (fun k => .tup [.int (gi l (2*k)), .int (gi l (2*k+1))]) (by simp [ev, evi, evs, fin, bfEv, hv, rngEv, hl, r1, r2]) guard_nil (fun k w hw => by
      obtain ⟨hk, rfl⟩ := rngL_get' hw
      refine ⟨_, rfl, ?_⟩
      have a1 : L2.atI (iL l) ((k : Int) * 2) = some (.int (gi l (2*k))) := gi_at (by omega) (by omega)
      have a2 : L2.atI (iL l) ((k : Int) * 2 + 1) = some (.int (gi l (2*k+1))) := gi_at (by omega) (by omega)
      simp [ev, evs, fin, wipeE, Tg.slots, idxEv, hv, a1, a2, binEv, opI, show 2 ≤ sizeLine by omega]) (by rw [rngL_len]; omega)
  rw [rngL_len] at e1
  simp only [evS, e1, newL, R.fl_ok, W_nx, List.set]
  rw [W_cons]
  have e2 := ev_lc (c := ⟨runF T G n, G⟩) (m := false) (e := .bin .add (.var 4) (.bin .fdiv (.bin .sub (.var 3) (.var 4)) (.num 2))) (tg := .tp [3, 4]) (it := .seq (.var 1)) (l := [some v, some (.lst (prs h l)), none, none, none]) (st := st)
    (items := prs h l) (g := []) (fun k => .int (gi l (2*k+1) + (gi l (2*k) - gi l (2*k+1))/2)) (by simp [ev, evi, fin, sview, gst, mlist]) guard_nil (fun k w hw => by
      obtain ⟨hk, rfl⟩ := prs_get hw
      refine ⟨_, rfl, ?_⟩
      simp [ev, evs, fin, wipeE, Tg.slots, setAll, binEv, opI, div_ok]) (by simp [prs]; omega)
  have e3 := ev_lc (c := ⟨runF T G n, G⟩) (m := false) (e := .bin .sub (.var 3) (.var 4)) (tg := .tp [3, 4]) (it := .seq (.var 1)) (l := [some v, some (.lst (prs h l)), none, none, none]) (st := st)
    (items := prs h l) (g := []) (fun k => .int (gi l (2*k) - gi l (2*k+1))) (by simp [ev, evi, fin, sview, gst, mlist]) guard_nil (fun k w hw => by
      obtain ⟨hk, rfl⟩ := prs_get hw
      refine ⟨_, rfl, ?_⟩
      simp [ev, evs, fin, wipeE, Tg.slots, setAll, binEv, opI]) (by simp [prs]; omega)
  have pl : (prs h l).length = h := by simp [prs]
  rw [pl] at e2 e3
  have e4 : (List.range h).map (fun k => Val.tup [.int (gi l (2*k)), .int (gi l (2*k+1))]) = prs h l := rfl
  rw [e4]
  rw [evS, ev, evs, ev, e2]
  simp only [newL, R.bind_ok, e3]
  simp [newL, evs, fin, catEv, lview, bfEv, show h + h ≤ sizeLine by omega, stepF, tab, iL]
  rfl
def bk (h : Nat) (l : List Int) (n : Nat) : List Int := (List.range n).flatMap fun k => [(gi l k - gi l (h+k) / 2) + gi l (h+k), gi l k - gi l (h+k) / 2]
theorem bk_succ {h : Nat} {l : List Int} {n : Nat} : bk h l (n + 1) = bk h l n ++ [(gi l n - gi l (h+n) / 2) + gi l (h+n), gi l n - gi l (h+n) / 2] := by
  unfold bk
  rw [List.range_succ, List.flatMap_append]
  simp
theorem bk_len {h : Nat} {l : List Int} : ∀ {n : Nat}, (bk h l n).length = 2 * n
  | 0 => rfl
  | n + 1 => by rw [bk_succ, List.length_append, bk_len]; simp; omega
theorem back_ok {T : List Fd} {G : List (Str × Val)} {i : Nat} (hT : T[i]? = some f_stepped_back) (n : Nat) (h : Nat) (l : List Int) (v : Val) (st : Sto) (hv : v = .tup (iL l) ∨ ((∀ w, v ≠ .tup w) ∧ ∀ e, lview (st ++ e) v = some (iL l))) (hl : l.length = 2 * h) (hz : h < 1000) : runF T G (n + 1) i [v] st = .ok (.tup (iL (bk h l h))) st := by
  refine call_eq hT rfl (below_ints _ _) ?_
  have hf : frameOf f_stepped_back [v] = [some v, none, none, none, none, none] := rfl
  have sz : (10000 : Nat) ≤ sizeLine := by show 10000 ≤ 2 ^ 24; decide
  have hd : (2 * (h : Int)) / 2 = h := by omega
  rw [hf]
  show W (evSs _ (_ :: _ :: _ :: _ :: []) _ _) _
  rw [W_cons]
  have hs : ∀ e, sview (st ++ e) v = some (iL l) := by
    intro e
    rcases hv with rfl | ⟨h1, h2⟩
    · rfl
    · have := h2 e
      cases v <;> first | (simp only [lview] at this; cases this; done) | exact this
  have hs0 : sview st v = some (iL l) := by have := hs []; rwa [List.append_nil] at this
  simp [evS, ev, evs, fin, bfEv, hs0, hl, binEv, opI, div_ok, hd]
  rw [W_cons]
  simp [evS, ev, evs, fin, newL]
  rw [W_cons]
  have hit : evi ⟨runF T G n, G⟩ (.zip (.slc false (.var 0) none (some (.var 1))) (.slc false (.var 0) (some (.var 1)) none)) [some v, some (.int h), some (.ref st.length), none, none, none] (st ++ [.lst []]) = .ok (zipV (iL (l.take h)) (iL (l.drop h)), []) (st ++ [.lst []]) := by
    rcases hv with rfl | ⟨h1, h2⟩
    · simp [evi, ev, evo, fin, slcEv, cut_lo (l := l) (h := h) (by omega), cut_hi (l := l) (h := h) (by omega), zipEv]
    · have h2' := h2 [.lst []]
      cases v with
      | tup w => exact absurd rfl (h1 w)
      | lst w =>
        have ew : w = iL l := by simpa [lview] using h2'
        subst ew
        simp [evi, ev, evo, fin, slcEv, h2', newL, cut_lo (l := l) (h := h) (by omega), cut_hi (l := l) (h := h) (by omega), zipEv, lview, gst, mlist]
      | ref w => simp [evi, ev, evo, fin, slcEv, h2', newL, cut_lo (l := l) (h := h) (by omega), cut_hi (l := l) (h := h) (by omega), zipEv, gst, mlist]; simp [lview, gst, mlist]
      | _ => simp [lview] at h2'
  simp only [evS, hit, R.fl_ok]
  refine W_for (fun k l' st' => (∃ x y z, l' = [some v, some (.int h), some (.ref st.length), x, y, z]) ∧ st' = st ++ [.lst (iL (bk h l k))]) ⟨⟨_, _, _, rfl⟩, rfl⟩ (fun _ _ _ _ => guard_nil) ?_ ?_
  · rintro j w l' st' hw ⟨⟨x, y, z, rfl⟩, rfl⟩
    obtain ⟨hj, _, rfl⟩ := zipV_ints _ _ _ _ hw
    rw [List.length_take] at hj
    rw [gi_take (by omega), gi_drop]
    refine ⟨_, rfl, ?_⟩
    dsimp only [setAll]
    rw [W_cons]
    simp [evS, ev, evs, fin, binEv, opI, div_ok]
    rw [W_cons]
    simp [evS, ev, evs, fin, binEv, opI, mlist, st_get0, st_set0, extEv, lview, newL, show 2 ≤ sizeLine by omega, iL_len, bk_len, show 2 * j + 2 ≤ sizeLine by omega]
    simp only [W_nil]
    exact ⟨⟨_, _, _, rfl⟩, by rw [bk_succ]; simp [iL]⟩
  · rintro l' st' ⟨⟨x, y, z, rfl⟩, rfl⟩
    rw [zipV_len, List.length_take, List.length_drop]
    have e : min (min h l.length) (l.length - h) = h := by omega
    rw [e]
    dsimp only
    rw [W_cons]
    simp [evS, ev, evs, fin, bfEv, lview, st_get0]
end Pv

set_option Elab.async false
set_option linter.all false
set_option maxRecDepth 100000
set_option maxHeartbeats 1000000
namespace Pv
open PySem
theorem gi_app_lo {a b : List Int} {k : Nat} (h : k < a.length) : gi (a ++ b) k = gi a k := by simp [gi, List.getElem?_append_left h]
theorem gi_app_hi {a b : List Int} {h k : Nat} (e : a.length = h) : gi (a ++ b) (h + k) = gi b k := by
  subst e
  unfold gi
  rw [List.getD_eq_getElem?_getD, List.getD_eq_getElem?_getD, List.getElem?_append_right (by omega)]
  congr 2
  omega
theorem stepF_len {h : Nat} {l : List Int} : (stepF h l).length = 2 * h := by
  unfold stepF
  rw [List.length_append, tab_len, tab_len]
  omega
theorem stepF_lo {h k : Nat} {l : List Int} (hk : k < h) : gi (stepF h l) k = gi l (2*k+1) + (gi l (2*k) - gi l (2*k+1))/2 := by
  unfold stepF
  rw [gi_app_lo (by rw [tab_len]; exact hk), tab_get hk]
theorem stepF_hi {h k : Nat} {l : List Int} (hk : k < h) : gi (stepF h l) (h + k) = gi l (2*k) - gi l (2*k+1) := by
  unfold stepF
  rw [gi_app_hi tab_len, tab_get hk]
theorem take_two {l : List Int} {n : Nat} (h : 2 * n + 2 ≤ l.length) : l.take (2 * (n + 1)) = l.take (2 * n) ++ [gi l (2 * n), gi l (2 * n + 1)] := by
  have e1 : 2 * (n + 1) = (2 * n + 1) + 1 := by omega
  rw [e1, List.take_succ_eq_append_getElem (by omega), List.take_succ_eq_append_getElem (by omega), List.append_assoc]
  congr 1
  simp [gi, show 2 * n < l.length by omega, show 2 * n + 1 < l.length by omega]
theorem bk_step_take {h : Nat} {l : List Int} (hl : l.length = 2 * h) : ∀ n : Nat, n ≤ h → bk h (stepF h l) n = l.take (2 * n)
  | 0, _ => rfl
  | n + 1, hn => by
    rw [bk_succ, bk_step_take hl n (by omega), take_two (by omega), stepF_lo (by omega), stepF_hi (by omega)]
    congr 1
    congr 1
    · omega
    · congr 1
      omega
theorem bk_step {h : Nat} {l : List Int} (hl : l.length = 2 * h) : bk h (stepF h l) h = l := by
  rw [bk_step_take hl h (Nat.le_refl _), ← hl, List.take_length]
theorem bk_get {h : Nat} {l : List Int} {k : Nat} : ∀ n : Nat, k < n → gi (bk h l n) (2 * k) = (gi l k - gi l (h+k) / 2) + gi l (h+k) ∧ gi (bk h l n) (2 * k + 1) = gi l k - gi l (h+k) / 2
  | 0, hk => by omega
  | n + 1, hk => by
    rw [bk_succ]
    by_cases e : k = n
    · subst e
      have e1 := gi_app_hi (a := bk h l k) (b := [(gi l k - gi l (h+k) / 2) + gi l (h+k), gi l k - gi l (h+k) / 2]) (k := 0) (bk_len (n := k))
      have e2 := gi_app_hi (a := bk h l k) (b := [(gi l k - gi l (h+k) / 2) + gi l (h+k), gi l k - gi l (h+k) / 2]) (k := 1) (bk_len (n := k))
      exact ⟨e1, e2⟩
    · obtain ⟨e1, e2⟩ := bk_get (h := h) (l := l) (k := k) n (by omega)
      rw [gi_app_lo (by rw [bk_len]; omega), gi_app_lo (by rw [bk_len]; omega)]
      exact ⟨e1, e2⟩
theorem step_bk {h : Nat} {l : List Int} (hl : l.length = 2 * h) : stepF h (bk h l h) = l := by
  have e : l = tab (h + h) (gi l) := by
    have := tab_self l
    rw [hl, show 2 * h = h + h by omega] at this
    exact this
  rw [tab_add] at e
  conv => rhs; rw [e]
  unfold stepF
  congr 1
  · refine tab_congr fun k hk => ?_
    obtain ⟨e1, e2⟩ := bk_get (h := h) (l := l) h hk
    rw [e1, e2]
    omega
  · refine tab_congr fun k hk => ?_
    obtain ⟨e1, e2⟩ := bk_get (h := h) (l := l) h hk
    rw [e1, e2]
    omega
end Pv

set_option Elab.async false
set_option linter.all false
set_option maxRecDepth 100000
set_option maxHeartbeats 1000000
namespace Pv
open PySem
/-! ### squares: k rows of n columns -/
def rL (n k : Nat) (F : Nat → Nat → Int) : List Val := (List.range k).map fun y => Val.tup (iL (tab n (F y)))
theorem rL_len {n k : Nat} {F : Nat → Nat → Int} : (rL n k F).length = k := by simp [rL]
theorem rL_get {n k y : Nat} {F : Nat → Nat → Int} {v : Val} (h : (rL n k F)[y]? = some v) : y < k ∧ v = .tup (iL (tab n (F y))) := by
  unfold rL at h
  rw [List.getElem?_map] at h
  by_cases hy : y < k
  · rw [List.getElem?_range hy] at h
    exact ⟨hy, (Option.some.inj h).symm⟩
  · rw [List.getElem?_eq_none (by simpa using hy)] at h
    cases h
theorem rL_at {n k y : Nat} {F : Nat → Nat → Int} {z : Int} (h : y < k) (e : z = y) : L2.atI (rL n k F) z = some (.tup (iL (tab n (F y)))) := by
  subst e
  rw [atI_nat (by rw [rL_len]; exact h)]
  simp [rL]
theorem rL_app {n a b : Nat} {F G : Nat → Nat → Int} : rL n a F ++ rL n b G = rL n (a + b) fun y => if y < a then F y else G (y - a) := by
  unfold rL
  rw [List.range_add, List.map_append, List.map_map]
  congr 1
  · refine List.map_congr_left fun y hy => ?_
    show Val.tup (iL (tab n (F y))) = Val.tup (iL (tab n (if y < a then F y else G (y - a))))
    rw [if_pos (List.mem_range.mp hy)]
  · refine List.map_congr_left fun y _ => ?_
    show _ = Val.tup (iL (tab n (if a + y < a then F (a + y) else G (a + y - a))))
    rw [if_neg (by omega), show a + y - a = y by omega]
theorem rL_congr {n k : Nat} {F G : Nat → Nat → Int} (h : ∀ y, y < k → ∀ x, x < n → F y x = G y x) : rL n k F = rL n k G := List.map_congr_left fun y hy => by
  show Val.tup (iL (tab n (F y))) = Val.tup (iL (tab n (G y)))
  rw [tab_congr fun x hx => h y (List.mem_range.mp hy) x hx]
theorem below_rL (m n : Nat) (F : Nat → Nat → Int) (k : Nat) : belowVs m (rL n k F) = true := by
  unfold rL
  generalize List.range k = l
  induction l with
  | nil => rfl
  | cons y l ih =>
    rw [List.map_cons, belowVs, ih, belowV, below_ints]
    rfl
theorem cutG_lo {l : List Val} {h : Nat} (hh : h ≤ l.length) : cutL l none (some (h : Int)) = l.take h := by
  unfold cutL
  rw [HT.sIx_nat, show HT.sIx l.length 0 none = 0 from rfl, show min h l.length = h by omega]
  simp
theorem cutG_hi {l : List Val} {h : Nat} (hh : h ≤ l.length) : cutL l (some (h : Int)) none = l.drop h := by
  unfold cutL
  rw [HT.sIx_nat, show HT.sIx l.length l.length none = l.length from rfl, show min h l.length = h by omega, List.take_of_length_le (by simp)]
theorem rL_lo {n m k : Nat} {F : Nat → Nat → Int} (h : m ≤ k) : cutL (rL n k F) none (some (m : Int)) = rL n m F := by
  rw [cutG_lo (by rw [rL_len]; exact h)]
  unfold rL
  rw [← List.map_take, List.take_range, show min m k = m by omega]
theorem rL_hi {n m k : Nat} {F : Nat → Nat → Int} (h : m ≤ k) : cutL (rL n k F) (some (m : Int)) none = rL n (k - m) fun y => F (m + y) := by
  rw [cutG_hi (by rw [rL_len]; exact h)]
  obtain ⟨d, rfl⟩ : ∃ d, k = m + d := ⟨k - m, by omega⟩
  rw [show m + d - m = d by omega]
  have e : rL n (m + d) F = rL n m F ++ rL n d fun y => F (m + y) := by
    rw [rL_app]
    refine rL_congr fun y _ x _ => ?_
    by_cases hy : y < m
    · rw [if_pos hy]
    · rw [if_neg hy, show m + (y - m) = y by omega]
  rw [e, List.drop_left' rL_len]
theorem tab_lo {n m : Nat} {f : Nat → Int} (h : m ≤ n) : cutL (iL (tab n f)) none (some (m : Int)) = iL (tab m f) := by
  rw [cut_lo (by rw [tab_len]; exact h)]
  unfold tab
  rw [← List.map_take, List.take_range, show min m n = m by omega]
theorem tab_hi {n m : Nat} {f : Nat → Int} (h : m ≤ n) : cutL (iL (tab n f)) (some (m : Int)) none = iL (tab (n - m) fun x => f (m + x)) := by
  rw [cut_hi (by rw [tab_len]; exact h)]
  obtain ⟨d, rfl⟩ : ∃ d, n = m + d := ⟨n - m, by omega⟩
  rw [show m + d - m = d by omega, tab_add, List.drop_left' tab_len]
/-! ### the step of a row's first 2 * h members, and back -/
def sS (h : Nat) (g : Nat → Int) (x : Nat) : Int := if x < h then g (2*x+1) + (g (2*x) - g (2*x+1))/2 else if x < 2*h then g (2*(x-h)) - g (2*(x-h)+1) else g x
def sB (h : Nat) (g : Nat → Int) (x : Nat) : Int := if x < 2*h then (if x % 2 = 0 then (g (x/2) - g (h+x/2) / 2) + g (h+x/2) else g (x/2) - g (h+x/2) / 2) else g x
theorem sB_sS (h : Nat) (g : Nat → Int) (x : Nat) : sB h (sS h g) x = g x := by
  unfold sB
  by_cases hx : x < 2*h
  · have k : x / 2 < h := by omega
    have e1 : sS h g (x/2) = g (2*(x/2)+1) + (g (2*(x/2)) - g (2*(x/2)+1))/2 := by unfold sS; rw [if_pos k]
    have e2 : sS h g (h+x/2) = g (2*(x/2)) - g (2*(x/2)+1) := by
      unfold sS
      rw [if_neg (by omega), if_pos (by omega), show h + x/2 - h = x/2 by omega]
    rw [if_pos hx, e1, e2]
    by_cases h0 : x % 2 = 0
    · rw [if_pos h0, show 2*(x/2) = x by omega]
      omega
    · rw [if_neg h0, show 2*(x/2)+1 = x by omega]
      omega
  · rw [if_neg hx]
    unfold sS
    rw [if_neg (by omega), if_neg hx]
theorem sS_sB (h : Nat) (g : Nat → Int) (x : Nat) : sS h (sB h g) x = g x := by
  have ev : ∀ k, k < h → sB h g (2*k) = (g k - g (h+k) / 2) + g (h+k) := fun k hk => by
    unfold sB
    rw [if_pos (by omega), if_pos (by omega), show 2*k/2 = k by omega]
  have od : ∀ k, k < h → sB h g (2*k+1) = g k - g (h+k) / 2 := fun k hk => by
    unfold sB
    rw [if_pos (by omega), if_neg (by omega), show (2*k+1)/2 = k by omega]
  unfold sS
  by_cases h1 : x < h
  · rw [if_pos h1, ev x h1, od x h1]
    omega
  · rw [if_neg h1]
    by_cases h2 : x < 2*h
    · rw [if_pos h2, ev _ (by omega), od _ (by omega), show h + (x - h) = x by omega]
      omega
    · rw [if_neg h2]
      unfold sB
      rw [if_neg h2]
theorem stepF_tab {h : Nat} {g : Nat → Int} : stepF h (tab (2*h) g) = tab (2*h) (sS h g) := by
  unfold stepF
  rw [show tab (2*h) (sS h g) = tab (h + h) (sS h g) by rw [show 2*h = h+h by omega], tab_add]
  congr 1
  · refine tab_congr fun k hk => ?_
    rw [tab_get (by omega), tab_get (by omega)]
    unfold sS
    rw [if_pos hk]
  · refine tab_congr fun k hk => ?_
    rw [tab_get (by omega), tab_get (by omega)]
    unfold sS
    rw [if_neg (by omega), if_pos (by omega), show h + k - h = k by omega]
theorem bk_tab_n {h : Nat} {g : Nat → Int} : ∀ n, n ≤ h → bk h (tab (2*h) g) n = tab (2*n) (sB h g)
  | 0, _ => rfl
  | n + 1, hn => by
    rw [bk_succ, bk_tab_n n (by omega), show 2*(n+1) = 2*n + 2 by omega, tab_add, tab_get (by omega), tab_get (by omega)]
    congr 1
    have e0 : sB h g (2*n) = (g n - g (h+n) / 2) + g (h+n) := by
      unfold sB
      rw [if_pos (by omega), if_pos (by omega), show 2*n/2 = n by omega]
    have e1 : sB h g (2*n+1) = g n - g (h+n) / 2 := by
      unfold sB
      rw [if_pos (by omega), if_neg (by omega), show (2*n+1)/2 = n by omega]
    rw [← e0, ← e1]
    rfl
theorem bk_tab {h : Nat} {g : Nat → Int} : bk h (tab (2*h) g) h = tab (2*h) (sB h g) := bk_tab_n h (Nat.le_refl _)
theorem tab_glue {n m : Nat} {f g : Nat → Int} (h : m ≤ n) : tab m f ++ tab (n - m) (fun x => g (m + x)) = tab n fun x => if x < m then f x else g x := by
  obtain ⟨d, rfl⟩ : ∃ d, n = m + d := ⟨n - m, by omega⟩
  rw [show m + d - m = d by omega, tab_add]
  congr 1
  · exact tab_congr fun x hx => by rw [if_pos hx]
  · exact tab_congr fun x _ => by rw [if_neg (by omega)]
/-! ### the program's parts -/
theorem rows_ok {T : List Fd} {G : List (Str × Val)} {i j : Nat} {d : Fd} {P : Nat → (Nat → Int) → Nat → Int} (hd : d.ps = 2 ∧ d.N.length = 3 ∧ d.body = [.ret (.bin .add (.blt .tuple [.lc false (.bin .add (.cal j [.slc false (.var 2) none (some (.var 1))] []) (.slc false (.var 2) (some (.var 1)) none)) (.nm 2) (.seq (.slc false (.var 0) none (some (.var 1)))) []]) (.slc false (.var 0) (some (.var 1)) none))])
    (hT : T[i]? = some d) (n : Nat) (hP : ∀ (h : Nat) (g : Nat → Int) (st : Sto), h < 1000 → runF T G (n + 1) j [.tup (iL (tab (2*h) g))] st = .ok (.tup (iL (tab (2*h) (P h g)))) st) (hQ : ∀ h g x, ¬ x < 2*h → P h g x = g x)
    (N h : Nat) (F : Nat → Nat → Int) (st : Sto) (hN : N < 1000) (hh : 2*h ≤ N) : runF T G (n + 2) i [.tup (rL N N F), .int (2 * (h : Int))] st = .ok (.tup (rL N N fun y => if y < 2*h then P h (F y) else F y)) st := by
  obtain ⟨d1, d2, d3⟩ := hd
  refine call_eq hT (by rw [d1]; rfl) (by rw [belowV]; exact below_rL _ _ _ _) ?_
  have sz : (10000 : Nat) ≤ sizeLine := by show 10000 ≤ 2 ^ 24; decide
  have hf : frameOf d [.tup (rL N N F), .int (2 * (h : Int))] = [some (.tup (rL N N F)), some (.int (2 * (h : Int))), none] := by
    unfold frameOf
    rw [d2]
    rfl
  rw [hf, d3]
  rw [W_cons]
  have c2 : (2 * (h : Int)) = ((2 * h : Nat) : Int) := by omega
  have t0 : cutL (rL N N F) none (some (2 * (h : Int))) = rL N (2*h) F := by rw [c2]; exact rL_lo hh
  have e1 := ev_lc (c := ⟨runF T G (n + 1), G⟩) (m := false) (e := .bin .add (.cal j [.slc false (.var 2) none (some (.var 1))] []) (.slc false (.var 2) (some (.var 1)) none)) (tg := .nm 2) (it := .seq (.slc false (.var 0) none (some (.var 1))))
    (l := [some (.tup (rL N N F)), some (.int (2 * (h : Int))), none]) (st := st) (items := rL N (2*h) F) (g := []) (fun y => .tup (iL (tab N (P h (F y))))) (by simp [ev, evi, evo, fin, slcEv, t0, sview, gst, mlist]) guard_nil (fun y v hv => by
      obtain ⟨hy, rfl⟩ := rL_get hv
      refine ⟨_, rfl, ?_⟩
      have q := hP h (F y) st (by omega)
      have gl : iL (tab (2*h) (P h (F y))) ++ iL (tab (N - 2*h) fun x => F y (2*h + x)) = iL (tab N (P h (F y))) := by
        rw [iL, iL, ← List.map_append, tab_glue hh]
        congr 1
        refine tab_congr fun x _ => ?_
        by_cases hx : x < 2*h
        · rw [if_pos hx]
        · rw [if_neg hx, hQ _ _ _ hx]
      have ln : (iL (tab (2*h) (P h (F y)))).length + (iL (tab (N - 2*h) fun x => F y (2*h + x))).length ≤ sizeLine := by rw [iL_len, iL_len, tab_len, tab_len]; omega
      have t1 := tab_lo (f := F y) hh
      have t2 := tab_hi (f := F y) hh
      generalize iL (tab (2*h) (P h (F y))) = A at q gl ln
      generalize iL (tab (N - 2*h) fun x => F y (2*h + x)) = B at gl ln t2
      generalize iL (tab N (F y)) = C at t1 t2
      generalize iL (tab (2*h) (F y)) = D at t1 q
      rw [← c2] at t1 t2
      simp only [ev, evs, evk, evo, fin, wipeE, Tg.slots, List.set, List.getElem?_cons_succ, List.getElem?_cons_zero, R.bind_ok, slcEv, t1, putK0, q, t2, binEv]
      rw [if_pos ln, gl]) (by rw [rL_len]; omega)
  rw [rL_len] at e1
  have e2 : (List.range (2*h)).map (fun y => Val.tup (iL (tab N (P h (F y))))) = rL N (2*h) fun y => P h (F y) := rfl
  rw [e2] at e1
  have ln : (rL N (2*h) fun y => P h (F y)).length + (rL N (N - 2*h) fun y => F (2*h + y)).length ≤ sizeLine := by rw [rL_len, rL_len]; omega
  have gl : (rL N (2*h) fun y => P h (F y)) ++ (rL N (N - 2*h) fun y => F (2*h + y)) = rL N N fun y => if y < 2*h then P h (F y) else F y := by
    rw [rL_app, show 2*h + (N - 2*h) = N by omega]
    refine rL_congr fun y _ x _ => ?_
    by_cases hy : y < 2*h
    · rw [if_pos hy, if_pos hy]
    · rw [if_neg hy, if_neg hy, show 2*h + (y - 2*h) = y by omega]
  have t := rL_hi (n := N) (F := F) hh
  generalize (rL N (2*h) fun y => P h (F y)) = A at e1 ln gl
  generalize (rL N (N - 2*h) fun y => F (2*h + y)) = B at ln gl t
  rw [← c2] at t
  rw [evS, ev, ev, evs, e1]
  simp only [newL, R.bind_ok, evs, fin, bfEv, lview, ev, List.getElem?_cons_succ, List.getElem?_cons_zero, evo, slcEv, t, binEv]
  rw [if_pos ln, gl]
  exact ⟨⟨[], by simp⟩, rfl⟩
theorem turned_ok {T : List Fd} {G : List (Str × Val)} {i : Nat} (hT : T[i]? = some f_turned) (n : Nat) (N : Nat) (F : Nat → Nat → Int) (st : Sto) (hN : N < 1000) : runF T G (n + 1) i [.tup (rL N N F)] st = .ok (.tup (rL N N fun y x => F x y)) st := by
  refine call_eq hT rfl (by rw [belowV]; exact below_rL _ _ _ _) ?_
  have sz : (10000 : Nat) ≤ sizeLine := by show 10000 ≤ 2 ^ 24; decide
  have hf : frameOf f_turned [.tup (rL N N F)] = [some (.tup (rL N N F)), none, none] := rfl
  rw [hf]
  show W (evSs _ (_ :: []) _ _) _
  rw [W_cons]
  have hr : inR N := by unfold inR; omega
  have e1 := ev_lc (c := ⟨runF T G n, G⟩) (m := false) (e := .blt .tuple [.lc false (.idx (.var 2) (.var 1)) (.nm 2) (.seq (.var 0)) []]) (tg := .nm 1) (it := .rng [.blt .len [.var 0]])
    (l := [some (.tup (rL N N F)), none, none]) (st := st) (items := rngL 0 1 N) (g := []) (fun x => .tup (iL (tab N fun y => F y x))) (by simp [ev, evi, evs, fin, bfEv, sview, rL_len, rngEv, hr]) guard_nil (fun x v hv => by
      obtain ⟨hx, rfl⟩ := rngL_get' hv
      refine ⟨_, rfl, ?_⟩
      have e2 := ev_lc (c := ⟨runF T G n, G⟩) (m := false) (e := .idx (.var 2) (.var 1)) (tg := .nm 2) (it := .seq (.var 0)) (l := [some (.tup (rL N N F)), some (.int (0 + (x : Int) * 1)), none]) (st := st)
        (items := rL N N F) (g := []) (fun y => .int (F y x)) (by simp [ev, evi, fin, sview, gst, mlist]) guard_nil (fun y w hw => by
          obtain ⟨hy, rfl⟩ := rL_get hw
          refine ⟨_, rfl, ?_⟩
          have a : L2.atI (iL (tab N (F y))) (x : Int) = some (.int (F y x)) := by rw [gi_at (k := x) (by rw [tab_len]; exact hx) rfl, tab_get hx]
          simp [ev, fin, wipeE, Tg.slots, idxEv, sview, a]) (by rw [rL_len]; omega)
      rw [rL_len] at e2
      simp only [wipeE, Tg.slots, List.set]
      rw [ev, evs, e2]
      simp [newL, evs, fin, bfEv, lview, iL_tab]) (by rw [rngL_len]; omega)
  rw [rngL_len] at e1
  rw [evS, ev, evs, e1]
  simp [newL, evs, fin, bfEv, lview, rL]
/-- tuple([tuple(row) for row in square]) -/
theorem copy_ev {c : Cn} {l : Env} {st : Sto} {N : Nat} {F : Nat → Nat → Int} (hl : l = [some (.tup (rL N N F)), none, none, none]) (hN : N < 1000) : ev c false (.blt .tuple [.lc false (.blt .tuple [.var 3]) (.nm 3) (.seq (.var 0)) []]) l st = .ok (.tup (rL N N F)) st := by
  subst hl
  have sz : (10000 : Nat) ≤ sizeLine := by show 10000 ≤ 2 ^ 24; decide
  have e1 := ev_lc (c := c) (m := false) (e := .blt .tuple [.var 3]) (tg := .nm 3) (it := .seq (.var 0)) (l := [some (.tup (rL N N F)), none, none, none]) (st := st) (items := rL N N F) (g := []) (fun y => .tup (iL (tab N (F y))))
    (by simp [ev, evi, fin, sview, gst, mlist]) guard_nil (fun y v hv => by
      obtain ⟨hy, rfl⟩ := rL_get hv
      refine ⟨_, rfl, ?_⟩
      simp [ev, evs, fin, wipeE, Tg.slots, bfEv]) (by rw [rL_len]; omega)
  rw [rL_len] at e1
  rw [ev, evs, e1]
  simp [newL, evs, fin, bfEv, lview, rL]
end Pv

set_option Elab.async false
set_option linter.all false
set_option maxRecDepth 100000
set_option maxHeartbeats 1000000
namespace Pv
open PySem
def Rr (P : Nat → (Nat → Int) → Nat → Int) (h : Nat) (F : Nat → Nat → Int) : Nat → Nat → Int := fun y => if y < 2*h then P h (F y) else F y
def Tr (F : Nat → Nat → Int) : Nat → Nat → Int := fun y x => F x y
def Cc (P : Nat → (Nat → Int) → Nat → Int) (h : Nat) (F : Nat → Nat → Int) : Nat → Nat → Int := Tr (Rr P h (Tr F))
def fw : Nat → (Nat → Nat → Int) → Nat → Nat → Int
  | 0, F => F
  | k + 1, F => fw k (Cc sS (2^k) (Rr sS (2^k) F))
def bw : Nat → (Nat → Nat → Int) → Nat → Nat → Int
  | 0, F => F
  | k + 1, F => Rr sB (2^k) (Cc sB (2^k) (bw k F))
theorem Rr_inv {P Q : Nat → (Nat → Int) → Nat → Int} {h : Nat} (e : ∀ g x, P h (Q h g) x = g x) (F : Nat → Nat → Int) : Rr P h (Rr Q h F) = F := by
  funext y
  unfold Rr
  by_cases hy : y < 2*h
  · rw [if_pos hy, if_pos hy]
    funext x
    exact e _ _
  · rw [if_neg hy, if_neg hy]
theorem Cc_inv {P Q : Nat → (Nat → Int) → Nat → Int} {h : Nat} (e : ∀ g x, P h (Q h g) x = g x) (F : Nat → Nat → Int) : Cc P h (Cc Q h F) = F := by
  show Tr (Rr P h (Tr (Tr (Rr Q h (Tr F))))) = F
  show Tr (Rr P h (Rr Q h (Tr F))) = F
  rw [Rr_inv e]
  rfl
theorem bw_fw : ∀ (k : Nat) (F : Nat → Nat → Int), bw k (fw k F) = F
  | 0, _ => rfl
  | k + 1, F => by
    rw [fw, bw, bw_fw k, Cc_inv (sB_sS _), Rr_inv (sB_sS _)]
theorem fw_bw : ∀ (k : Nat) (F : Nat → Nat → Int), fw k (bw k F) = F
  | 0, _ => rfl
  | k + 1, F => by
    rw [fw, bw, Rr_inv (sS_sB _), Cc_inv (sS_sB _), fw_bw k]
theorem sS_out (h : Nat) (g : Nat → Int) (x : Nat) (hx : ¬ x < 2*h) : sS h g x = g x := by
  unfold sS
  rw [if_neg (by omega), if_neg hx]
theorem sB_out (h : Nat) (g : Nat → Int) (x : Nat) (hx : ¬ x < 2*h) : sB h g x = g x := by
  unfold sB
  rw [if_neg hx]
theorem pow_half (k : Nat) : (2 * ((2^k : Nat) : Int)) / 2 = ((2^k : Nat) : Int) := by omega
theorem forward_ok {T : List Fd} {G : List (Str × Val)} {i : Nat} (hT : T[i]? = some f_forward) (h0 : T[5]? = some f_stepped) (h2 : T[7]? = some f_turned) (h4 : T[9]? = some f_rows_stepped) (n K : Nat) (F : Nat → Nat → Int) (st : Sto) (hK : 2^K < 1000) :
    runF T G (n + 3) i [.tup (rL (2^K) (2^K) F)] st = .ok (.tup (rL (2^K) (2^K) (fw K F))) st := by
  refine call_eq hT rfl (by rw [belowV]; exact below_rL _ _ _ _) ?_
  have hf : frameOf f_forward [.tup (rL (2^K) (2^K) F)] = [some (.tup (rL (2^K) (2^K) F)), none, none, none] := rfl
  rw [hf]
  show W (evSs _ (_ :: _ :: _ :: _ :: []) _ _) _
  have rs : ∀ (h : Nat) (F : Nat → Nat → Int) (st : Sto), 2*h ≤ 2^K → runF T G (n + 2) 9 [.tup (rL (2^K) (2^K) F), .int (2 * (h : Int))] st = .ok (.tup (rL (2^K) (2^K) (Rr sS h F))) st := fun h F st hh =>
    rows_ok (j := 5) ⟨rfl, rfl, rfl⟩ h4 n (fun h g st hz => by rw [stepped_ok h0 n h (tab (2*h) g) _ st rfl tab_len hz, stepF_tab]) sS_out _ h F st hK hh
  have tn : ∀ (F : Nat → Nat → Int) (st : Sto), runF T G (n + 2) 7 [.tup (rL (2^K) (2^K) F)] st = .ok (.tup (rL (2^K) (2^K) (Tr F))) st := fun F st => turned_ok h2 (n + 1) _ F st hK
  rw [W_cons, evS, copy_ev rfl hK]
  simp only [R.fl_ok, W_nx, List.set]
  rw [W_cons]
  simp [evS, ev, evs, fin, bfEv, sview, rL_len]
  rw [W_cons]
  have wE : evS ⟨runF T G (n + 2), G⟩ (.whl (.cmp .ge (.var 2) (.num 2)) [.set 1 (.cal 9 [.var 1, .var 2] []), .set 1 (.cal 7 [.cal 9 [.cal 7 [.var 1] [], .var 2] []] []), .set 2 (.bin .fdiv (.var 2) (.num 2))]) [some (.tup (rL (2^K) (2^K) F)), some (.tup (rL (2^K) (2^K) F)), some (.int ((2^K : Nat) : Int)), none] st =
    whL (fun l st => ev ⟨runF T G (n + 2), G⟩ true (.cmp .ge (.var 2) (.num 2)) l st) (fun l st => evSs ⟨runF T G (n + 2), G⟩ [.set 1 (.cal 9 [.var 1, .var 2] []), .set 1 (.cal 7 [.cal 9 [.cal 7 [.var 1] [], .var 2] []] []), .set 2 (.bin .fdiv (.var 2) (.num 2))] l st) wfuel [some (.tup (rL (2^K) (2^K) F)), some (.tup (rL (2^K) (2^K) F)), some (.int ((2^K : Nat) : Int)), none] st := by rw [evS]
  simp only [Int.natCast_pow] at wE
  rw [show (((2 : Nat) : Int)) = 2 from rfl] at wE
  rw [wE]
  refine W_while K (fun k l st' => k ≤ K ∧ ∃ F', fw k F' = fw K F ∧ st' = st ∧ l = [some (.tup (rL (2^K) (2^K) F)), some (.tup (rL (2^K) (2^K) F')), some (.int ((2^k : Nat) : Int)), none]) (by have := Nat.lt_two_pow_self (n := K); omega) ⟨Nat.le_refl _, F, rfl, rfl, by simp⟩ ?_
  rintro k l st' ⟨hk, F', hF, rfl, rfl⟩
  cases k with
  | zero =>
    refine .inl ⟨_, by simp [ev, fin, cmEv]; rfl, ?_⟩
    simp only
    rw [W_cons]
    simp [evS, ev, fin]
    rw [← hF]
    rfl
  | succ k =>
    have c2 : ((2^(k+1) : Nat) : Int) = 2 * ((2^k : Nat) : Int) := by rw [Nat.pow_succ]; omega
    have hp : 0 < 2^k := Nat.two_pow_pos k
    have hle : 2 * 2^k ≤ 2^K := by
      have := Nat.pow_le_pow_right (n := 2) (by decide) hk
      rw [Nat.pow_succ] at this
      omega
    have r1 := rs (2^k) F' st' hle
    have r2 := tn (Rr sS (2^k) F') st'
    have r3 := rs (2^k) (Tr (Rr sS (2^k) F')) st' hle
    have r4 := tn (Rr sS (2^k) (Tr (Rr sS (2^k) F'))) st'
    rw [c2]
    have ph := pow_half k
    have hp' : (0 : Int) < ((2^k : Nat) : Int) := by omega
    generalize hqq : ((2^k : Nat) : Int) = q at r1 r3 c2 ph hp'
    refine .inr ⟨k, st', rfl, by simp [ev, fin, cmEv]; omega, ?_⟩
    rw [W_cons]
    simp [evS, ev, evs, evk, fin, putK0, r1]
    rw [W_cons]
    simp [evS, ev, evs, evk, fin, putK0, r2, r3, r4]
    rw [W_cons]
    simp [evS, ev, fin, binEv, opI, div_ok]
    simp only [W_nil]
    refine ⟨by omega, Cc sS (2^k) (Rr sS (2^k) F'), hF, ?_⟩
    rw [show (2 : Int) ^ k = q by rw [← hqq]; simp]
    exact ⟨trivial, rfl⟩
theorem backward_ok {T : List Fd} {G : List (Str × Val)} {i : Nat} (hT : T[i]? = some f_backward) (h1 : T[6]? = some f_stepped_back) (h2 : T[7]? = some f_turned) (h5 : T[10]? = some f_rows_stepped_back) (n K : Nat) (F : Nat → Nat → Int) (st : Sto) (hK : 2^K < 1000) :
    runF T G (n + 3) i [.tup (rL (2^K) (2^K) F)] st = .ok (.tup (rL (2^K) (2^K) (bw K F))) st := by
  refine call_eq hT rfl (by rw [belowV]; exact below_rL _ _ _ _) ?_
  have hf : frameOf f_backward [.tup (rL (2^K) (2^K) F)] = [some (.tup (rL (2^K) (2^K) F)), none, none, none] := rfl
  rw [hf]
  show W (evSs _ (_ :: _ :: _ :: _ :: []) _ _) _
  have rs : ∀ (h : Nat) (F : Nat → Nat → Int) (st : Sto), 2*h ≤ 2^K → runF T G (n + 2) 10 [.tup (rL (2^K) (2^K) F), .int (2 * (h : Int))] st = .ok (.tup (rL (2^K) (2^K) (Rr sB h F))) st := fun h F st hh =>
    rows_ok (j := 6) ⟨rfl, rfl, rfl⟩ h5 n (fun h g st hz => by rw [back_ok h1 n h (tab (2*h) g) _ st (.inl rfl) tab_len hz, bk_tab]) sB_out _ h F st hK hh
  have tn : ∀ (F : Nat → Nat → Int) (st : Sto), runF T G (n + 2) 7 [.tup (rL (2^K) (2^K) F)] st = .ok (.tup (rL (2^K) (2^K) (Tr F))) st := fun F st => turned_ok h2 (n + 1) _ F st hK
  rw [W_cons, evS, copy_ev rfl hK]
  simp only [R.fl_ok, W_nx, List.set]
  rw [W_cons]
  simp [evS, ev, fin]
  rw [W_cons]
  have wE : evS ⟨runF T G (n + 2), G⟩ (.whl (.cmp .le (.var 2) (.blt .len [.var 1])) [.set 1 (.cal 7 [.cal 10 [.cal 7 [.var 1] [], .var 2] []] []), .set 1 (.cal 10 [.var 1, .var 2] []), .set 2 (.bin .mul (.num 2) (.var 2))]) [some (.tup (rL (2^K) (2^K) F)), some (.tup (rL (2^K) (2^K) F)), some (.int 2), none] st =
    whL (fun l st => ev ⟨runF T G (n + 2), G⟩ true (.cmp .le (.var 2) (.blt .len [.var 1])) l st) (fun l st => evSs ⟨runF T G (n + 2), G⟩ [.set 1 (.cal 7 [.cal 10 [.cal 7 [.var 1] [], .var 2] []] []), .set 1 (.cal 10 [.var 1, .var 2] []), .set 2 (.bin .mul (.num 2) (.var 2))] l st) wfuel [some (.tup (rL (2^K) (2^K) F)), some (.tup (rL (2^K) (2^K) F)), some (.int 2), none] st := by rw [evS]
  rw [wE]
  refine W_while K (fun j l st' => ∃ k, k + j = K ∧ st' = st ∧ l = [some (.tup (rL (2^K) (2^K) F)), some (.tup (rL (2^K) (2^K) (bw k F))), some (.int (2 * ((2^k : Nat) : Int))), none]) (by have := Nat.lt_two_pow_self (n := K); omega) ⟨0, by omega, rfl, rfl⟩ ?_
  rintro j l st' ⟨k, hk, rfl, rfl⟩
  have hp : 0 < 2^k := Nat.two_pow_pos k
  cases j with
  | zero =>
    have ek : k = K := by omega
    subst ek
    refine .inl ⟨st', ?_, ?_⟩
    · have h : ¬ ((2 : Int) * 2^k ≤ 2^k) := by
        have : (0 : Int) < 2^k := by exact_mod_cast hp
        omega
      simp [ev, evs, fin, cmEv, bfEv, sview, rL_len, h]
    · simp only
      rw [W_cons]
      simp [evS, ev, fin]
  | succ j =>
    have hle : 2 * 2^k ≤ 2^K := by
      have := Nat.pow_le_pow_right (n := 2) (by decide) (show k + 1 ≤ K by omega)
      rw [Nat.pow_succ] at this
      omega
    have r2 := tn (bw k F) st'
    have r3 := rs (2^k) (Tr (bw k F)) st' hle
    have r4 := tn (Rr sB (2^k) (Tr (bw k F))) st'
    have r1 := rs (2^k) (Cc sB (2^k) (bw k F)) st' hle
    have c2 : ((2^(k+1) : Nat) : Int) = 2 * ((2^k : Nat) : Int) := by rw [Nat.pow_succ]; omega
    have c3 : 2 * ((2^k : Nat) : Int) ≤ ((2^K : Nat) : Int) := by omega
    refine .inr ⟨j, st', rfl, ?_, ?_⟩
    · have h : (2 : Int) * 2^k ≤ 2^K := by exact_mod_cast hle
      simp [ev, evs, fin, cmEv, bfEv, sview, rL_len, h]
    · generalize hqq : ((2^k : Nat) : Int) = q at r1 r3 c2 c3
      have r4' : runF T G (n + 2) 7 [.tup (rL (2 ^ K) (2 ^ K) (Rr sB (2 ^ k) (Tr (bw k F))))] st' = .ok (.tup (rL (2 ^ K) (2 ^ K) (Cc sB (2^k) (bw k F)))) st' := r4
      have mq : mulOk 2 (2 * q) := mul_l (by decide) (by decide)
      rw [W_cons]
      simp [evS, ev, evs, evk, fin, putK0, r2, r3, r4']
      rw [W_cons]
      simp [evS, ev, evs, evk, fin, putK0, r1]
      rw [W_cons]
      simp [evS, ev, fin, binEv, opI, mq]
      simp only [W_nil]
      refine ⟨k + 1, by omega, trivial, ?_⟩
      rw [show (2 : Int) ^ (k + 1) = 2 * q by rw [← c2]; simp]
      rfl
end Pv

set_option Elab.async false
set_option linter.all false
set_option maxRecDepth 100000
set_option maxHeartbeats 1000000
namespace Pv
open PySem
def lev (c q : Int) : Int := if 0 ≤ c then ((if c < 0 then -c else c) + q / 2) / q else -(((if c < 0 then -c else c) + q / 2) / q)
theorem level_ok {T : List Fd} {G : List (Str × Val)} {i : Nat} (hT : T[i]? = some f_level_of) (n : Nat) (c q : Int) (st : Sto) (hq : divOk q) : runF T G (n + 1) i [.int c, .int q] st = .ok (.int (lev c q)) st := by
  refine call_eq hT rfl rfl ?_
  have hf : frameOf f_level_of [.int c, .int q] = [some (.int c), some (.int q), none] := rfl
  rw [hf]
  show W (evSs _ (_ :: _ :: []) _ _) _
  rw [W_cons]
  simp [evS, ev, evs, fin, bfEv, binEv, opI, div_ok, hq]
  rw [W_cons]
  by_cases h : 0 ≤ c
  · simp [evS, ev, evs, fin, cmEv, h, lev]
  · simp [evS, ev, evs, fin, cmEv, h, lev, binEv, opI]
theorem lev_near {c q : Int} (hq : 1 ≤ q) : (if lev c q * q - c < 0 then -(lev c q * q - c) else lev c q * q - c) ≤ q / 2 := by
  have key : ∀ a : Int, 0 ≤ a → -(q / 2) ≤ (a + q / 2) / q * q - a ∧ (a + q / 2) / q * q - a ≤ q / 2 := by
    intro a ha
    have h1 := Int.ediv_mul_le (a + q / 2) (show q ≠ 0 by omega)
    have h2 := Int.lt_ediv_add_one_mul_self (a + q / 2) (show 0 < q by omega)
    rw [Int.add_mul, Int.one_mul] at h2
    omega
  by_cases h : 0 ≤ c
  · obtain ⟨h1, h2⟩ := key c h
    have e : lev c q = (c + q / 2) / q := by
      unfold lev
      rw [if_pos h, if_neg (by omega)]
    rw [e]
    split <;> omega
  · obtain ⟨h1, h2⟩ := key (-c) (by omega)
    have e : lev c q = -((-c + q / 2) / q) := by
      unfold lev
      rw [if_neg h, if_pos (by omega)]
    rw [e, Int.neg_mul]
    split <;> omega
theorem levels_ok {T : List Fd} {G : List (Str × Val)} {i : Nat} (hT : T[i]? = some f_levels) (hV : T[0]? = some f_level_of) (n : Nat) (N : Nat) (F : Nat → Nat → Int) (q : Int) (st : Sto) (hq : divOk q) (hN : N < 1000) :
    runF T G (n + 2) i [.tup (rL N N F), .int q] st = .ok (.tup (rL N N fun y x => lev (F y x) q)) st := by
  refine call_eq hT rfl (by rw [belowV]; exact below_rL _ _ _ _) ?_
  have sz : (10000 : Nat) ≤ sizeLine := by show 10000 ≤ 2 ^ 24; decide
  have hf : frameOf f_levels [.tup (rL N N F), .int q] = [some (.tup (rL N N F)), some (.int q), none, none] := rfl
  rw [hf]
  show W (evSs _ (_ :: []) _ _) _
  rw [W_cons]
  have e1 := ev_lc (c := ⟨runF T G (n + 1), G⟩) (m := false) (e := .blt .tuple [.lc false (.cal 0 [.var 3, .var 1] []) (.nm 3) (.seq (.var 2)) []]) (tg := .nm 2) (it := .seq (.var 0)) (l := [some (.tup (rL N N F)), some (.int q), none, none]) (st := st)
    (items := rL N N F) (g := []) (fun y => .tup (iL (tab N fun x => lev (F y x) q))) (by simp [ev, evi, fin, sview, gst, mlist]) guard_nil (fun y v hv => by
      obtain ⟨hy, rfl⟩ := rL_get hv
      refine ⟨_, rfl, ?_⟩
      have e2 := ev_lc (c := ⟨runF T G (n + 1), G⟩) (m := false) (e := .cal 0 [.var 3, .var 1] []) (tg := .nm 3) (it := .seq (.var 2)) (l := [some (.tup (rL N N F)), some (.int q), some (.tup (iL (tab N (F y)))), none]) (st := st)
        (items := iL (tab N (F y))) (g := []) (fun x => .int (lev (F y x) q)) (by simp [ev, evi, fin, sview, gst, mlist]) guard_nil (fun x w hw => by
          obtain ⟨hx, rfl⟩ := iL_get hw
          rw [tab_len] at hx
          refine ⟨_, rfl, ?_⟩
          have eg : (tab N (F y))[x]'(by rw [tab_len]; exact hx) = F y x := by simp [tab]
          rw [eg]
          simp [ev, evs, evk, fin, putK0, wipeE, Tg.slots, level_ok (G := G) hV n (F y x) q st hq]) (by rw [iL_len, tab_len]; omega)
      rw [iL_len, tab_len] at e2
      simp only [wipeE, Tg.slots, List.set]
      rw [ev, evs, e2]
      simp [newL, evs, fin, bfEv, lview, iL_tab]) (by rw [rL_len]; omega)
  rw [rL_len] at e1
  rw [evS, ev, evs, e1]
  simp [newL, evs, fin, bfEv, lview, rL]
theorem unlev_ok {T : List Fd} {G : List (Str × Val)} {i : Nat} (hT : T[i]? = some f_unlevelled) (n : Nat) (N : Nat) (F : Nat → Nat → Int) (q : Int) (st : Sto) (hq : ∀ x, mulOk x q) (hN : N < 1000) :
    runF T G (n + 1) i [.tup (rL N N F), .int q] st = .ok (.tup (rL N N fun y x => F y x * q)) st := by
  refine call_eq hT rfl (by rw [belowV]; exact below_rL _ _ _ _) ?_
  have sz : (10000 : Nat) ≤ sizeLine := by show 10000 ≤ 2 ^ 24; decide
  have hf : frameOf f_unlevelled [.tup (rL N N F), .int q] = [some (.tup (rL N N F)), some (.int q), none, none] := rfl
  rw [hf]
  show W (evSs _ (_ :: []) _ _) _
  rw [W_cons]
  have e1 := ev_lc (c := ⟨runF T G n, G⟩) (m := false) (e := .blt .tuple [.lc false (.bin .mul (.var 3) (.var 1)) (.nm 3) (.seq (.var 2)) []]) (tg := .nm 2) (it := .seq (.var 0)) (l := [some (.tup (rL N N F)), some (.int q), none, none]) (st := st)
    (items := rL N N F) (g := []) (fun y => .tup (iL (tab N fun x => F y x * q))) (by simp [ev, evi, fin, sview, gst, mlist]) guard_nil (fun y v hv => by
      obtain ⟨hy, rfl⟩ := rL_get hv
      refine ⟨_, rfl, ?_⟩
      have e2 := ev_lc (c := ⟨runF T G n, G⟩) (m := false) (e := .bin .mul (.var 3) (.var 1)) (tg := .nm 3) (it := .seq (.var 2)) (l := [some (.tup (rL N N F)), some (.int q), some (.tup (iL (tab N (F y)))), none]) (st := st)
        (items := iL (tab N (F y))) (g := []) (fun x => .int (F y x * q)) (by simp [ev, evi, fin, sview, gst, mlist]) guard_nil (fun x w hw => by
          obtain ⟨hx, rfl⟩ := iL_get hw
          rw [tab_len] at hx
          refine ⟨_, rfl, ?_⟩
          have eg : (tab N (F y))[x]'(by rw [tab_len]; exact hx) = F y x := by simp [tab]
          rw [eg]
          simp [ev, fin, wipeE, Tg.slots, binEv, opI, hq]) (by rw [iL_len, tab_len]; omega)
      rw [iL_len, tab_len] at e2
      simp only [wipeE, Tg.slots, List.set]
      rw [ev, evs, e2]
      simp [newL, evs, fin, bfEv, lview, iL_tab]) (by rw [rL_len]; omega)
  rw [rL_len] at e1
  rw [evS, ev, evs, e1]
  simp [newL, evs, fin, bfEv, lview, rL]
end Pv

set_option Elab.async false
set_option linter.all false
set_option maxRecDepth 100000
set_option maxHeartbeats 1000000
namespace Pv
open PySem
/-! ### the place bound -/
def bnd (q : Int) : Nat → Int
  | 0 => q / 2
  | k + 1 => bnd q k + ((q/2 + 1)/2 + (q/2 + (q/2 + 1)/2 + 1)/2)
def near (e x : Int) : Prop := -e ≤ x ∧ x ≤ e
theorem sB_err {h : Nat} {g g' : Nat → Int} {es ed : Int} {x : Nat} (hx : x < 2*h) (h1 : near es (g (x/2) - g' (x/2))) (h2 : near ed (g (h+x/2) - g' (h+x/2))) : near (es + (ed + 1)/2) (sB h g x - sB h g' x) := by
  unfold near at *
  unfold sB
  rw [if_pos hx, if_pos hx]
  generalize g (x/2) = a at *
  generalize g' (x/2) = a' at *
  generalize g (h+x/2) = b at *
  generalize g' (h+x/2) = b' at *
  by_cases h0 : x % 2 = 0
  · rw [if_pos h0, if_pos h0]
    omega
  · rw [if_neg h0, if_neg h0]
    omega
theorem bnd_ge {q : Int} (hq : 1 ≤ q) : ∀ k, q/2 ≤ bnd q k
  | 0 => Int.le_refl _
  | k + 1 => by
    have := bnd_ge hq k
    rw [bnd]
    omega
theorem bw_err {q : Int} (hq : 1 ≤ q) {F G : Nat → Nat → Int} (h0 : ∀ y x, near (q/2) (F y x - G y x)) : ∀ (k y x : Nat), near (if y < 2^k ∧ x < 2^k then bnd q k else q/2) (bw k F y x - bw k G y x)
  | 0, y, x => by
    have := h0 y x
    rw [bw, bw]
    split
    · exact this
    · exact this
  | k + 1, y, x => by
    have ih := bw_err hq h0 k
    have hb := bnd_ge hq k
    have hp : 0 < 2^k := Nat.two_pow_pos k
    rw [bw, bw, Nat.pow_succ]
    generalize bw k F = A at ih
    generalize bw k G = A' at ih
    generalize 2^k = h at ih hp
    -- behind the columns
    have cl : ∀ y x, y < 2*h → x < h → near (bnd q k + (q/2 + 1)/2) (Cc sB h A y x - Cc sB h A' y x) := fun y x hy hx => by
      show near _ ((if x < 2*h then sB h (fun z => A z x) else fun z => A z x) y - (if x < 2*h then sB h (fun z => A' z x) else fun z => A' z x) y)
      rw [if_pos (by omega), if_pos (by omega)]
      refine sB_err hy ?_ ?_
      · have := ih (y/2) x
        rw [if_pos (by omega)] at this
        exact this
      · have := ih (h + y/2) x
        rw [if_neg (by omega)] at this
        exact this
    have cr : ∀ y x, y < 2*h → h ≤ x → x < 2*h → near (q/2 + (q/2 + 1)/2) (Cc sB h A y x - Cc sB h A' y x) := fun y x hy hx hx2 => by
      show near _ ((if x < 2*h then sB h (fun z => A z x) else fun z => A z x) y - (if x < 2*h then sB h (fun z => A' z x) else fun z => A' z x) y)
      rw [if_pos (by omega), if_pos (by omega)]
      refine sB_err hy ?_ ?_
      · have := ih (y/2) x
        rw [if_neg (by omega)] at this
        exact this
      · have := ih (h + y/2) x
        rw [if_neg (by omega)] at this
        exact this
    have co : ∀ y x, ¬ (y < 2*h ∧ x < 2*h) → Cc sB h A y x = A y x ∧ Cc sB h A' y x = A' y x := fun y x hn => by
      have e : ∀ A : Nat → Nat → Int, Cc sB h A y x = A y x := fun A => by
        show (if x < 2*h then sB h (fun z => A z x) else fun z => A z x) y = A y x
        by_cases hx : x < 2*h
        · rw [if_pos hx, sB_out _ _ _ (by omega)]
        · rw [if_neg hx]
      exact ⟨e A, e A'⟩
    generalize Cc sB h A = B at cl cr co
    generalize Cc sB h A' = B' at cl cr co
    show near _ ((if y < 2*h then sB h (B y) else B y) x - (if y < 2*h then sB h (B' y) else B' y) x)
    by_cases hy : y < 2*h
    · rw [if_pos hy, if_pos hy]
      by_cases hx : x < 2*h
      · rw [if_pos (by omega), bnd]
        have := sB_err (g := B y) (g' := B' y) hx (cl y (x/2) hy (by omega)) (cr y (h + x/2) hy (by omega) (by omega))
        unfold near at *
        omega
      · rw [if_neg (by omega), sB_out _ _ _ hx, sB_out _ _ _ hx]
        obtain ⟨e1, e2⟩ := co y x (by omega)
        rw [e1, e2]
        have := ih y x
        rw [if_neg (by omega)] at this
        exact this
    · rw [if_neg hy, if_neg hy, if_neg (by omega)]
      obtain ⟨e1, e2⟩ := co y x (by omega)
      rw [e1, e2]
      have := ih y x
      rw [if_neg (by omega)] at this
      exact this
/-- what comes back -/
theorem back_near {q : Int} (hq : 1 ≤ q) (K : Nat) (F : Nat → Nat → Int) {y x : Nat} (hy : y < 2^K) (hx : x < 2^K) : near (bnd q K) (bw K (fun y x => lev (fw K F y x) q * q) y x - F y x) := by
  have h0 : ∀ y x, near (q/2) (lev (fw K F y x) q * q - fw K F y x) := fun y x => by
    have := lev_near (c := fw K F y x) hq
    unfold near
    split at this <;> omega
  have := bw_err hq h0 K y x
  rw [if_pos ⟨hy, hx⟩, bw_fw] at this
  exact this
/-! ### the program's and the law's bound -/
theorem half_ok {T : List Fd} {G : List (Str × Val)} {i : Nat} (hT : T[i]? = some f_half_up) (n : Nat) (v : Int) (st : Sto) : runF T G (n + 1) i [.int v] st = .ok (.int ((v + 1)/2)) st := by
  refine call_eq hT rfl rfl ?_
  have hf : frameOf f_half_up [.int v] = [some (.int v)] := rfl
  rw [hf]
  show W (evSs _ (_ :: []) _ _) _
  rw [W_cons]
  simp [evS, ev, fin, binEv, opI, div_ok]
theorem pbound_ok {T : List Fd} {G : List (Str × Val)} {i : Nat} (hT : T[i]? = some f_place_bound) (hH : T[3]? = some f_half_up) (n K : Nat) (q : Int) (st : Sto) (hK : K < 100) : runF T G (n + 2) i [.int ((2^K : Nat) : Int), .int q] st = .ok (.int (bnd q K)) st := by
  refine call_eq hT rfl rfl ?_
  have hf : frameOf f_place_bound [.int ((2^K : Nat) : Int), .int q] = [some (.int ((2^K : Nat) : Int)), some (.int q), none, none, none] := rfl
  rw [hf]
  show W (evSs _ (_ :: _ :: _ :: _ :: _ :: []) _ _) _
  generalize hN : ((2^K : Nat) : Int) = N
  rw [W_cons]
  simp [evS, ev, fin, binEv, opI, div_ok]
  rw [W_cons]
  simp [evS, ev, fin]
  rw [W_cons]
  simp [evS, ev, fin]
  rw [W_cons, evS]
  refine W_while K (fun j l st' => ∃ k, k + j = K ∧ st' = st ∧ l = [some (.int N), some (.int q), some (.int (q/2)), some (.int (bnd q k)), some (.int (2 * ((2^k : Nat) : Int)))]) (by omega) ⟨0, by omega, rfl, rfl⟩ ?_
  rintro j l st' ⟨k, hk, rfl, rfl⟩
  have hp : 0 < 2^k := Nat.two_pow_pos k
  cases j with
  | zero =>
    have ek : k = K := by omega
    subst ek
    refine .inl ⟨st', ?_, ?_⟩
    · have h : ¬ (2 * ((2^k : Nat) : Int) ≤ N) := by omega
      generalize ((2^k : Nat) : Int) = Q at h
      simp [ev, fin, cmEv, h]
    · dsimp only
      rw [W_cons]
      simp [evS, ev, fin]
  | succ j =>
    have hle : 2 * ((2^k : Nat) : Int) ≤ N := by
      have := Nat.pow_le_pow_right (n := 2) (by decide) (show k + 1 ≤ K by omega)
      rw [Nat.pow_succ] at this
      omega
    have c2 : ((2^(k+1) : Nat) : Int) = 2 * ((2^k : Nat) : Int) := by rw [Nat.pow_succ]; omega
    refine .inr ⟨j, st', rfl, ?_, ?_⟩
    · generalize ((2^k : Nat) : Int) = Q at hle
      simp [ev, fin, cmEv, hle]
    · have P : ∀ l st, l = [some (Val.int N), some (.int q), some (.int (q/2)), some (.int (bnd q (k+1))), some (.int (2 * (2 * ((2^k : Nat) : Int))))] → st = st' → ∃ k, k + j = K ∧ st = st' ∧ l = [some (.int N), some (.int q), some (.int (q/2)), some (.int (bnd q k)), some (.int (2 * ((2^k : Nat) : Int)))] := by
        rintro l st rfl rfl
        exact ⟨k + 1, by omega, rfl, by rw [c2]⟩
      generalize ((2^k : Nat) : Int) = Q at hle P
      have hh := fun v st => half_ok (G := G) hH n v st
      have mq : mulOk 2 (2 * Q) := mul_l (by decide) (by decide)
      rw [W_cons]
      simp [evS, ev, evs, evk, fin, putK0, hh, binEv, opI]
      rw [W_cons]
      simp [evS, ev, fin, binEv, opI, mq]
      simp only [W_nil]
      have := P _ st' rfl rfl
      rw [bnd] at this
      simpa using this
end Pv

set_option Elab.async false
set_option linter.all false
set_option maxRecDepth 100000
set_option maxHeartbeats 1000000
namespace Pv
open PySem
theorem lbound_ok {T : List Fd} {G : List (Str × Val)} {i : Nat} (hT : T[i]? = some f_l_bound) (n K : Nat) (q : Int) (st : Sto) (hK : K = 1 ∨ K = 2 ∨ K = 3) : runF T G (n + 1) i [.int ((2^K : Nat) : Int), .int q] st = .ok (.int (bnd q K)) st := by
  refine call_eq hT rfl rfl ?_
  have sz : (10000 : Nat) ≤ sizeLine := by show 10000 ≤ 2 ^ 24; decide
  have hf : frameOf f_l_bound [.int ((2^K : Nat) : Int), .int q] = [some (.int ((2^K : Nat) : Int)), some (.int q), none, none, none, none] := rfl
  rw [hf]
  show W (evSs _ (_ :: _ :: _ :: _ :: _ :: []) _ _) _
  rw [W_cons]
  simp [evS, ev, fin, binEv, opI, div_ok]
  rw [W_cons]
  simp [evS, ev, fin, binEv, opI, div_ok]
  rw [W_cons]
  simp [evS, ev, fin]
  rw [W_cons]
  simp [evS, evi, ev, evs, fin, sview, gst, mlist, show 3 ≤ sizeLine by omega]
  refine W_for (fun t l st' => (∃ x, l = [some (.int ((2^K : Nat) : Int)), some (.int q), some (.int (q/2)), some (.int ((q/2 + 1)/2)), some (.int (bnd q (min t K))), x]) ∧ st' = st) ⟨⟨none, by simp [bnd]⟩, rfl⟩ (fun _ _ _ _ => guard_nil) ?_ ?_
  · rintro t v l st' hv ⟨⟨x, rfl⟩, rfl⟩
    have ht : t < 3 := (List.getElem?_eq_some_iff.mp hv).1
    have ev' : v = .int ((2^(t+1) : Nat) : Int) := by
      have : t = 0 ∨ t = 1 ∨ t = 2 := by omega
      rcases this with rfl | rfl | rfl <;> (simp at hv; rw [← hv]; rfl)
    subst ev'
    refine ⟨_, rfl, ?_⟩
    rw [W_cons]
    by_cases hle : t + 1 ≤ K
    · have hp : ((2^(t+1) : Nat) : Int) ≤ ((2^K : Nat) : Int) := by
        have := Nat.pow_le_pow_right (n := 2) (by decide) hle
        omega
      have e1 : min t K = t := by omega
      have e2 : min (t + 1) K = t + 1 := by omega
      rw [e1]
      generalize ((2^(t+1) : Nat) : Int) = A at hp
      generalize ((2^K : Nat) : Int) = B at hp
      simp [evS, ev, fin, cmEv, hp]
      rw [W_cons]
      simp [evS, ev, fin, binEv, opI, div_ok]
      simp only [W_nil]
      refine ⟨⟨some (.int A), ?_⟩, trivial⟩
      rw [e2, bnd]
      have : bnd q t + (q / 2 + 1) / 2 + (q / 2 + (q / 2 + 1) / 2 + 1) / 2 = bnd q t + ((q / 2 + 1) / 2 + (q / 2 + (q / 2 + 1) / 2 + 1) / 2) := by omega
      rw [this]
    · have hp : ¬ ((2^(t+1) : Nat) : Int) ≤ ((2^K : Nat) : Int) := by
        have := Nat.pow_lt_pow_right (a := 2) (by decide) (show K < t + 1 by omega)
        omega
      have e1 : min t K = K := by omega
      have e2 : min (t + 1) K = K := by omega
      rw [e1]
      generalize ((2^(t+1) : Nat) : Int) = A at hp
      generalize ((2^K : Nat) : Int) = B at hp
      simp [evS, ev, fin, cmEv, hp]
      simp only [W_nil]
      exact ⟨⟨_, by rw [e2]⟩, trivial⟩
  · rintro l st' ⟨⟨x, rfl⟩, rfl⟩
    dsimp only
    rw [W_cons]
    have e : min [Val.int 2, Val.int 4, Val.int 8].length K = K := by show min 3 K = K; omega
    rw [e]
    simp [evS, ev, fin]
theorem isint_ok {T : List Fd} {G : List (Str × Val)} {i : Nat} (hT : T[i]? = some f_l_is_integer) (n : Nat) (v : Int) (st : Sto) : runF T G (n + 1) i [.int v] st = .ok (.bl true) st := by
  refine call_eq hT rfl rfl ?_
  have hf : frameOf f_l_is_integer [.int v] = [some (.int v)] := rfl
  rw [hf]
  show W (evSs _ (_ :: []) _ _) _
  rw [W_cons]
  simp [evS, ev, fin, isiEv]
theorem isq_ok {T : List Fd} {G : List (Str × Val)} {i : Nat} (hT : T[i]? = some f_l_is_square) (hI : T[21]? = some f_l_is_integer) (n : Nat) (N : Nat) (F : Nat → Nat → Int) (st : Sto) : runF T G (n + 2) i [.tup (rL N N F), .int N] st = .ok (.bl true) st := by
  refine call_eq hT rfl rfl ?_
  have hf : frameOf f_l_is_square [.tup (rL N N F), .int N] = [some (.tup (rL N N F)), some (.int N), none, none] := rfl
  rw [hf]
  show W (evSs _ (_ :: _ :: _ :: []) _ _) _
  rw [W_cons]
  simp [evS, ev, evs, fin, isiEv, bfEv, sview, rL_len, cmEv, eqEv]
  simp only [W_nil]
  rw [W_cons]
  simp [evS, ev, evi, fin, sview, gst, mlist]
  refine W_for (fun _ l st' => (∃ x y, l = [some (.tup (rL N N F)), some (.int N), x, y]) ∧ st' = st) ⟨⟨_, _, rfl⟩, rfl⟩ (fun _ _ _ _ => guard_nil) ?_ ?_
  · rintro j w l st' hw ⟨⟨x, y, rfl⟩, rfl⟩
    obtain ⟨hj, rfl⟩ := rL_get hw
    refine ⟨_, rfl, ?_⟩
    rw [W_cons]
    simp [evS, ev, evs, fin, isiEv, bfEv, sview, iL_len, tab_len, cmEv, eqEv]
    simp only [W_nil]
    rw [W_cons]
    simp [evS, ev, evi, fin, sview, gst, mlist]
    refine W_for (fun _ l st'' => (∃ y, l = [some (.tup (rL N N F)), some (.int N), some (.tup (iL (tab N (F j)))), y]) ∧ st'' = st') ⟨⟨_, rfl⟩, rfl⟩ (fun _ _ _ _ => guard_nil) ?_ ?_
    · rintro k w l st'' hw ⟨⟨y, rfl⟩, rfl⟩
      obtain ⟨hk, rfl⟩ := iL_get hw
      refine ⟨_, rfl, ?_⟩
      rw [W_cons]
      simp [evS, ev, evs, evk, fin, putK0, isint_ok hI]
      simp only [W_nil]
      exact ⟨⟨_, rfl⟩, trivial⟩
    · rintro l st'' ⟨⟨y, rfl⟩, rfl⟩
      simp only [W_nil]
      exact ⟨⟨_, _, rfl⟩, trivial⟩
  · rintro l st' ⟨⟨x, y, rfl⟩, rfl⟩
    dsimp only
    rw [W_cons]
    simp [evS, ev]
theorem within_ok (n K : Nat) (q : Int) (F : Nat → Nat → Int) (st : Sto) (hK : K = 1 ∨ K = 2 ∨ K = 3) (hq : 1 ≤ q ∧ q < 1000000000000) : runF tabT tabG (n + 5) 23 [.tup (rL (2^K) (2^K) F), .int ((2^K : Nat) : Int), .int q] st = .ok (.bl true) st := by
  refine call_eq (d := f_l_within) rfl rfl rfl ?_
  have hf : frameOf f_l_within [.tup (rL (2^K) (2^K) F), .int ((2^K : Nat) : Int), .int q] = [some (.tup (rL (2^K) (2^K) F)), some (.int ((2^K : Nat) : Int)), some (.int q), none, none, none, none, none, none, none] := rfl
  rw [hf]
  have hN : 2^K ≤ 8 := Nat.pow_le_pow_right (n := 2) (by decide) (show K ≤ 3 by omega)
  have fo := fun F => forward_ok (T := tabT) (G := tabG) (i := 8) rfl rfl rfl rfl (n + 1) K F st (by omega)
  have ba := fun F => backward_ok (T := tabT) (G := tabG) (i := 11) rfl rfl rfl rfl (n + 1) K F st (by omega)
  have iq := fun F => isq_ok (T := tabT) (G := tabG) (i := 22) rfl rfl (n + 2) (2^K) F st
  have le := fun F => levels_ok (T := tabT) (G := tabG) (i := 1) rfl rfl (n + 2) (2^K) F q st (div_ok (by omega) (by omega)) (by omega)
  have un := fun F => unlev_ok (T := tabT) (G := tabG) (i := 2) rfl (n + 3) (2^K) F q st (fun x => mul_r (by omega) (by omega)) (by omega)
  have bo := lbound_ok (T := tabT) (G := tabG) (i := 14) rfl (n + 3) K q st hK
  have bn := fun (y x : Nat) (hy : y < 2^K) (hx : x < 2^K) => back_near hq.1 K F hy hx
  generalize 2^K = N at *
  have hr : inR (N : Int) := by unfold inR; omega
  have tn : (N : Int).toNat = N := by omega
  generalize hM : (N : Int) = M at iq bo hr tn
  show W (evSs _ (_ :: _ :: _ :: _ :: _ :: _ :: _ :: _ :: _ :: _ :: _ :: []) _ _) _
  rw [W_cons]
  simp [evS, ev, evs, evk, fin, putK0, fo]
  rw [W_cons]
  simp [evS, ev, evs, evk, fin, putK0, iq]
  simp only [W_nil]
  rw [W_cons]
  simp [evS, ev, evs, evk, fin, putK0, le]
  rw [W_cons]
  simp [evS, ev, evs, evk, fin, putK0, iq]
  simp only [W_nil]
  rw [W_cons]
  simp [evS, ev, evs, evk, fin, putK0, un]
  rw [W_cons]
  simp [evS, ev, evs, evk, fin, putK0, iq]
  simp only [W_nil]
  rw [W_cons]
  simp [evS, ev, evs, evk, fin, putK0, ba]
  rw [W_cons]
  simp [evS, ev, evs, evk, fin, putK0, iq]
  simp only [W_nil]
  rw [W_cons]
  simp [evS, ev, evs, evk, fin, putK0, bo]
  rw [W_cons]
  simp [evS, evi, ev, evs, fin, rngEv, hr, tn]
  refine W_for (fun _ l st' => (∃ x y, l = [some (.tup (rL N N F)), some (.int M), some (.int q), some (.tup (rL N N (fw K F))), some (.tup (rL N N fun y x => lev (fw K F y x) q)), some (.tup (rL N N fun y x => lev (fw K F y x) q * q)), some (.tup (rL N N (bw K fun y x => lev (fw K F y x) q * q))), some (.int (bnd q K)), x, y]) ∧ st' = st) ⟨⟨_, _, rfl⟩, rfl⟩ (fun _ _ _ _ => guard_nil) ?_ ?_
  · rintro y w l st' hw ⟨⟨u, v, rfl⟩, rfl⟩
    obtain ⟨hy, rfl⟩ := rngL_get' hw
    refine ⟨_, rfl, ?_⟩
    rw [W_cons]
    simp [evS, evi, ev, evs, fin, rngEv, hr, tn]
    refine W_for (fun _ l st'' => (∃ x, l = [some (.tup (rL N N F)), some (.int M), some (.int q), some (.tup (rL N N (fw K F))), some (.tup (rL N N fun y x => lev (fw K F y x) q)), some (.tup (rL N N fun y x => lev (fw K F y x) q * q)), some (.tup (rL N N (bw K fun y x => lev (fw K F y x) q * q))), some (.int (bnd q K)), some (.int (y : Int)), x]) ∧ st'' = st') ⟨⟨_, rfl⟩, rfl⟩ (fun _ _ _ _ => guard_nil) ?_ ?_
    · rintro x w l st'' hw ⟨⟨v, rfl⟩, rfl⟩
      obtain ⟨hx, rfl⟩ := rngL_get' hw
      refine ⟨_, rfl, ?_⟩
      have r1 : ∀ H, L2.atI (rL N N H) (y : Int) = some (.tup (iL (tab N (H y)))) := fun H => rL_at hy rfl
      have r2 : ∀ f, L2.atI (iL (tab N f)) (x : Int) = some (.int (f x)) := fun f => by rw [gi_at (k := x) (by rw [tab_len]; exact hx) rfl, tab_get hx]
      have mq : ∀ z, mulOk q z := fun z => mul_l (by omega) (by omega)
      have b := bn y x hy hx
      have cm := Int.mul_comm q (lev (fw K F y x) q)
      unfold near at b
      generalize bw K (fun y x => lev (fw K F y x) q * q) = H at b
      rw [W_cons]
      have hb : ¬ (bnd q K < if H y x - F y x < 0 then -(H y x - F y x) else H y x - F y x) := by
        split <;> omega
      simp [evS, ev, evs, fin, idxEv, sview, r1, r2, binEv, opI, mq, cmEv, eqEv, cm, bfEv, hb]
      simp only [W_nil]
      exact ⟨⟨_, rfl⟩, trivial⟩
    · rintro l st'' ⟨⟨v, rfl⟩, rfl⟩
      simp only [W_nil]
      exact ⟨⟨_, _, rfl⟩, trivial⟩
  · rintro l st' ⟨⟨u, v, rfl⟩, rfl⟩
    dsimp only
    rw [W_cons]
    simp [evS, ev]
end Pv

set_option Elab.async false
set_option linter.all false
set_option maxRecDepth 100000
set_option maxHeartbeats 1000000
namespace Pv
open PySem
theorem backL_ok {T : List Fd} {G : List (Str × Val)} {i : Nat} (hT : T[i]? = some f_l_step_back) (n : Nat) (h : Nat) (l : List Int) (v : Val) (st : Sto) (hv : ∀ e, sview (st ++ e) v = some (iL l)) (hl : l.length = 2 * h) (hz : h < 1000) : runF T G (n + 1) i [v] st = .ok (.lst (iL (bk h l h))) st := by
  refine call_eq hT rfl (below_ints _ _) ?_
  have hf : frameOf f_l_step_back [v] = [some v, none, none, none, none] := rfl
  have sz : (10000 : Nat) ≤ sizeLine := by show 10000 ≤ 2 ^ 24; decide
  have hd : (2 * (h : Int)) / 2 = h := by omega
  have hs0 : sview st v = some (iL l) := by have := hv []; rwa [List.append_nil] at this
  rw [hf]
  show W (evSs _ (_ :: _ :: _ :: _ :: _ :: []) _ _) _
  rw [W_cons]
  simp [evS, ev, evs, fin, bfEv, hs0, hl, binEv, opI, div_ok, hd]
  rw [W_cons]
  simp [evS, ev, evs, fin, newL]
  rw [W_cons]
  have hr : inR h := by unfold inR; omega
  simp [evS, evi, ev, evs, fin, rngEv, hr]
  refine W_for (fun k l' st' => (∃ x y, l' = [some v, some (.int h), some (.ref st.length), x, y]) ∧ st' = st ++ [.lst (iL (bk h l k))]) ⟨⟨_, _, rfl⟩, rfl⟩ (fun _ _ _ _ => guard_nil) ?_ ?_
  · rintro j w l' st' hw ⟨⟨x, y, rfl⟩, rfl⟩
    obtain ⟨hj, rfl⟩ := rngL_get' hw
    refine ⟨_, rfl, ?_⟩
    have a1 : L2.atI (iL l) (j : Int) = some (.int (gi l j)) := gi_at (by omega) rfl
    have a2 : L2.atI (iL l) ((h : Int) + (j : Int)) = some (.int (gi l (h + j))) := gi_at (by omega) (by omega)
    rw [W_cons]
    simp [evS, ev, evs, fin, idxEv, hv, binEv, opI, div_ok, a1, a2]
    rw [W_cons]
    simp [evS, ev, evs, fin, idxEv, hv, binEv, opI, a1, a2, mlist, st_get0, st_set0, appEv, iL_len, bk_len, show 2 * j < sizeLine by omega]
    rw [W_cons]
    simp [evS, ev, evs, fin, mlist, st_get0, st_set0, appEv, iL_len, bk_len, show 2 * j + 1 < sizeLine by omega]
    simp only [W_nil]
    exact ⟨⟨_, _, rfl⟩, by rw [bk_succ]; simp [iL]⟩
  · rintro l' st' ⟨⟨x, y, rfl⟩, rfl⟩
    rw [rngL_len]
    dsimp only
    rw [W_cons]
    simp [evS, frzEv, st_get0, thaw_ints, killAll, st_set0]
    rw [W_cons]
    simp [evS, ev, fin]
theorem cell_ok {T : List Fd} {G : List (Str × Val)} {i : Nat} (hT : T[i]? = some f_l_cell) (n : Nat) (ns : List Int) (k : Nat) (st : Sto) : ∃ z : Int, runF T G (n + 1) i [.scr ns, .int k] st = .ok (.int z) st := by
  by_cases h : k < ns.length
  · refine ⟨ns[k], call_ret0 hT rfl ?_⟩
    have e : L2.atI (ns.map Val.int) (k : Int) = some (.int ns[k]) := by
      rw [atI_nat (by simpa using h)]
      simp
    simp [f_l_cell, evSs, evS, ev, evs, frameOf, fin, bfEv, sview, cmEv, truth, idxEv, h, e]
  · refine ⟨0, call_ret0 hT rfl ?_⟩
    simp [f_l_cell, evSs, evS, ev, evs, frameOf, fin, bfEv, sview, cmEv, truth, idxEv, h]
theorem mul_m1 {x y : Int} : mulOk x (y % 2147483647) := .inr (.inl ⟨by omega, by omega⟩)
def rowP (c m base salt : Int) (st : Sto) (i : Nat) (l : Env) (st' : Sto) : Prop := ∃ (left : Int) (x6 x7 x8 : Option Val) (ds : List Int), l = [some (.int c), some (.int m), some (.int base), some (.int salt), some (.ref st.length), some (.int left), x6, x7, x8] ∧
  st' = st ++ [.lst (iL ds)] ∧ ds.length = i ∧ ∀ d ∈ ds, 0 ≤ d ∧ d < base
theorem row_ok {T : List Fd} {G : List (Str × Val)} {i : Nat} (hT : T[i]? = some f_l_row) (n : Nat) (c : Int) (m : Nat) (base salt : Int) (st : Sto) (hm : m < 1000) (h1 : 0 < base) (h2 : base < 1000000000000000) :
    ∃ ds : List Int, ds.length = m ∧ (∀ d ∈ ds, 0 ≤ d ∧ d < base) ∧ runF T G (n + 1) i [.int c, .int m, .int base, .int salt] st = .ok (.lst (iL ds)) st := by
  have := call_W (G := G) (n := n) (st := st) (args := [.int c, .int m, .int base, .int salt]) (fun v => ∃ ds : List Int, v = .lst (iL ds) ∧ ds.length = m ∧ ∀ d ∈ ds, 0 ≤ d ∧ d < base) hT rfl ?_
  · obtain ⟨v, ⟨ds, rfl, h1, h2⟩, e⟩ := this
    exact ⟨ds, h1, h2, e⟩
  have hb : divOk base := div_ok h1 (by omega)
  have main : ∀ (left : Int) (l : Env), l = [some (.int c), some (.int m), some (.int base), some (.int salt), some (.ref st.length), some (.int left), none, none, none] → W (evSs ⟨runF T G n, G⟩ (f_l_row.body.drop 3) l (st ++ [.lst []]))
    { N := fun _ st' => (∃ e, st' = st ++ e) ∧ False, R := fun v st' => (∃ e, st' = st ++ e) ∧ belowV st.length v = true ∧ ∃ ds : List Int, v = .lst (iL ds) ∧ ds.length = m ∧ ∀ d ∈ ds, 0 ≤ d ∧ d < base } := by
    rintro left l rfl
    show W (evSs _ (_ :: _ :: _ :: []) _ _) _
    rw [W_cons]
    have hr : inR m := by unfold inR; omega
    simp [evS, evi, ev, evs, fin, rngEv, hr]
    refine W_for (rowP c m base salt st) ⟨left, none, none, none, [], rfl, rfl, rfl, fun d h => by simp at h⟩ (fun _ _ _ _ => guard_nil) ?_ ?_
    · rintro j v l st' hv ⟨left, x6, x7, x8, ds, rfl, rfl, hd, hbd⟩
      obtain ⟨hj, rfl⟩ := rngL_get' hv
      refine ⟨_, rfl, ?_⟩
      have hz : ds.length < sizeLine := by rw [hd]; show j < 2 ^ 24; omega
      rw [W_cons]
      by_cases hq : 0 < left
      · simp [evS, ev, evs, fin, bfEv, cmEv, hq, W_cons, W_nil, binEv, opI, h1, hb, mlist, appEv, st_get0, st_set0, hz]
        exact ⟨left / base, _, _, _, ds ++ [_], rfl, congrArg (fun z => st ++ [Ob.lst z]) (iL_snoc ds _).symm, by simp [hd], snoc_all hbd ⟨Int.emod_nonneg _ (by omega), Int.emod_lt_of_pos _ h1⟩⟩
      · simp [evS, ev, evs, fin, bfEv, cmEv, hq, W_cons, W_nil, binEv, opI, h1, div_ok, mlist, appEv, st_get0, st_set0, hz, mul_r, mul_m1]
        exact ⟨left, _, _, _, ds ++ [_], rfl, congrArg (fun z => st ++ [Ob.lst z]) (iL_snoc ds _).symm, by simp [hd], snoc_all hbd ⟨Int.emod_nonneg _ (by omega), Int.emod_lt_of_pos _ h1⟩⟩
    · rintro l st' ⟨left, x6, x7, x8, ds, rfl, rfl, hd, hbd⟩
      rw [rngL_len] at hd
      dsimp only
      rw [W_cons]
      simp [evS, frzEv, st_get0, thaw_ints, killAll, st_set0]
      rw [W_cons]
      simp [evS, ev, fin]
      exact ⟨below_ints _ _, ds, rfl, hd, hbd⟩
  have hf : frameOf f_l_row [.int c, .int m, .int base, .int salt] = [some (.int c), some (.int m), some (.int base), some (.int salt), none, none, none, none, none] := rfl
  rw [hf]
  show W (evSs _ (_ :: _ :: _ :: f_l_row.body.drop 3) _ _) _
  rw [W_cons]
  simp [evS, ev, evs, fin, newL]
  rw [W_cons]
  simp [evS, ev, fin]
  rw [W_cons]
  by_cases hq : (1000000000000000000 : Int) ≤ c
  · simp [evS, ev, fin, binEv, opI, powOk, cmEv, hq]
    rw [W_cons]
    simp [evS, ev, fin]
    simp only [W_nil]
    exact (main c _ rfl).mono (fun _ _ h => h.2.elim) (fun _ _ h => h) (fun _ _ h => h) fun _ _ h => h
  · simp [evS, ev, fin, binEv, opI, powOk, cmEv, hq]
    simp only [W_nil]
    exact (main 0 _ rfl).mono (fun _ _ h => h.2.elim) (fun _ _ h => h) (fun _ _ h => h) fun _ _ h => h
theorem sign_ok {T : List Fd} {G : List (Str × Val)} {i : Nat} (hT : T[i]? = some f_l_sign) (n : Nat) (w y x k : Int) (st : Sto) (hw : 0 ≤ w ∧ w < 4) : ∃ s : Int, (-1 ≤ s ∧ s ≤ 1) ∧ runF T G (n + 1) i [.int w, .int y, .int x, .int k] st = .ok (.int s) st := by
  have := call_W (G := G) (n := n) (st := st) (args := [.int w, .int y, .int x, .int k]) (fun v => ∃ s : Int, v = .int s ∧ -1 ≤ s ∧ s ≤ 1) hT rfl ?_
  · obtain ⟨v, ⟨s, rfl, h⟩, e⟩ := this
    exact ⟨s, h, e⟩
  have hf : frameOf f_l_sign [.int w, .int y, .int x, .int k] = [some (.int w), some (.int y), some (.int x), some (.int k), none] := rfl
  rw [hf]
  show W (evSs _ (_ :: _ :: _ :: _ :: _ :: _ :: []) _ _) _
  rw [W_cons]
  by_cases h1 : w < 2
  · simp [evS, ev, fin, cmEv, h1]
    rw [W_cons]
    simp [evS, ev, fin, binEv, opI, mul_l, belowV]
    omega
  · simp [evS, ev, fin, cmEv, h1]
    simp only [W_nil]
    rw [W_cons]
    by_cases h2 : w = 3
    · simp [evS, ev, fin, cmEv, eqEv, h2]
      rw [W_cons]
      simp [evS, ev, evs, bfEv, fin, binEv, opI, mul_l, belowV]
      omega
    · simp [evS, ev, fin, cmEv, eqEv, h2]
      simp only [W_nil]
      rw [W_cons]
      simp [evS, ev, fin]
      have tail : ∀ a : Int, W (evSs ⟨runF T G n, G⟩ [.ret (.bin .sub (.num 1) (.bin .mul (.num 2) (.blt .int [.cmp .ne (.cmp .ge (.var 1) (.var 4)) (.cmp .ge (.var 2) (.var 4))])))] [some (.int w), some (.int y), some (.int x), some (.int k), some (.int a)] st)
          { N := fun _ st' => (∃ e, st' = st ++ e) ∧ ∃ s : Int, Val.non = .int s ∧ -1 ≤ s ∧ s ≤ 1, R := fun v st' => (∃ e, st' = st ++ e) ∧ belowV st.length v = true ∧ ∃ s : Int, v = .int s ∧ -1 ≤ s ∧ s ≤ 1 } := by
        intro a
        rw [W_cons]
        simp only [evS, ev, evs, fin, cmEv, eqEv, R.bind_ok, List.getElem?_cons_succ, List.getElem?_cons_zero, bfEv, binEv, opI]
        have mz : ∀ z : Int, mulOk 2 z := fun z => mul_l (by decide) (by decide)
        simp only [mz, if_true, R.bind_ok, R.fl_ok, W_ret]
        refine ⟨⟨[], by simp⟩, rfl, _, rfl, ?_⟩
        split <;> omega
      have mid : ∀ a : Int, W (evSs ⟨runF T G n, G⟩ [.ife (.and (.cmp .lt (.var 1) (.num 2)) (.cmp .lt (.var 2) (.num 2))) [.set 4 (.num 1)] [], .ret (.bin .sub (.num 1) (.bin .mul (.num 2) (.blt .int [.cmp .ne (.cmp .ge (.var 1) (.var 4)) (.cmp .ge (.var 2) (.var 4))])))] [some (.int w), some (.int y), some (.int x), some (.int k), some (.int a)] st)
          { N := fun _ st' => (∃ e, st' = st ++ e) ∧ ∃ s : Int, Val.non = .int s ∧ -1 ≤ s ∧ s ≤ 1, R := fun v st' => (∃ e, st' = st ++ e) ∧ belowV st.length v = true ∧ ∃ s : Int, v = .int s ∧ -1 ≤ s ∧ s ≤ 1 } := by
        intro a
        rw [W_cons]
        by_cases c1 : y < 2
        · by_cases c2 : x < 2
          · simp [evS, ev, fin, cmEv, c1, c2]
            rw [W_cons]
            simp [evS, ev, fin]
            simp only [W_nil]
            simpa using tail 1
          · simp [evS, ev, fin, cmEv, c1, c2]
            simp only [W_nil]
            simpa using tail a
        · simp [evS, ev, fin, cmEv, c1]
          simp only [W_nil]
          simpa using tail a
      rw [W_cons]
      by_cases c1 : y < 4
      · by_cases c2 : x < 4
        · simp [evS, ev, fin, cmEv, c1, c2]
          rw [W_cons]
          simp [evS, ev, fin]
          simp only [W_nil]
          simpa using mid 2
        · simp [evS, ev, fin, cmEv, c1, c2]
          simp only [W_nil]
          simpa using mid 4
      · simp [evS, ev, fin, cmEv, c1]
        simp only [W_nil]
        simpa using mid 4
end Pv

set_option Elab.async false
set_option linter.all false
set_option maxRecDepth 100000
set_option maxHeartbeats 1000000
namespace Pv
open PySem
/-! ### a square as a list of lists of one's own -/
structure Sq (st0 : Sto) (p N : Nat) (F : Nat → Nat → Int) (rs : List Nat) (st : Sto) : Prop where
  app : ∃ e, st = st0 ++ e
  pl : st0.length ≤ p
  len : rs.length = N
  inj : ∀ (y z r : Nat), rs[y]? = some r → rs[z]? = some r → y = z
  np : ∀ (y r : Nat), rs[y]? = some r → r ≠ p ∧ st0.length ≤ r
  top : st[p]? = some (.lst (rs.map .ref))
  row : ∀ (y r : Nat), rs[y]? = some r → st[r]? = some (.lst (iL (tab N (F y))))
section
variable {st0 st : Sto} {p N : Nat} {F : Nat → Nat → Int} {rs : List Nat}
theorem Sq.at (h : Sq st0 p N F rs st) {y : Nat} (hy : y < N) : ∃ r, rs[y]? = some r ∧ L2.atI (rs.map Val.ref) (y : Int) = some (.ref r) ∧ st[r]? = some (.lst (iL (tab N (F y)))) := by
  have hl : y < rs.length := by rw [h.len]; exact hy
  refine ⟨rs[y], List.getElem?_eq_getElem hl, ?_, h.row _ _ (List.getElem?_eq_getElem hl)⟩
  rw [atI_nat (by simpa using hl)]
  simp
theorem Sq.congr (h : Sq st0 p N F rs st) {G : Nat → Nat → Int} (e : ∀ y, y < N → ∀ x, x < N → F y x = G y x) : Sq st0 p N G rs st := ⟨h.app, h.pl, h.len, h.inj, h.np, h.top, fun y r hr => by
  have hy : y < N := by rw [← h.len]; exact (List.getElem?_eq_some_iff.mp hr).1
  rw [h.row y r hr, tab_congr fun x hx => e y hy x hx]⟩
theorem lt_of_get {l : Sto} {i : Nat} {o : Ob} (h : l[i]? = some o) : i < l.length := (List.getElem?_eq_some_iff.mp h).1
theorem Sq.setRow (h : Sq st0 p N F rs st) {y : Nat} (hy : y < N) (f : Nat → Int) :
    Sq st0 p N (fun z => if z = y then f else F z) (rs.set y st.length) ((st ++ [Ob.lst (iL (tab N f))]).set p (Ob.lst ((rs.map Val.ref).set y (.ref st.length)))) := by
  have hp := lt_of_get h.top
  have hl : y < rs.length := by rw [h.len]; exact hy
  have big : ∀ z r, rs[z]? = some r → r < st.length := fun z r e => lt_of_get (h.row z r e)
  have get : ∀ z r, (rs.set y st.length)[z]? = some r → (z = y ∧ r = st.length) ∨ (z ≠ y ∧ rs[z]? = some r) := fun z r e => by
    by_cases hz : y = z
    · subst hz
      rw [List.getElem?_set_self hl] at e
      exact .inl ⟨rfl, (Option.some.inj e).symm⟩
    · rw [List.getElem?_set_ne hz] at e
      exact .inr ⟨fun q => hz q.symm, e⟩
  obtain ⟨e, he⟩ := h.app
  refine ⟨?_, h.pl, by rw [List.length_set]; exact h.len, fun a b r ha hb => ?_, fun z r hz => ?_, ?_, fun z r hz => ?_⟩
  · obtain ⟨d, rfl⟩ : ∃ d, p = st0.length + d := ⟨p - st0.length, by have := h.pl; omega⟩
    rw [he, List.append_assoc, st_set]
    exact ⟨_, rfl⟩
  · rcases get a r ha with ⟨a1, a2⟩ | ⟨a1, a2⟩ <;> rcases get b r hb with ⟨b1, b2⟩ | ⟨b1, b2⟩
    · rw [a1, b1]
    · have := big b r b2
      omega
    · have := big a r a2
      omega
    · exact h.inj a b r a2 b2
  · rcases get z r hz with ⟨a1, a2⟩ | ⟨a1, a2⟩
    · subst a2
      refine ⟨by omega, ?_⟩
      rw [he, List.length_append]
      omega
    · exact h.np z r a2
  · rw [List.getElem?_set_self (by rw [List.length_append]; omega), List.map_set]
  · rcases get z r hz with ⟨a1, a2⟩ | ⟨a1, a2⟩
    · subst a2
      rw [List.getElem?_set_ne (by omega), a1, if_pos rfl]
      have := st_get0 (st := st) (e := [.lst (iL (tab N f))])
      rw [this]
      rfl
    · rw [List.getElem?_set_ne (fun q => (h.np z r a2).1 q.symm), List.getElem?_append_left (big z r a2), h.row z r a2, if_neg a1]
theorem tab_set {n x : Nat} {f : Nat → Int} {v : Int} : (iL (tab n f)).set x (.int v) = iL (tab n fun w => if w = x then v else f w) := by
  apply List.ext_getElem?
  intro i
  by_cases hi : i < n
  · by_cases e : x = i
    · subst e
      rw [List.getElem?_set_self (by rw [iL_len, tab_len]; exact hi)]
      simp [iL, tab, hi]
    · rw [List.getElem?_set_ne e]
      have e' : ¬ i = x := fun q => e q.symm
      simp [iL, tab, hi, e']
  · rw [List.getElem?_eq_none (by rw [List.length_set, iL_len, tab_len]; omega), List.getElem?_eq_none (by rw [iL_len, tab_len]; omega)]
theorem Sq.setCell (h : Sq st0 p N F rs st) {y x r : Nat} (hr : rs[y]? = some r) (v : Int) :
    Sq st0 p N (fun z w => if z = y ∧ w = x then v else F z w) rs (st.set r (Ob.lst ((iL (tab N (F y))).set x (Val.int v)))) := by
  obtain ⟨e, he⟩ := h.app
  have hl := lt_of_get (h.row y r hr)
  obtain ⟨n1, n2⟩ := h.np y r hr
  refine ⟨?_, h.pl, h.len, h.inj, h.np, ?_, fun z s hs => ?_⟩
  · obtain ⟨d, rfl⟩ : ∃ d, r = st0.length + d := ⟨r - st0.length, by omega⟩
    rw [he, st_set]
    exact ⟨_, rfl⟩
  · rw [List.getElem?_set_ne n1]
    exact h.top
  · by_cases ez : z = y
    · subst ez
      rw [hr] at hs
      cases hs
      rw [List.getElem?_set_self hl, tab_set]
      congr 3
      exact tab_congr fun w _ => by
        by_cases ew : w = x
        · rw [if_pos ew, if_pos ⟨rfl, ew⟩]
        · rw [if_neg ew, if_neg (fun q => ew q.2)]
    · have : r ≠ s := fun q => ez (h.inj z y r (q ▸ hs) hr)
      rw [List.getElem?_set_ne this, h.row z s hs]
      congr 3
      exact tab_congr fun w _ => by rw [if_neg (fun q => ez q.1)]
end
theorem lcL_push {body : Val → Sto → R (Option Val)} {g : List (Nat × List Val)} : ∀ (L : List (List Val)) (acc : List Val) (st : Sto), (∀ x, guardOk (st ++ x) g) → (∀ l ∈ L, ∀ st, body (.tup l) st = .ok (some (.ref st.length)) (st ++ [.lst l])) → acc.length + L.length ≤ sizeLine →
    lcL body g (L.map .tup) acc st = .ok (acc ++ (List.range L.length).map fun i => Val.ref (st.length + i)) (st ++ L.map .lst)
  | [], acc, st, hg, _, _ => by
    have := hg []
    rw [List.append_nil] at this
    rw [List.map_nil, lcL, if_pos this]
    simp
  | a :: L, acc, st, hg, h, hz => by
    rw [List.length_cons] at hz
    have g0 := hg []
    rw [List.append_nil] at g0
    rw [List.map_cons, lcL, if_pos g0, h a List.mem_cons_self]
    simp only
    rw [if_pos (by omega), lcL_push L (acc ++ [Val.ref st.length]) (st ++ [Ob.lst a]) (fun x => by rw [List.append_assoc]; exact hg _) (fun l hl => h l (List.mem_cons_of_mem _ hl)) (by rw [List.length_append]; simp; omega)]
    rw [List.length_cons, List.range_succ_eq_map, List.map_cons, List.map_map, List.append_assoc, List.append_assoc]
    congr 2
    simp only [List.cons_append, List.nil_append, List.length_append, List.length_cons, List.length_nil]
    congr 1
    refine List.map_congr_left fun i _ => ?_
    show Val.ref (st.length + (0 + 1) + i) = Val.ref (st.length + (i + 1))
    congr 1
    omega
theorem rows_make {c : Cn} {st : Sto} {N r : Nat} {F : Nat → Nat → Int} (hN : N < 1000) (hr : st[r]? = some (.lst (rL N N F))) : ∃ rs st', ev c false (.lc true (.mkl true (.var 3)) (.nm 3) (.seq (.var 0)) []) [some (.ref r), none, none, none, none, none, none] st = .ok (.ref (st.length + N)) st' ∧ Sq st (st.length + N) N F rs st' := by
  have sz : (10000 : Nat) ≤ sizeLine := by show 10000 ≤ 2 ^ 24; decide
  have eL : rL N N F = ((List.range N).map fun y => iL (tab N (F y))).map .tup := by
    unfold rL
    rw [List.map_map]
    rfl
  have ll : ((List.range N).map fun y => iL (tab N (F y))).length = N := by simp
  have get : ∀ y r, ((List.range N).map fun i => st.length + i)[y]? = some r → y < N ∧ r = st.length + y := fun y r h => by
    rw [List.getElem?_map] at h
    by_cases hy : y < N
    · rw [List.getElem?_range hy] at h
      exact ⟨hy, (Option.some.inj h).symm⟩
    · rw [List.getElem?_eq_none (by simpa using hy)] at h
      cases h
  refine ⟨(List.range N).map fun i => st.length + i, st ++ ((List.range N).map fun y => Ob.lst (iL (tab N (F y)))) ++ [.lst ((List.range N).map fun i => Val.ref (st.length + i))], ?_, ?_⟩
  · rw [ev]
    simp only [evi, ev, fin, sview, hr, gst, mlist, R.bind_ok, List.getElem?_cons_zero]
    have hg : ∀ x, guardOk (st ++ x) [(r, rL N N F)] := fun x => guard_one (by rw [List.getElem?_append_left (lt_of_get hr)]; exact hr)
    rw [eL] at hg ⊢
    rw [lcL_push _ _ _ hg (fun l hl st => by
      simp [tgSet, wipeE, Tg.slots, evf, ev, fin, mklEv, newL]) (by simp; omega)]
    simp [newL, ll, Function.comp_def]
  · refine ⟨⟨_, by rw [List.append_assoc]⟩, by omega, by simp, fun y z r h1 h2 => ?_, fun y r h => ?_, ?_, fun y r h => ?_⟩
    · have a := get y r h1
      have b := get z r h2
      omega
    · have a := get y r h
      omega
    · rw [List.getElem?_append_right (by simp)]
      simp [Function.comp_def]
    · obtain ⟨a, rfl⟩ := get y r h
      rw [List.append_assoc, st_get, List.getElem?_append_left (by simpa using a)]
      simp [a]
section
variable {T : List Fd} {G : List (Str × Val)} {i : Nat}
/-- some square stands there -/
def SqE (st0 : Sto) (p N : Nat) (st : Sto) : Prop := ∃ F rs, Sq st0 p N F rs st
theorem backCols {n h p N : Nat} {st0 st : Sto} {D : Po} {a x3 x4 x5 x6 : Option Val} (h15 : T[15]? = some f_l_step_back) (hN : N < 1000) (hh : 2*h ≤ N) (q : SqE st0 p N st)
    (hk : ∀ x4 x5 x6 st', SqE st0 p N st' → D.N [a, some (.ref p), some (.int (2 * (h : Int))), x3, x4, x5, x6] st') :
    W (evS ⟨runF T G (n + 1), G⟩ (.for' (.nm 4) (.rng [.var 2]) [.set 6 (.cal 15 [.lc false (.idx (.idx (.var 1) (.var 5)) (.var 4)) (.nm 5) (.rng [.var 2]) []] []), .for' (.nm 5) (.rng [.var 2]) [.setI (.idx (.var 1) (.var 5)) (.var 4) (.idx (.var 6) (.var 5))]]) [a, some (.ref p), some (.int (2 * (h : Int))), x3, x4, x5, x6] st) D := by
  have sz : (10000 : Nat) ≤ sizeLine := by show 10000 ≤ 2 ^ 24; decide
  have hr : inR (2 * (h : Int)) := by unfold inR; omega
  have tn : (2 * (h : Int)).toNat = 2 * h := by omega
  simp [evS, evi, ev, evs, fin, rngEv, hr, tn]
  refine W_for (fun j l st' => (∃ x y z, l = [a, some (.ref p), some (.int (2 * (h : Int))), x3, x, y, z]) ∧ SqE st0 p N st') ⟨⟨_, _, _, rfl⟩, q⟩ (fun _ _ _ _ => guard_nil) ?_ ?_
  · rintro j w l st' hw ⟨⟨x, y, z, rfl⟩, F, rs, q'⟩
    obtain ⟨hj, rfl⟩ := rngL_get' hw
    refine ⟨_, rfl, ?_⟩
    have e1 := ev_lc (c := ⟨runF T G (n + 1), G⟩) (m := false) (e := .idx (.idx (.var 1) (.var 5)) (.var 4)) (tg := .nm 5) (it := .rng [.var 2]) (l := [a, some (.ref p), some (.int (2 * (h : Int))), x3, some (.int (j : Int)), y, z]) (st := st')
      (items := rngL 0 1 (2*h)) (g := []) (fun y => .int (F y j)) (by simp [ev, evi, evs, fin, rngEv, hr, tn]) guard_nil (fun y w hw => by
        obtain ⟨hy, rfl⟩ := rngL_get' hw
        refine ⟨_, rfl, ?_⟩
        obtain ⟨r, r1, r2, r3⟩ := q'.at (show y < N by omega)
        have a2 : L2.atI (iL (tab N (F y))) (j : Int) = some (.int (F y j)) := by rw [gi_at (k := j) (by rw [tab_len]; omega) rfl, tab_get (by omega)]
        simp [ev, fin, wipeE, Tg.slots, idxEv, sview, q'.top, r2, r3, a2]) (by rw [rngL_len]; omega)
    rw [rngL_len] at e1
    have e2 : (List.range (2*h)).map (fun y => Val.int (F y j)) = iL (tab (2*h) fun y => F y j) := by rw [iL_tab]
    rw [e2] at e1
    have k1 := backL_ok (G := G) h15 n h (tab (2*h) fun y => F y j) (.lst (iL (tab (2*h) fun y => F y j))) st' (fun _ => rfl) tab_len (by omega)
    rw [bk_tab] at k1
    have ez : (0 : Int) + (j : Int) * 1 = (j : Int) := by omega
    rw [ez]
    simp only [List.set]
    rw [W_cons, evS, ev, evs, e1]
    simp only [newL, R.bind_ok, evs, evk, putK0, fin, k1, R.fl_ok, W_nx, List.set]
    rw [W_cons]
    simp [evS, evi, ev, evs, fin, rngEv, hr, tn]
    refine W_for (fun i l st'' => (∃ x, l = [a, some (.ref p), some (.int (2 * (h : Int))), x3, some (.int (j : Int)), x, some (.lst (iL (tab (2*h) (sB h fun y => F y j))))]) ∧ SqE st0 p N st'') ⟨⟨_, rfl⟩, F, rs, q'⟩ (fun _ _ _ _ => guard_nil) ?_ ?_
    · rintro i w l st'' hw ⟨⟨x, rfl⟩, F'', rs'', q''⟩
      obtain ⟨hi, rfl⟩ := rngL_get' hw
      refine ⟨_, rfl, ?_⟩
      obtain ⟨r, r1, r2, r3⟩ := q''.at (show i < N by omega)
      have a3 : L2.atI (iL (tab (2*h) (sB h fun y => F y j))) (i : Int) = some (.int (sB h (fun y => F y j) i)) := by rw [gi_at (k := i) (by rw [tab_len]; exact hi) rfl, tab_get hi]
      have nx := q''.setCell r1 (x := j) (sB h (fun y => F y j) i)
      have ij : L2.ixN (iL (tab N (F'' i))).length (j : Int) = some j := by
        unfold L2.ixN
        rw [iL_len, tab_len, if_pos (by omega), if_pos (by omega)]
        rfl
      generalize iL (tab N (F'' i)) = E at r3 nx ij
      generalize iL (tab (2*h) (sB h fun y => F y j)) = C at a3
      generalize sB h (fun y => F y j) i = v at a3 nx
      rw [W_cons]
      simp [evS, ev, fin, idxEv, sview, a3, q''.top, r2, setIEv, mlist, r3, ij]
      simp only [W_nil]
      exact ⟨⟨_, rfl⟩, _, _, nx⟩
    · rintro l st'' ⟨⟨x, rfl⟩, q''⟩
      simp only [W_nil]
      exact ⟨⟨_, _, _, rfl⟩, q''⟩
  · rintro l st' ⟨⟨x, y, z, rfl⟩, q'⟩
    exact hk _ _ _ _ q'
theorem backRows {n h p N : Nat} {st0 st : Sto} {D : Po} {a x3 x4 x5 x6 : Option Val} (h15 : T[15]? = some f_l_step_back) (hN : N < 1000) (hh : 2*h ≤ N) (q : SqE st0 p N st)
    (hk : ∀ x4 x5 x6 st', SqE st0 p N st' → D.N [a, some (.ref p), some (.int (2 * (h : Int))), x3, x4, x5, x6] st') :
    W (evS ⟨runF T G (n + 1), G⟩ (.for' (.nm 5) (.rng [.var 2]) [.set 6 (.cal 15 [.slc false (.idx (.var 1) (.var 5)) none (some (.var 2))] []), .for' (.nm 4) (.rng [.var 2]) [.setI (.idx (.var 1) (.var 5)) (.var 4) (.idx (.var 6) (.var 4))]]) [a, some (.ref p), some (.int (2 * (h : Int))), x3, x4, x5, x6] st) D := by
  have sz : (10000 : Nat) ≤ sizeLine := by show 10000 ≤ 2 ^ 24; decide
  have hr : inR (2 * (h : Int)) := by unfold inR; omega
  have tn : (2 * (h : Int)).toNat = 2 * h := by omega
  have c2 : (2 * (h : Int)) = ((2 * h : Nat) : Int) := by omega
  simp [evS, evi, ev, evs, fin, rngEv, hr, tn]
  refine W_for (fun j l st' => (∃ x y z, l = [a, some (.ref p), some (.int (2 * (h : Int))), x3, x, y, z]) ∧ SqE st0 p N st') ⟨⟨_, _, _, rfl⟩, q⟩ (fun _ _ _ _ => guard_nil) ?_ ?_
  · rintro j w l st' hw ⟨⟨x, y, z, rfl⟩, F, rs, q'⟩
    obtain ⟨hj, rfl⟩ := rngL_get' hw
    refine ⟨_, rfl, ?_⟩
    obtain ⟨r, r1, r2, r3⟩ := q'.at (show j < N by omega)
    have t1 := tab_lo (f := F j) hh
    rw [← c2] at t1
    have k1 := backL_ok (G := G) h15 n h (tab (2*h) (F j)) (.lst (iL (tab (2*h) (F j)))) st' (fun _ => rfl) tab_len (by omega)
    rw [bk_tab] at k1
    rw [W_cons]
    simp [evS, ev, evs, evk, evo, fin, idxEv, sview, q'.top, r2, r3, slcEv, lview, t1, newL, putK0, k1]
    rw [W_cons]
    simp [evS, evi, ev, evs, fin, rngEv, hr, tn]
    refine W_for (fun i l st'' => (∃ x, l = [a, some (.ref p), some (.int (2 * (h : Int))), x3, x, some (.int (j : Int)), some (.lst (iL (tab (2*h) (sB h (F j)))))]) ∧ SqE st0 p N st'') ⟨⟨_, rfl⟩, F, rs, q'⟩ (fun _ _ _ _ => guard_nil) ?_ ?_
    · rintro i w l st'' hw ⟨⟨x, rfl⟩, F'', rs'', q''⟩
      obtain ⟨hi, rfl⟩ := rngL_get' hw
      refine ⟨_, rfl, ?_⟩
      obtain ⟨r, r1, r2, r3⟩ := q''.at (show j < N by omega)
      have a3 : L2.atI (iL (tab (2*h) (sB h (F j)))) (i : Int) = some (.int (sB h (F j) i)) := by rw [gi_at (k := i) (by rw [tab_len]; exact hi) rfl, tab_get hi]
      have nx := q''.setCell r1 (x := i) (sB h (F j) i)
      have ij : L2.ixN (iL (tab N (F'' j))).length (i : Int) = some i := by
        unfold L2.ixN
        rw [iL_len, tab_len, if_pos (by omega), if_pos (by omega)]
        rfl
      generalize iL (tab N (F'' j)) = E at r3 nx ij
      generalize iL (tab (2*h) (sB h (F j))) = C at a3
      generalize sB h (F j) i = v at a3 nx
      rw [W_cons]
      simp [evS, ev, fin, idxEv, sview, a3, q''.top, r2, setIEv, mlist, r3, ij]
      simp only [W_nil]
      exact ⟨⟨_, rfl⟩, _, _, nx⟩
    · rintro l st'' ⟨⟨x, rfl⟩, q''⟩
      simp only [W_nil]
      exact ⟨⟨_, _, _, rfl⟩, q''⟩
  · rintro l st' ⟨⟨x, y, z, rfl⟩, q'⟩
    exact hk _ _ _ _ q'
def backP (st : Sto) (p K r : Nat) (_ : Nat) (l : Env) (st' : Sto) : Prop := ∃ x2 x3 x4 x5 x6, l = [some (.ref r), some (.ref p), x2, x3, x4, x5, x6] ∧ SqE st p (2^K) st'
theorem lback_ok (hT : T[i]? = some f_l_backward) (h15 : T[15]? = some f_l_step_back) (n K : Nat) (F : Nat → Nat → Int) (st : Sto) (r : Nat) (hK : K ≤ 3) (hr : st[r]? = some (.lst (rL (2^K) (2^K) F))) : ∃ F', runF T G (n + 2) i [.ref r] st = .ok (.tup (rL (2^K) (2^K) F')) st := by
  have hN8 : 2^K ≤ 8 := Nat.pow_le_pow_right (n := 2) (by decide) hK
  have hN : 2^K < 1000 := by omega
  have sz : (10000 : Nat) ≤ sizeLine := by show 10000 ≤ 2 ^ 24; decide
  have := call_W (G := G) (n := n + 1) (st := st) (args := [.ref r]) (fun v => ∃ F', v = .tup (rL (2^K) (2^K) F')) hT rfl ?_
  · obtain ⟨v, ⟨F', rfl⟩, e⟩ := this
    exact ⟨F', e⟩
  have hf : frameOf f_l_backward [.ref r] = [some (.ref r), none, none, none, none, none, none] := rfl
  rw [hf]
  show W (evSs _ (_ :: _ :: _ :: []) _ _) _
  obtain ⟨rs, st1, e1, q1⟩ := rows_make (c := ⟨runF T G (n + 1), G⟩) (st := st) (F := F) hN hr
  rw [W_cons, evS, e1]
  simp only [R.fl_ok, W_nx, List.set]
  generalize st.length + 2^K = p at q1
  rw [W_cons]
  simp [evS, evi, ev, evs, fin, sview, gst, mlist, show 3 ≤ sizeLine by omega]
  refine W_for (backP st p K r) ⟨none, none, none, none, none, rfl, F, rs, q1⟩ (fun _ _ _ _ => guard_nil) ?_ ?_
  · rintro t v l st' hv ⟨x2, x3, x4, x5, x6, rfl, F', rs', q'⟩
    have ht : t < 3 := (List.getElem?_eq_some_iff.mp hv).1
    have ev' : v = .int (2 * ((2^t : Nat) : Int)) := by
      have : t = 0 ∨ t = 1 ∨ t = 2 := by omega
      rcases this with rfl | rfl | rfl <;> (simp at hv; rw [← hv]; rfl)
    subst ev'
    refine ⟨_, rfl, ?_⟩
    rw [W_cons]
    by_cases hle : 2 * 2^t ≤ 2^K
    · have hp : (2 * ((2^t : Nat) : Int)) ≤ ((2^K : Nat) : Int) := by omega
      rw [evS]
      have ec : ev ⟨runF T G (n + 1), G⟩ true (.cmp .le (.var 2) (.blt .len [.var 1])) ([some (.ref r), some (.ref p), x2, x3, x4, x5, x6].set 2 (some (.int (2 * ((2^t : Nat) : Int))))) st' = .ok (.bl true) st' := by
        have ql := q'.len
        generalize ((2^t : Nat) : Int) = A at hp
        generalize 2^K = B at hp ql
        simp [ev, evs, fin, bfEv, sview, q'.top, ql, cmEv, hp]
      rw [ec]
      simp only [R.fl_ok, List.set]
      rw [W_cons]
      refine backCols h15 hN hle ⟨F', rs', q'⟩ fun y4 y5 y6 st2 q2 => ?_
      dsimp only
      rw [W_cons]
      refine backRows h15 hN hle q2 fun y4 y5 y6 st3 q3 => ?_
      simp only [W_nil]
      exact ⟨_, _, _, _, _, rfl, q3⟩
    · have hp : ¬ (2 * ((2^t : Nat) : Int)) ≤ ((2^K : Nat) : Int) := by omega
      rw [evS]
      have ec : ev ⟨runF T G (n + 1), G⟩ true (.cmp .le (.var 2) (.blt .len [.var 1])) ([some (.ref r), some (.ref p), x2, x3, x4, x5, x6].set 2 (some (.int (2 * ((2^t : Nat) : Int))))) st' = .ok (.bl false) st' := by
        have ql := q'.len
        generalize ((2^t : Nat) : Int) = A at hp
        generalize 2^K = B at hp ql
        simp [ev, evs, fin, bfEv, sview, q'.top, ql, cmEv, hp]
      rw [ec]
      simp only [R.fl_ok, W_nil]
      exact ⟨_, _, _, _, _, rfl, F', rs', q'⟩
  · rintro l st' ⟨x2, x3, x4, x5, x6, rfl, F', rs', q'⟩
    dsimp only
    rw [W_cons]
    have e2 := ev_lc (c := ⟨runF T G (n + 1), G⟩) (m := false) (e := .blt .tuple [.var 3]) (tg := .nm 3) (it := .seq (.var 1)) (l := [some (.ref r), some (.ref p), x2, x3, x4, x5, x6]) (st := st')
      (items := rs'.map .ref) (g := [(p, rs'.map .ref)]) (fun y => .tup (iL (tab (2^K) (F' y)))) (by simp [ev, evi, fin, sview, gst, mlist, q'.top]) (guard_one q'.top) (fun y v hv => by
        rw [List.getElem?_map] at hv
        cases er : rs'[y]? with
        | none => rw [er] at hv; cases hv
        | some r =>
          rw [er] at hv
          cases hv
          refine ⟨_, rfl, ?_⟩
          simp [ev, evs, fin, wipeE, Tg.slots, bfEv, lview, q'.row y r er]) (by rw [List.length_map, q'.len]; omega)
    rw [List.length_map, q'.len] at e2
    rw [evS, ev, evs, e2]
    obtain ⟨e, he⟩ := q'.app
    have eR : (List.range (2^K)).map (fun y => Val.tup (iL (tab (2^K) (F' y)))) = rL (2^K) (2^K) F' := rfl
    rw [eR]
    simp only [newL, R.bind_ok, evs, fin, bfEv, lview, R.fl_ok, W_ret]
    exact ⟨⟨e, he⟩, by rw [belowV]; exact below_rL _ _ _ _, F', rfl⟩
end
end Pv

set_option Elab.async false
set_option linter.all false
set_option maxRecDepth 100000
set_option maxHeartbeats 1000000
namespace Pv
open PySem
theorem at6 (a b c d e f : Int) (k : Int) : ∃ z : Int, L2.atI [Val.int a, .int b, .int c, .int d, .int e, .int f] (k % 6) = some (.int z) := by
  have : k % 6 = 0 ∨ k % 6 = 1 ∨ k % 6 = 2 ∨ k % 6 = 3 ∨ k % 6 = 4 ∨ k % 6 = 5 := by omega
  rcases this with q | q | q | q | q | q <;> rw [q] <;> exact ⟨_, rfl⟩
theorem at46 (a b c d e f : Int) (k : Int) : ∃ z : Int, L2.atI [Val.int a, .int b, .int c, .int d, .int e, .int f] (k % 4) = some (.int z) := by
  have : k % 4 = 0 ∨ k % 4 = 1 ∨ k % 4 = 2 ∨ k % 4 = 3 := by omega
  rcases this with q | q | q | q <;> rw [q] <;> exact ⟨_, rfl⟩
theorem coef_ok {T : List Fd} {G : List (Str × Val)} {i : Nat} (hT : T[i]? = some f_l_coefficient) (hS : T[17]? = some f_l_sign) (n : Nat) (q y x k : Int) (hs : List Int) (st : Sto) (hl : hs.length = 6) (hq : 1 ≤ q ∧ q < 1000000000000) :
    ∃ z : Int, runF T G (n + 2) i [.int q, .lst (iL hs), .int y, .int x, .int k] st = .ok (.int z) st := by
  have := call_W (G := G) (n := n + 1) (st := st) (args := [.int q, .lst (iL hs), .int y, .int x, .int k]) (fun v => ∃ s : Int, v = .int s) hT rfl ?_
  · obtain ⟨v, ⟨s, rfl⟩, e⟩ := this
    exact ⟨s, e⟩
  have hf : frameOf f_l_coefficient [.int q, .lst (iL hs), .int y, .int x, .int k] = [some (.int q), some (.lst (iL hs)), some (.int y), some (.int x), some (.int k), none, none, none] := rfl
  rw [hf]
  show W (evSs _ (_ :: _ :: _ :: _ :: _ :: []) _ _) _
  have sz : (10000 : Nat) ≤ sizeLine := by show 10000 ≤ 2 ^ 24; decide
  have a3 : L2.atI (iL hs) 3 = some (.int (gi hs 3)) := gi_at (by omega) rfl
  have a4 : L2.atI (iL hs) 4 = some (.int (gi hs 4)) := gi_at (by omega) rfl
  rw [W_cons]
  simp [evS, ev, fin, binEv, opI, div_ok]
  rw [W_cons]
  simp [evS, ev, evs, fin, bfEv, idxEv, sview, a3, binEv, opI]
  rw [W_cons]
  simp [evS, ev, evs, fin, binEv, opI, newL, show 6 ≤ sizeLine by omega]
  have w1 := Int.emod_nonneg (gi hs 3) (show (4 : Int) ≠ 0 by decide)
  have w2 := Int.emod_lt_of_pos (gi hs 3) (show (0 : Int) < 4 by decide)
  generalize gi hs 3 % 4 = w at w1 w2
  obtain ⟨s, sb, es⟩ := sign_ok (G := G) hS n w y x k st ⟨w1, w2⟩
  have ms : ∀ z, mulOk s z := fun z => mul_l (by omega) (by omega)
  have mq : ∀ z, mulOk q z := fun z => mul_l (by omega) (by omega)
  rw [W_cons]
  by_cases h : w = 3
  · obtain ⟨z, ez⟩ := at6 (-(q/2)) (q/2) (-1) 0 (q/2 - 1) (1 - q/2) (k / 2)
    simp [evS, ev, fin, cmEv, eqEv, h]
    subst h
    rw [W_cons]
    simp [evS, ev, evs, evk, fin, putK0, es, bfEv, idxEv, sview, binEv, opI, div_ok, mq, ms, ez, belowV]
  · obtain ⟨z, ez⟩ := at46 (-(q/2)) (q/2) (-1) 0 (q/2 - 1) (1 - q/2) (gi hs 4)
    simp [evS, ev, fin, cmEv, eqEv, h]
    simp only [W_nil]
    rw [W_cons]
    simp [evS, ev, evs, evk, fin, putK0, es, bfEv, idxEv, sview, binEv, opI, div_ok, mq, ms, a4, ez, belowV]
theorem number_ok (n : Nat) (ns hs : List Int) (st : Sto) (hl : hs.length = 6) : ∃ q : Int, (1 ≤ q ∧ q < 1000000000000) ∧ runF tabT tabG (n + 2) 19 [.scr ns, .lst (iL hs)] st = .ok (.int q) st := by
  have := call_W (G := tabG) (n := n + 1) (st := st) (args := [.scr ns, .lst (iL hs)]) (d := f_l_number) (T := tabT) (i := 19) (fun v => ∃ q : Int, v = .int q ∧ 1 ≤ q ∧ q < 1000000000000) rfl rfl ?_
  · obtain ⟨v, ⟨q, rfl, h⟩, e⟩ := this
    exact ⟨q, h, e⟩
  have hf : frameOf f_l_number [.scr ns, .lst (iL hs)] = [some (.scr ns), some (.lst (iL hs)), none] := rfl
  rw [hf]
  show W (evSs _ (_ :: _ :: _ :: _ :: _ :: []) _ _) _
  have sz : (10000 : Nat) ≤ sizeLine := by show 10000 ≤ 2 ^ 24; decide
  have a1 : L2.atI (iL hs) 1 = some (.int (gi hs 1)) := gi_at (by omega) rfl
  have a5 : L2.atI (iL hs) 5 = some (.int (gi hs 5)) := gi_at (by omega) rfl
  obtain ⟨c, ec⟩ := cell_ok (T := tabT) (G := tabG) (i := 12) rfl n ns 1 st
  have ec : runF tabT tabG (n + 1) 12 [.scr ns, .int 1] st = .ok (.int c) st := ec
  obtain ⟨ds, dl, db, er⟩ := row_ok (T := tabT) (G := tabG) (i := 13) rfl n c 1 400 17 st (by decide) (by decide) (by decide)
  have er : runF tabT tabG (n + 1) 13 [.int c, .int 1, .int 400, .int 17] st = .ok (.lst (iL ds)) st := er
  have d0 : L2.atI (iL ds) 0 = some (.int (gi ds 0)) := gi_at (by omega) rfl
  have d1 : 0 ≤ gi ds 0 ∧ gi ds 0 < 400 := by
    match ds, dl with
    | [a], _ => exact db a (by simp)
  rw [W_cons]
  simp [evS, ev, evs, fin, bfEv, idxEv, sview, a1, binEv, opI]
  generalize gi hs 1 % 8 = w
  rw [W_cons]
  by_cases h0 : w = 0
  · simp [evS, ev, fin, cmEv, eqEv, h0]
    rw [W_cons]
    simp [evS, ev, fin, belowV]
  · simp [evS, ev, fin, cmEv, eqEv, h0]
    simp only [W_nil]
    rw [W_cons]
    by_cases h1 : w < 3
    · obtain ⟨z, ez, zb⟩ : ∃ z : Int, L2.atI [Val.int 2, .int 4, .int 8, .int 16, .int 32, .int 64] (gi hs 5 % 6) = some (.int z) ∧ 1 ≤ z ∧ z ≤ 64 := by
        have : gi hs 5 % 6 = 0 ∨ gi hs 5 % 6 = 1 ∨ gi hs 5 % 6 = 2 ∨ gi hs 5 % 6 = 3 ∨ gi hs 5 % 6 = 4 ∨ gi hs 5 % 6 = 5 := by omega
        rcases this with e | e | e | e | e | e <;> rw [e] <;> exact ⟨_, rfl, by decide, by decide⟩
      simp [evS, ev, fin, cmEv, h1]
      rw [W_cons]
      simp [evS, ev, evs, fin, bfEv, idxEv, sview, a5, binEv, opI, newL, show 6 ≤ sizeLine by omega, ez, belowV]
      omega
    · simp [evS, ev, fin, cmEv, h1]
      simp only [W_nil]
      rw [W_cons]
      by_cases h2 : w < 6
      · simp [evS, ev, fin, cmEv, h2]
        rw [W_cons]
        simp [evS, ev, evs, evk, fin, putK0, ec, er, idxEv, sview, d0, binEv, opI, belowV]
        omega
      · simp [evS, ev, fin, cmEv, h2]
        simp only [W_nil]
        rw [W_cons]
        simp [evS, ev, evs, evk, fin, putK0, ec, bfEv, binEv, opI, powOk, belowV]
        omega
def builtP (ns hs : List Int) (N : Nat) (q ch : Int) (st : Sto) (j : Nat) (l : Env) (st' : Sto) : Prop := ∃ (x6 x7 x8 x9 x10 : Option Val) (F : Nat → Nat → Int), l = [some (.scr ns), some (.lst (iL hs)), some (.int N), some (.int q), some (.int ch), some (.ref st.length), x6, x7, x8, x9, x10] ∧ st' = st ++ [.lst (rL N j F)]
theorem rL_snoc {N j : Nat} {F : Nat → Nat → Int} {l : List Int} (hl : l.length = N) : rL N j F ++ [Val.tup (iL l)] = rL N (j + 1) fun y => if y < j then F y else gi l := by
  have e : [Val.tup (iL l)] = rL N 1 fun _ => gi l := by
    unfold rL
    have := tab_self l
    rw [hl] at this
    show [Val.tup (iL l)] = [Val.tup (iL (tab N (gi l)))]
    rw [← this]
  rw [e, rL_app]
theorem built_ok (n K : Nat) (ns hs : List Int) (q : Int) (st : Sto) (hl : hs.length = 6) (hq : 1 ≤ q ∧ q < 1000000000000) (hK : K ≤ 3) : ∃ F, runF tabT tabG (n + 3) 20 [.scr ns, .lst (iL hs), .int ((2^K : Nat) : Int), .int q] st = .ok (.tup (rL (2^K) (2^K) F)) st := by
  have hN8 : 2^K ≤ 8 := Nat.pow_le_pow_right (n := 2) (by decide) hK
  have lb := fun F st r h => lback_ok (T := tabT) (G := tabG) (i := 16) rfl rfl n K F st r hK h
  generalize 2^K = N at *
  have := call_W (G := tabG) (n := n + 2) (st := st) (args := [.scr ns, .lst (iL hs), .int N, .int q]) (d := f_l_built) (T := tabT) (i := 20) (fun v => ∃ F, v = .tup (rL N N F)) rfl rfl ?_
  · obtain ⟨v, ⟨F, rfl⟩, e⟩ := this
    exact ⟨F, e⟩
  have hf : frameOf f_l_built [.scr ns, .lst (iL hs), .int N, .int q] = [some (.scr ns), some (.lst (iL hs)), some (.int N), some (.int q), none, none, none, none, none, none, none] := rfl
  rw [hf]
  show W (evSs _ (_ :: _ :: _ :: _ :: _ :: []) _ _) _
  have sz : (10000 : Nat) ≤ sizeLine := by show 10000 ≤ 2 ^ 24; decide
  have a2 : L2.atI (iL hs) 2 = some (.int (gi hs 2)) := gi_at (by omega) rfl
  rw [W_cons]
  simp [evS, ev, evs, fin, bfEv, idxEv, sview, a2, binEv, opI]
  have h1 := Int.emod_nonneg (gi hs 2) (show (6 : Int) ≠ 0 by decide)
  generalize gi hs 2 % 6 = w at h1
  rw [W_cons]
  simp [evS, ev, evs, fin, newL]
  rw [W_cons]
  have hr : inR (N : Int) := by unfold inR; omega
  simp [evS, evi, ev, evs, fin, rngEv, hr]
  refine W_for (builtP ns hs N q w st) ⟨_, _, _, _, _, fun _ _ => 0, rfl, rfl⟩ (fun _ _ _ _ => guard_nil) ?_ ?_
  · rintro j v l st' hv ⟨x6, x7, x8, x9, x10, F, rfl, rfl⟩
    obtain ⟨hj, rfl⟩ := rngL_get' hv
    refine ⟨_, rfl, ?_⟩
    have hz : (rL N j F).length < sizeLine := by rw [rL_len]; omega
    obtain ⟨c, ec⟩ := cell_ok (T := tabT) (G := tabG) (i := 12) rfl (n + 1) ns (2 + j) (st ++ [.lst (rL N j F)])
    have ec : runF tabT tabG (n + 2) 12 [.scr ns, .int (2 + (j : Int))] (st ++ [.lst (rL N j F)]) = .ok (.int c) (st ++ [.lst (rL N j F)]) := by
      have e : ((2 + j : Nat) : Int) = 2 + (j : Int) := by omega
      rw [← e]
      exact ec
    rw [W_cons]
    by_cases h2 : 2 < w
    · obtain ⟨ds, dl, db, er⟩ := row_ok (T := tabT) (G := tabG) (i := 13) rfl (n + 1) c N 60 (100 + (j : Int)) (st ++ [.lst (rL N j F)]) (by omega) (by decide) (by decide)
      simp [evS, ev, fin, cmEv, h2]
      rw [W_cons]
      simp [evS, ev, evs, evk, fin, putK0, binEv, opI, ec, er]
      rw [W_cons]
      have cz : ∀ (x : Nat), ∃ z : Int, runF tabT tabG (n + 2) 18 [.int q, .lst (iL hs), .int j, .int x, .int (gi ds x)] (st ++ [.lst (rL N j F)]) = .ok (.int z) (st ++ [.lst (rL N j F)]) := fun x => coef_ok (T := tabT) (G := tabG) (i := 18) rfl rfl n q j x (gi ds x) hs _ hl hq
      let zf : Nat → Int := fun x => (cz x).choose
      have ezf : ∀ x : Nat, runF tabT tabG (n + 2) 18 [.int q, .lst (iL hs), .int j, .int (x : Int), .int (gi ds x)] (st ++ [.lst (rL N j F)]) = .ok (.int (zf x)) (st ++ [.lst (rL N j F)]) := fun x => (cz x).choose_spec
      have e1 := ev_lc (c := ⟨runF tabT tabG (n + 2), tabG⟩) (m := false) (e := .cal 18 [.var 3, .var 1, .var 6, .var 9, .idx (.var 7) (.var 9)] []) (tg := .nm 9) (it := .rng [.var 2])
        (l := [some (.scr ns), some (.lst (iL hs)), some (.int N), some (.int q), some (.int w), some (.ref st.length), some (.int j), some (.lst (iL ds)), x8, x9, x10]) (st := st ++ [.lst (rL N j F)]) (items := rngL 0 1 N) (g := []) (fun x => .int (zf x)) (by simp [ev, evi, evs, fin, rngEv, hr]) guard_nil (fun x v hv => by
          obtain ⟨hx, rfl⟩ := rngL_get' hv
          refine ⟨_, rfl, ?_⟩
          have ad : L2.atI (iL ds) (x : Int) = some (.int (gi ds x)) := gi_at (by omega) rfl
          simp [ev, evs, evk, fin, putK0, wipeE, Tg.slots, idxEv, sview, ad, ezf]) (by rw [rngL_len]; omega)
      rw [rngL_len] at e1
      have e2 : (List.range N).map (fun x => Val.int (zf x)) = iL (tab N zf) := by rw [iL_tab]
      rw [e2] at e1
      simp only [evS, ev, fin, List.getElem?_cons_succ, List.getElem?_cons_zero, R.bind_ok, mlist, st_get0]
      simp only [evs, ev] at e1 ⊢
      rw [e1]
      simp [newL, fin, bfEv, lview, appEv, mlist, st_get0, st_set0, hz]
      simp only [W_nil]
      exact ⟨_, _, _, _, _, _, rfl, by rw [rL_snoc (tab_len (f := zf))]⟩
    · obtain ⟨s, es, sb⟩ : ∃ s : Int, L2.atI [Val.int 255, .int 2000, .int 1000000000000] w = some (.int s) ∧ 0 < s ∧ s ≤ 1000000000000 := by
        have : w = 0 ∨ w = 1 ∨ w = 2 := by omega
        rcases this with e | e | e <;> rw [e] <;> exact ⟨_, rfl, by decide, by decide⟩
      obtain ⟨ds, dl, db, er⟩ := row_ok (T := tabT) (G := tabG) (i := 13) rfl (n + 1) c N (2 * s + 1) (100 + (j : Int)) (st ++ [.lst (rL N j F)]) (by omega) (by omega) (by omega)
      have m2 : mulOk 2 s := mul_l (by decide) (by decide)
      simp [evS, ev, fin, cmEv, h2]
      rw [W_cons]
      simp [evS, ev, evs, fin, idxEv, sview, binEv, opI, powOk, newL, show 3 ≤ sizeLine by omega, es]
      rw [W_cons]
      simp [evS, ev, evs, evk, fin, putK0, binEv, opI, ec, m2, er]
      rw [W_cons]
      have e1 := ev_lc (c := ⟨runF tabT tabG (n + 2), tabG⟩) (m := false) (e := .bin .sub (.var 10) (.var 8)) (tg := .nm 10) (it := .seq (.var 7))
        (l := [some (.scr ns), some (.lst (iL hs)), some (.int N), some (.int q), some (.int w), some (.ref st.length), some (.int j), some (.lst (iL ds)), some (.int s), x9, x10]) (st := st ++ [.lst (rL N j F)]) (items := iL ds) (g := []) (fun x => .int (gi ds x - s)) (by simp [ev, evi, fin, sview, gst, mlist]) guard_nil (fun x v hv => by
          obtain ⟨hx, rfl⟩ := iL_get hv
          refine ⟨_, rfl, ?_⟩
          simp [ev, fin, wipeE, Tg.slots, binEv, opI, gi, hx]) (by rw [iL_len]; omega)
      rw [iL_len, dl] at e1
      have e2 : (List.range N).map (fun x => Val.int (gi ds x - s)) = iL (tab N fun x => gi ds x - s) := by rw [iL_tab]
      rw [e2] at e1
      simp only [evS, ev, fin, List.getElem?_cons_succ, List.getElem?_cons_zero, R.bind_ok, mlist, st_get0]
      simp only [evs, ev] at e1 ⊢
      rw [e1]
      simp [newL, fin, bfEv, lview, appEv, mlist, st_get0, st_set0, hz]
      simp only [W_nil]
      exact ⟨_, _, _, _, _, _, rfl, by rw [rL_snoc (tab_len (f := fun x => gi ds x - s))]⟩
  · rintro l st' ⟨x6, x7, x8, x9, x10, F, rfl, rfl⟩
    rw [rngL_len]
    dsimp only
    rw [W_cons]
    by_cases h2 : 2 < w
    · obtain ⟨F', eb⟩ := lb F (st ++ [.lst (rL N N F)]) st.length st_get0
      simp [evS, ev, fin, cmEv, h2]
      rw [W_cons]
      simp [evS, ev, evs, evk, fin, putK0, eb]
      exact ⟨by rw [belowV]; exact below_rL _ _ _ _, F', rfl⟩
    · simp [evS, ev, fin, cmEv, h2]
      simp only [W_nil]
      rw [W_cons]
      simp [evS, ev, evs, fin, bfEv, lview, st_get0]
      exact ⟨by rw [belowV]; exact below_rL _ _ _ _, F, rfl⟩
end Pv

set_option Elab.async false
set_option linter.all false
set_option maxRecDepth 100000
set_option maxHeartbeats 2000000
namespace Pv
open PySem
def lvK : Nat := 8
def lawI : Nat := 25
def otherP (ns hs : List Int) (N : Nat) (q : Int) (sq : Val) (j : Nat) (l : Env) (st' : Sto) : Prop := ∃ (x4 x7 x8 x9 : Option Val) (F : Nat → Nat → Int), l = [some (.scr ns), some (.lst (iL hs)), some (.int N), some (.int q), x4, some sq, some (.ref 0), x7, x8, x9] ∧ st' = [.lst (rL N j F)]
theorem whole_ok (ns : List Int) : runF tabT tabG 7 24 [.scr ns] [] = .ok (.bl true) [] := by
  have := call_W (G := tabG) (n := 6) (st := []) (args := [.scr ns]) (d := f_l_whole) (T := tabT) (i := 24) (fun v => v = .bl true) rfl rfl ?_
  · obtain ⟨v, rfl, e⟩ := this
    exact e
  have hf : frameOf f_l_whole [.scr ns] = [some (.scr ns), none, none, none, none, none, none, none, none, none] := rfl
  rw [hf]
  have sz : (10000 : Nat) ≤ sizeLine := by show 10000 ≤ 2 ^ 24; decide
  obtain ⟨c, ec⟩ := cell_ok (T := tabT) (G := tabG) (i := 12) rfl 5 ns 0 []
  have ec : runF tabT tabG 6 12 [.scr ns, .int 0] [] = .ok (.int c) [] := ec
  obtain ⟨hs, hl, hb, er⟩ := row_ok (T := tabT) (G := tabG) (i := 13) rfl 5 c 6 240 5 [] (by decide) (by decide) (by decide)
  have er : runF tabT tabG 6 13 [.int c, .int 6, .int 240, .int 5] [] = .ok (.lst (iL hs)) [] := er
  have a0 : L2.atI (iL hs) 0 = some (.int (gi hs 0)) := gi_at (by omega) rfl
  obtain ⟨K, hK, en⟩ : ∃ K : Nat, (K = 1 ∨ K = 2 ∨ K = 3) ∧ L2.atI [Val.int 2, .int 4, .int 8] (gi hs 0 % 3) = some (.int ((2^K : Nat) : Int)) := by
    have : gi hs 0 % 3 = 0 ∨ gi hs 0 % 3 = 1 ∨ gi hs 0 % 3 = 2 := by omega
    rcases this with e | e | e <;> rw [e]
    · exact ⟨1, by decide, rfl⟩
    · exact ⟨2, by decide, rfl⟩
    · exact ⟨3, by decide, rfl⟩
  obtain ⟨q, hq, eq⟩ := number_ok 4 ns hs [] hl
  have eq : runF tabT tabG 6 19 [.scr ns, .lst (iL hs)] [] = .ok (.int q) [] := eq
  have pb : ∀ K st, K < 100 → runF tabT tabG 6 4 [.int ((2^K : Nat) : Int), .int q] st = .ok (.int (bnd q K)) st := fun K st h => pbound_ok (T := tabT) (G := tabG) (i := 4) rfl rfl 4 K q st h
  have lb : ∀ K st, (K = 1 ∨ K = 2 ∨ K = 3) → runF tabT tabG 6 14 [.int ((2^K : Nat) : Int), .int q] st = .ok (.int (bnd q K)) st := fun K st h => lbound_ok (T := tabT) (G := tabG) (i := 14) rfl 5 K q st h
  have ii : ∀ v st, runF tabT tabG 6 21 [.int v] st = .ok (.bl true) st := fun v st => isint_ok (T := tabT) (G := tabG) (i := 21) rfl 5 v st
  obtain ⟨F, eF⟩ := built_ok 3 K ns hs q [] hl hq (by rcases hK with h | h | h <;> omega)
  have eF : runF tabT tabG 6 20 [.scr ns, .lst (iL hs), .int ((2^K : Nat) : Int), .int q] [] = .ok (.tup (rL (2^K) (2^K) F)) [] := eF
  have wi : ∀ F st, runF tabT tabG 6 23 [.tup (rL (2^K) (2^K) F), .int ((2^K : Nat) : Int), .int q] st = .ok (.bl true) st := fun F st => within_ok 1 K q F st hK hq
  have pK := fun st => pb K st (by rcases hK with h | h | h <;> omega)
  have lK := fun st => lb K st hK
  have hK3 : K ≤ 3 := by rcases hK with h | h | h <;> omega
  have hN8 : 2^K ≤ 8 := Nat.pow_le_pow_right (n := 2) (by decide) hK3
  show W (evSs _ (_ :: _ :: _ :: _ :: _ :: _ :: _ :: _ :: _ :: _ :: []) _ _) _
  rw [W_cons]
  simp [evS, ev, evs, evk, fin, putK0, ec, er]
  rw [W_cons]
  generalize 2^K = N at *
  simp [evS, ev, evs, fin, bfEv, idxEv, sview, a0, binEv, opI, newL, show 3 ≤ sizeLine by omega, en]
  rw [W_cons]
  simp [evS, ev, evs, evk, fin, putK0, eq]
  rw [W_cons]
  simp [evS, evi, ev, evs, fin, sview, gst, mlist, show 3 ≤ sizeLine by omega]
  refine W_for (fun _ l st' => (∃ x4 x8, l = [some (.scr ns), some (.lst (iL hs)), some (.int N), some (.int q), x4, none, none, none, x8, none]) ∧ st' = []) ⟨⟨_, _, rfl⟩, rfl⟩ (fun _ _ _ _ => guard_nil) ?_ ?_
  · rintro t v l st' hv ⟨⟨x4, x8, rfl⟩, rfl⟩
    have ht : t < 3 := (List.getElem?_eq_some_iff.mp hv).1
    have ev' : v = .int ((2^(t+1) : Nat) : Int) := by
      have : t = 0 ∨ t = 1 ∨ t = 2 := by omega
      rcases this with rfl | rfl | rfl <;> (simp at hv; rw [← hv]; rfl)
    subst ev'
    refine ⟨_, rfl, ?_⟩
    have p1 := pb (t + 1) [] (by omega)
    have l1 := lb (t + 1) [] (by omega)
    generalize ((2^(t+1) : Nat) : Int) = A at p1 l1
    rw [W_cons]
    simp [evS, ev, evs, evk, fin, putK0, p1]
    rw [W_cons]
    simp [evS, ev, evs, evk, fin, putK0, ii, l1, cmEv, eqEv]
    simp only [W_nil]
    exact ⟨⟨_, _, rfl⟩, trivial⟩
  · rintro l st' ⟨⟨x4, x8, rfl⟩, rfl⟩
    dsimp only
    rw [W_cons]
    simp [evS, ev, evs, evk, fin, putK0, eF]
    rw [W_cons]
    simp [evS, ev, evs, fin, newL]
    rw [W_cons]
    have hr : inR (N : Int) := by unfold inR; omega
    simp [evS, evi, ev, evs, fin, rngEv, hr]
    refine W_for (otherP ns hs N q (.tup (rL N N F))) ⟨x4, none, x8, none, fun _ _ => 0, rfl, rfl⟩ (fun _ _ _ _ => guard_nil) ?_ ?_
    · rintro j v l st' hv ⟨x4, x7, x8, x9, H, rfl, rfl⟩
      obtain ⟨hj, rfl⟩ := rngL_get' hv
      refine ⟨_, rfl, ?_⟩
      have hz : (rL N j H).length < sizeLine := by rw [rL_len]; omega
      obtain ⟨c, ec⟩ := cell_ok (T := tabT) (G := tabG) (i := 12) rfl 5 ns (10 + j) [.lst (rL N j H)]
      have ec : runF tabT tabG 6 12 [.scr ns, .int (10 + (j : Int))] [.lst (rL N j H)] = .ok (.int c) [.lst (rL N j H)] := by
        have e : ((10 + j : Nat) : Int) = 10 + (j : Int) := by omega
        rw [← e]
        exact ec
      obtain ⟨ds, dl, db, er⟩ := row_ok (T := tabT) (G := tabG) (i := 13) rfl 5 c N 511 (200 + (j : Int)) [.lst (rL N j H)] (by omega) (by decide) (by decide)
      have e1 := ev_lc (c := ⟨runF tabT tabG 6, tabG⟩) (m := false) (e := .bin .sub (.var 9) (.num 255)) (tg := .nm 9) (it := .seq (.cal 13 [.cal 12 [.var 0, .bin .add (.num 10) (.var 7)] [], .var 2, .num 511, .bin .add (.num 200) (.var 7)] []))
        (l := [some (.scr ns), some (.lst (iL hs)), some (.int N), some (.int q), x4, some (.tup (rL N N F)), some (.ref 0), some (.int j), x8, x9]) (st := [.lst (rL N j H)]) (items := iL ds) (g := []) (fun x => .int (gi ds x - 255)) (by simp [ev, evs, evk, evi, fin, putK0, binEv, opI, ec, er, sview, gst, mlist]) guard_nil (fun x v hv => by
          obtain ⟨hx, rfl⟩ := iL_get hv
          refine ⟨_, rfl, ?_⟩
          simp [ev, fin, wipeE, Tg.slots, binEv, opI, gi, hx]) (by rw [iL_len]; omega)
      rw [iL_len, dl] at e1
      have e2 : (List.range N).map (fun x => Val.int (gi ds x - 255)) = iL (tab N fun x => gi ds x - 255) := by rw [iL_tab]
      rw [e2] at e1
      have e0 : (0 : Int) + (j : Int) * 1 = (j : Int) := by omega
      rw [e0]
      simp only [List.set]
      rw [W_cons]
      have eb : ev ⟨runF tabT tabG 6, tabG⟩ false (.blt .tuple [.lc false (.bin .sub (.var 9) (.num 255)) (.nm 9) (.seq (.cal 13 [.cal 12 [.var 0, .bin .add (.num 10) (.var 7)] [], .var 2, .num 511, .bin .add (.num 200) (.var 7)] [])) []])
          [some (.scr ns), some (.lst (iL hs)), some (.int N), some (.int q), x4, some (.tup (rL N N F)), some (.ref 0), some (.int j), x8, x9] [.lst (rL N j H)] = .ok (.tup (iL (tab N fun x => gi ds x - 255))) [.lst (rL N j H)] := by
        rw [ev, evs, e1]
        simp [newL, evs, fin, bfEv, lview]
      rw [evS, ev]
      have ev6 : ev ⟨runF tabT tabG 6, tabG⟩ false (.var 6) [some (.scr ns), some (.lst (iL hs)), some (.int N), some (.int q), x4, some (.tup (rL N N F)), some (.ref 0), some (.int j), x8, x9] [.lst (rL N j H)] = .ok (.ref 0) [.lst (rL N j H)] := by simp [ev, fin]
      rw [ev6]
      have m0 : mlist [Ob.lst (rL N j H)] (.ref 0) = some (0, rL N j H) := rfl
      simp only [R.bind_ok, m0, eb, fin, appEv]
      rw [if_pos hz]
      simp only [R.fl_ok, W_nx, W_nil]
      exact ⟨_, _, _, _, _, rfl, by rw [← rL_snoc (tab_len (f := fun x => gi ds x - 255))]; rfl⟩
    · rintro l st' ⟨x4, x7, x8, x9, H, rfl, rfl⟩
      rw [rngL_len]
      dsimp only
      rw [W_cons]
      simp [evS, ev, evs, evk, fin, putK0, wi, bfEv, lview]
      simp only [W_nil]
      rw [W_cons]
      simp [evS, ev, evs, evk, fin, putK10, pK]
      rw [W_cons]
      simp [evS, ev, evs, evk, fin, putK0, ii, lK, cmEv, eqEv, belowV]
theorem law_ok (ns : List Int) (h : ns.length ≤ 63) : ∃ st, runF tabT tabG lvK lawI [.scr ns] [] = .ok (.bl true) st := by
  refine ⟨[], ?_⟩
  refine call_ret0 (d := f_law) (n := 7) rfl rfl ?_
  have hf : frameOf f_law [.scr ns] = [some (.scr ns)] := rfl
  rw [hf]
  have := whole_ok ns
  simp [f_law, evSs, evS, ev, evs, evk, fin, putK, this]
end Pv

set_option Elab.async false
set_option linter.all false
set_option maxRecDepth 100000
set_option maxHeartbeats 0
namespace Pv
open PySem PySem.Spec PyProof.Rows L2
theorem chk : textB tabT tabG PySem.Challenge.pw_picturetide_k07_whole_place_bounds.main.body = true := by decide +kernel
abbrev RR : PySem.W.OpenRow := PySem.W.OpenLaw.row PySem.Challenge.rw_picturetide_k07_whole_place_bounds
abbrev hk : PySem.W.Hook := He.hookD 5 (faOf tabT) (fnOf tabT PySem.Challenge.pw_picturetide_k07_whole_place_bounds.main.body)
def obH (s : PySem.W.SharedT) : He.AlD := He.obsDG 5 (faOf tabT) (fnOf tabT PySem.Challenge.pw_picturetide_k07_whole_place_bounds.main.body) (HandSHeadRun.getT s)
theorem obH_eq (s : PySem.W.SharedT) : obH s = hk.obs s.abs := He.obsDG_eq (HandSHeadRun.getT_eq s)
theorem runH (w : World) : HandSHeadRun.RunEq RR (PySem.W.view RR.prog [30]) hk obH 100000 (looseOf RR.prog.main.body) w := by
  intro os
  kernel_rfl
theorem nameH : (HandSHeadRun.topDef (PySem.W.OpenLaw.row PySem.Challenge.rw_picturetide_k07_whole_place_bounds).prog 30).name = f_law.name := by kernel_rfl
end Pv
open PySem PySem.W PySem.Calls PyProof.Rows
theorem PySem.Challenge.cw_picturetide_k07_whole_place_bounds_holds : PySem.Challenge.rw_picturetide_k07_whole_place_bounds.Holds := by
  w_on; o_law
  refine HandSHeadRun.head_any (r := OpenLaw.row PySem.Challenge.rw_picturetide_k07_whole_place_bounds) (q := view (OpenLaw.row PySem.Challenge.rw_picturetide_k07_whole_place_bounds).prog [30]) (H := Pv.hk) (ob := Pv.obH) (M := 100000) (loose := Pv.looseOf (OpenLaw.row PySem.Challenge.rw_picturetide_k07_whole_place_bounds).prog.main.body) (d := HandSHeadRun.topDef (OpenLaw.row PySem.Challenge.rw_picturetide_k07_whole_place_bounds).prog 30) (kwd := []) Pv.obH_eq
    (by kernel_rfl) (fun s => by kernel_rfl) Pv.runH (by kernel_rfl) (by kernel_rfl) (by kernel_rfl) (by rfl) (by first | assumption | decide +kernel) (by decide +kernel) ⟨rfl, rfl, rfl, rfl, rfl, by decide +kernel⟩ ?hw ?hc
  case hw => w_witness2
  case hc => exact Pv.walk_pv (l := PySem.Challenge.rw_picturetide_k07_whole_place_bounds) (n := 63) (k := Pv.lvK) (i := Pv.lawI) (x := "_law_script") (dl := Pv.f_law) rfl (by decide) (by kernel_rfl) ⟨rfl, by decide, by decide⟩ Pv.chk rfl rfl Pv.nameH rfl Pv.law_ok
