import PyProof.Rows.All
import Wide.All
import OpenK.AllK
import Wide.FinOn
import HandS.ForMost
import HandS.TupAny
import HandS.TupMul
import HandS.Style
import HandS.Deep
import HandS.Zip
import HandS.Defaults
import HandS.SortInts
import HandS.IsInst
import HandS.NoneIn
import HandS.SortRule
import KE.GoesEnum
import KE.GoesMore
import HandS.Head0
import HandS.Head1
import HandS.Head2
import HandS.HeadEnd
import HandS.HeadHook1
import HandS.HeadHook2
import PySem.Challenge.RW_seatworks_k92_whole_swings_and_turning_s
import Lean
set_option Elab.async false
set_option linter.all false
set_option maxRecDepth 100000
set_option maxHeartbeats 4000000
section
set_option maxHeartbeats 4000000
/-! the evaluator: values, cells, core language, its meaning -/
namespace Ev
open PySem

/-- a value: scalars, tuples and settled lists as trees, a changing list by its cell -/
inductive PV where
  | non | bl (b : Bool) | int (i : Int) | str (s : Str)
  | tup (vs : List PV) | lst (vs : List PV) | par (vs : List PV) | dct0 | ref (n : Nat)
instance : Inhabited PV := ⟨.non⟩

structure Cell where
  live : Bool
  vs : List PV
abbrev Cs := List Cell
abbrev Sl := List (Option PV)
/-- the greatest length -/
def LIM : Nat := 16777216

mutual
def dat : PV → Option PyData
  | .non => some .none
  | .bl b => some (.bool b)
  | .int i => some (.int i)
  | .str s => some (.str s)
  | .tup vs => (datA vs).map .tuple
  | .lst vs => (datA vs).map .list
  | .dct0 => some (.dict [])
  | .par _ => none
  | .ref _ => none
def datA : List PV → Option (List PyData)
  | [] => some []
  | v :: vs => (dat v).bind fun d => (datA vs).map (d :: ·)
end

def lk (sl : Sl) (i : Nat) : Option PV := (sl[i]?).join
def frz (v : PV) (cs : Cs) : Option (PV × Cs) :=
  match v with
  | .ref n => match cs[n]? with
    | some c => some (.lst c.vs, cs.set n { c with live := false })
    | none => none
  | v => some (v, cs)
/-- a list's items as they stand -/
def asL (cs : Cs) : PV → Option (List PV)
  | .lst vs => some vs
  | .ref n => (cs[n]?).map (·.vs)
  | _ => none
/-- .. of the script, too -/
def asR (cs : Cs) : PV → Option (List PV)
  | .par vs => some vs
  | v => asL cs v
def asQ (cs : Cs) : PV → Option (List PV)
  | .tup vs => some vs
  | v => asR cs v
mutual
def asD (cs : Cs) : PV → Option PyData
  | .ref n => (cs[n]?).bind fun c => (datA c.vs).map .list
  | .non => some .none
  | .bl b => some (.bool b)
  | .int i => some (.int i)
  | .str s => some (.str s)
  | .tup vs => (asDA cs vs).map .tuple
  | .lst vs => (asDA cs vs).map .list
  | .dct0 => some (.dict [])
  | .par _ => none
def asDA (cs : Cs) : List PV → Option (List PyData)
  | [] => some []
  | v :: vs => (asD cs v).bind fun d => (asDA cs vs).map (d :: ·)
end
def asInts : List PV → Option (List Int)
  | [] => some []
  | .int i :: r => (asInts r).map (i :: ·)
  | _ => none
def asBls : List PV → Option (List Bool)
  | [] => some []
  | .bl b :: r => (asBls r).map (b :: ·)
  | _ => none
def asTups : List PV → Option (List (List Int))
  | [] => some []
  | .tup vs :: r => (asInts vs).bind fun ns => (asTups r).map (ns :: ·)
  | _ => none
/-- a new list: settled, or in a cell -/
def alc (c : Bool) (vs : List PV) (cs : Cs) : PV × Cs :=
  if c then (.ref cs.length, cs ++ [⟨true, vs⟩]) else (.lst vs, cs)

def small (i : Int) : Bool := decide (-(2 ^ 64) < i) && decide (i < 2 ^ 64)
def cut (vs : List PV) (lo hi : Option Int) : List PV := (vs.drop (HT.sIx vs.length 0 lo)).take (HT.sIx vs.length vs.length hi - HT.sIx vs.length 0 lo)

def opB (op : Operator) (c : Bool) (cs : Cs) (a b : PV) : Option (PV × Cs) :=
  match op, a, b with
  | .Add, .int i, .int j => some (.int (i + j), cs)
  | .Add, .str i, .str j => if i.length + j.length ≤ LIM then some (.str (i ++ j), cs) else none
  | .Add, .tup x, .tup y => if x.length + y.length ≤ LIM then some (.tup (x ++ y), cs) else none
  | .Add, a, b => match asL cs a, asL cs b with
    | some x, some y => if x.length + y.length ≤ LIM then some (alc c (x ++ y) cs) else none
    | _, _ => none
  | .Sub, .int i, .int j => some (.int (i - j), cs)
  | .Mult, .int i, .int j => if small i || small j then some (.int (i * j), cs) else none
  | .Mult, .tup x, .int k => if x ≠ [] ∧ 1 ≤ k ∧ k ≤ 1000 ∧ x.length ≤ 1000 then some (.tup (List.replicate k.toNat x).flatten, cs) else none
  | .Mult, a, .int k => match asL cs a with
    | some x => if -(2 ^ 63) ≤ k ∧ k < 2 ^ 63 ∧ x.length * k.toNat ≤ LIM then some (alc c (List.replicate k.toNat x).flatten cs) else none
    | none => none
  | .FloorDiv, .int i, .int j => if 0 < j ∧ j < 1073741824 then some (.int (i / j), cs) else none
  | .Mod, .int i, .int j => if 0 < j then some (.int (i % j), cs) else none
  | .Pow, .int i, .int j => if 0 ≤ j ∧ j ≤ 1000000 ∧ i.natAbs < 2 ^ 64 then some (.int (i ^ j.toNat), cs) else none
  | _, _, _ => none

def eqD (cs : Cs) (a b : PV) : Option Bool :=
  (asD cs a).bind fun d => (asD cs b).bind fun e => if SeqAt.shaped d && SeqAt.shaped e then some (PyData.eqv d e) else none
def eqO (cs : Cs) (a b : PV) : Option Bool :=
  match a with
  | .str s => match b with
    | .str t => some (s == t)
    | b => eqD cs (.str s) b
  | a => eqD cs a b
def inO (cs : Cs) (a b : PV) : Option Bool :=
  (asD cs a).bind fun d => (asD cs b).bind fun e => match e with
    | .list ds => if SeqAt.shaped d && SeqAt.shaped (.list ds) then some (ds.any fun z => PyData.eqv z d) else none
    | .tuple ds => if SeqAt.shaped d && SeqAt.shaped (.tuple ds) then some (ds.any fun z => PyData.eqv z d) else none
    | _ => none
def cmpO (op : CmpOp) (cs : Cs) (a b : PV) : Option Bool :=
  match op with
  | .Eq => eqO cs a b
  | .NotEq => (eqO cs a b).map (!·)
  | .Lt => match a, b with
    | .int i, .int j => some (decide (i < j))
    | .tup x, .tup y => (asInts x).bind fun ns => (asInts y).map fun ms => HT.lexLt ns ms
    | _, _ => none
  | .LtE => match a, b with
    | .int i, .int j => some (decide (i ≤ j))
    | _, _ => none
  | .Gt => match a, b with
    | .int i, .int j => some (decide (j < i))
    | _, _ => none
  | .GtE => match a, b with
    | .int i, .int j => some (decide (j ≤ i))
    | _, _ => none
  | .Is => match b with
    | .non => match a with
      | .non => some true
      | _ => some false
    | _ => none
  | .IsNot => match b with
    | .non => match a with
      | .non => some false
      | _ => some true
    | _ => none
  | .In => inO cs a b
  | .NotIn => (inO cs a b).map (!·)

def ixO (cs : Cs) (a i : PV) : Option PV :=
  match i with
  | .int k => (asQ cs a).bind fun vs => L2.atI vs k
  | _ => none
def oInt : Option PV → Option (Option Int)
  | none => some none
  | some (.int i) => some (some i)
  | some _ => none
def slcO (c : Bool) (cs : Cs) (a : PV) (lo hi : Option PV) : Option (PV × Cs) :=
  (oInt lo).bind fun lo => (oInt hi).bind fun hi => match a with
    | .tup vs => some (.tup (cut vs lo hi), cs)
    | a => (asR cs a).map fun vs => alc c (cut vs lo hi) cs
def revO (c : Bool) (cs : Cs) (a : PV) : Option (PV × Cs) :=
  match a with
  | .tup vs => some (.tup vs.reverse, cs)
  | a => (asR cs a).map fun vs => alc c vs.reverse cs
def tyIs (v : PV) (t : String) : Bool :=
  match v, t with
  | .int _, "int" => true
  | .bl _, "int" => true
  | .bl _, "bool" => true
  | .str _, "str" => true
  | .tup _, "tuple" => true
  | .lst _, "list" => true
  | .ref _, "list" => true
  | .par _, "list" => true
  | .dct0, "dict" => true
  | _, _ => false
def lexLe (a b : List Int) : Bool := !HT.lexLt b a
def sortO (vs : List PV) : Option (List PV) :=
  match asInts vs with
  | some ns => some ((ns.mergeSort (fun a b => decide (a ≤ b))).map .int)
  | none => (asTups vs).map fun ts => (ts.mergeSort lexLe).map fun t => .tup (t.map .int)
def least : List Int → Int
  | [] => 0
  | x :: r => r.foldl (fun m y => if y < m then y else m) x
def greatest : List Int → Int
  | [] => 0
  | x :: r => r.foldl (fun m y => if m < y then y else m) x

inductive Bl where
  | abs | len | max2 | min2 | maxL | minL | sum | any | all | sorted | int | divmod | tuple | list | repr | tupRng
  deriving DecidableEq

/-- built-in functions -/
def bltO (f : Bl) (c : Bool) (cs : Cs) (vs : List PV) : Option (PV × Cs) :=
  match f, vs with
  | .abs, [.int i] => some (.int (if i < 0 then -i else i), cs)
  | .len, [v] => match v with
    | .str s => if s.length ≤ LIM then some (.int s.length, cs) else none
    | .tup xs => some (.int xs.length, cs)
    | v => (asR cs v).map fun xs => (.int xs.length, cs)
  | .max2, [.int i, .int j] => some (.int (if j > i then j else i), cs)
  | .min2, [.int i, .int j] => some (.int (if j < i then j else i), cs)
  | .maxL, [v] => (asR cs v).bind fun xs => (asInts xs).bind fun ns => if ns = [] then none else some (.int (greatest ns), cs)
  | .minL, [v] => (asR cs v).bind fun xs => (asInts xs).bind fun ns => if ns = [] then none else some (.int (least ns), cs)
  | .sum, [.tup xs] => (asInts xs).map fun ns => (.int ns.sum, cs)
  | .sum, [v] => (asR cs v).bind fun xs => (asInts xs).map fun ns => (.int ns.sum, cs)
  | .any, [v] => (asR cs v).bind fun xs => (asBls xs).map fun bs => (.bl (bs.any id), cs)
  | .all, [v] => (asR cs v).bind fun xs => (asBls xs).map fun bs => (.bl (bs.all id), cs)
  | .sorted, [v] => (asR cs v).bind fun xs => (sortO xs).map fun ys => alc c ys cs
  | .int, [.int i] => some (.int i, cs)
  | .divmod, [.int i, .int j] => if 0 < j ∧ j < 1073741824 then some (.tup [.int (i / j), .int (i % j)], cs) else none
  | .tuple, [.tup xs] => some (.tup xs, cs)
  | .tuple, [v] => (asR cs v).map fun xs => (.tup xs, cs)
  | .list, [v] => (asQ cs v).map fun xs => alc c xs cs
  | .repr, [v] => (asD cs v).bind fun d => if d.showable = true ∧ d.depth ≤ 64 ∧ d.shown.length ≤ LIM then some (.str d.shown, cs) else none
  | .tupRng, [.int n] => if 0 ≤ n ∧ n ≤ LIM then some (.tup ((List.range n.toNat).map fun (i : Nat) => .int i), cs) else none
  | _, _ => none

mutual
inductive CE where
  | var (i : Nat) | mv (i : Nat)
  | cst (v : PV)
  | glo (x : Str) (v : PV)
  | tup (es : CA) | lst (c : Bool) (es : CA) | dct0
  | bin (op : Operator) (c : Bool) (a b : CE)
  | neg (a : CE)
  | cmp (op : CmpOp) (a b : CE)
  | chain (op op' : CmpOp) (a b e : CE)
  | and (a b : CE) | or (a b : CE) | not (a : CE)
  | ite (t a b : CE)
  | idx (a i : CE)
  | slc (c : Bool) (a : CE) (lo hi : CO)
  | rev (c : Bool) (a : CE)
  | blt (f : Bl) (c : Bool) (es : CA)
  | isi (a : CE) (tys : List String) (many : Bool)
  | call (j : Nat) (perm : List Nat) (es : CA) (ks : CK)
  | comp (c : Bool) (elt : CE) (tg : CTg) (it : CI) (cond : CO) (own : List (Str × Nat))
inductive CA where
  | nil | cons (e : CE) (r : CA)
inductive CK where
  | nil | cons (k : Str) (e : CE) (r : CK)
inductive CO where
  | none | some (e : CE)
inductive CI where
  | seq (e : CE) | rng (es : CA) | enm (e : CE) | zip (a b : CE)
inductive CTg where
  | name (i : Nat) | tup (ts : CTs) | sub (o i : CE)
inductive CTs where
  | nil | cons (t : CTg) (r : CTs)
end

mutual
inductive CS where
  | asg (t : CTg) (e : CE)
  | par (i j : Nat) (a b : CE)
  | app (o e : CE) | ext (o e : CE)
  | drop (e : CE)
  | ite (t : CE) (a b : CB)
  | loop (t : CTg) (it : CI) (body : CB)
  | while (t : CE) (body : CB)
  | ret (e : CE) | retN
  | never | pass | brk | cnt
inductive CB where
  | nil | cons (s : CS) (r : CB)
end

inductive Out where
  | nx | bk | ct | rt (v : PV)

def CA.len : CA → Nat
  | .nil => 0
  | .cons _ r => r.len + 1
def CTs.len : CTs → Nat
  | .nil => 0
  | .cons _ r => r.len + 1

def wipeS (sl : Sl) : List Nat → Sl
  | [] => sl
  | v :: vs => (wipeS sl vs).set v none

/-- o[i] = v -/
def setO (cs : Cs) (o i v : PV) : Option Cs :=
  match o, i with
  | .ref n, .int k => match cs[n]? with
    | some c => if c.live then (L2.ixN c.vs.length k).map fun j => cs.set n { c with vs := c.vs.set j v } else none
    | none => none
  | _, _ => none
def appO (cs : Cs) (o v : PV) : Option Cs :=
  match o with
  | .ref n => match cs[n]? with
    | some c => if c.live = true ∧ c.vs.length < LIM then some (cs.set n { c with vs := c.vs ++ [v] }) else none
    | none => none
  | _ => none
def extO (cs : Cs) (o : PV) (ws : List PV) : Option Cs :=
  match o with
  | .ref n => match cs[n]? with
    | some c => if c.live = true ∧ c.vs.length + ws.length ≤ LIM then some (cs.set n { c with vs := c.vs ++ ws }) else none
    | none => none
  | _ => none
/-- the items of a list that is settled from now on; of a tuple -/
def walk (v : PV) (cs : Cs) : Option (List PV × Cs) :=
  (frz v cs).bind fun p => match p.1 with
    | .lst vs => some (vs, p.2)
    | .par vs => some (vs, p.2)
    | .tup vs => some (vs, p.2)
    | _ => none
def isTupV : PV → Bool
  | .tup _ => true
  | _ => false
/-- a comprehension's turns; f gives the item, if its test holds -/
def evComp (f : PV → Cs → Option (Option PV × Cs)) : List PV → Cs → Option (List PV × Cs)
  | [], cs => some ([], cs)
  | v :: vs, cs => (f v cs).bind fun p => (evComp f vs p.2).map fun q => (match p.1 with | some y => y :: q.1 | none => q.1, q.2)
def enumO : Nat → List PV → List PV
  | _, [] => []
  | n, v :: vs => .tup [.int n, v] :: enumO (n + 1) vs
def zipO : List PV → List PV → List PV
  | x :: xs, y :: ys => .tup [x, y] :: zipO xs ys
  | _, _ => []
def rngO (vs : List PV) : Option (List PV) :=
  match vs with
  | [.int j] => if -LIM ≤ j ∧ j ≤ LIM then some ((List.range j.toNat).map fun (i : Nat) => .int i) else none
  | [.int i, .int j] => if -LIM ≤ i ∧ i ≤ LIM ∧ -LIM ≤ j ∧ j ≤ LIM ∧ j - i ≤ LIM then some ((List.range (j - i).toNat).map fun (k : Nat) => .int (i + k)) else none
  | _ => none

section
variable (Φ : Nat → List PV → Cs → Option (PV × Cs))
mutual
def evE : CE → Sl → Cs → Option (PV × Cs)
  | .var i, sl, cs => (lk sl i).map fun v => (v, cs)
  | .mv i, sl, cs => (lk sl i).bind fun v => frz v cs
  | .cst v, _, cs => some (v, cs)
  | .glo _ v, _, cs => some (v, cs)
  | .tup es, sl, cs => (evA es sl cs).map fun p => (.tup p.1, p.2)
  | .lst c es, sl, cs => (evA es sl cs).map fun p => alc c p.1 p.2
  | .dct0, _, cs => some (.dct0, cs)
  | .bin op c a b, sl, cs => (evE a sl cs).bind fun p => (evE b sl p.2).bind fun q => opB op c q.2 p.1 q.1
  | .neg a, sl, cs => (evE a sl cs).bind fun p => match p.1 with
    | .int i => some (.int (-i), p.2)
    | _ => none
  | .cmp op a b, sl, cs => (evE a sl cs).bind fun p => (evE b sl p.2).bind fun q => (cmpO op q.2 p.1 q.1).map fun k => (.bl k, q.2)
  | .chain op op' a b e, sl, cs => (evE a sl cs).bind fun p => (evE b sl p.2).bind fun q => (cmpO op q.2 p.1 q.1).bind fun k =>
      if k then (evE e sl q.2).bind fun r => (cmpO op' r.2 q.1 r.1).map fun k => (.bl k, r.2) else some (.bl false, q.2)
  | .and a b, sl, cs => (evE a sl cs).bind fun p => match p.1 with
    | .bl true => evE b sl p.2
    | .bl false => some (.bl false, p.2)
    | _ => none
  | .or a b, sl, cs => (evE a sl cs).bind fun p => match p.1 with
    | .bl true => some (.bl true, p.2)
    | .bl false => evE b sl p.2
    | _ => none
  | .not a, sl, cs => (evE a sl cs).bind fun p => match p.1 with
    | .bl k => some (.bl (!k), p.2)
    | _ => none
  | .ite t a b, sl, cs => (evE t sl cs).bind fun p => match p.1 with
    | .bl true => evE a sl p.2
    | .bl false => evE b sl p.2
    | _ => none
  | .idx a i, sl, cs => (evE a sl cs).bind fun p => (evE i sl p.2).bind fun q => (ixO q.2 p.1 q.1).map fun v => (v, q.2)
  | .slc c a lo hi, sl, cs => (evE a sl cs).bind fun p => (evO lo sl p.2).bind fun q => (evO hi sl q.2).bind fun r => slcO c r.2 p.1 q.1 r.1
  | .rev c a, sl, cs => (evE a sl cs).bind fun p => revO c p.2 p.1
  | .blt f c es, sl, cs => (evA es sl cs).bind fun p => bltO f c p.2 p.1
  | .isi a tys _, sl, cs => (evE a sl cs).map fun p => (.bl (tys.any (tyIs p.1)), p.2)
  | .call j perm es ks, sl, cs => (evA es sl cs).bind fun p => (evK ks sl p.2).bind fun q =>
      (perm.mapM fun k => (p.1 ++ q.1)[k]?).bind fun vs => Φ j vs q.2
  | .comp c elt tg it cond own, sl, cs => (evI it sl cs).bind fun p =>
      (evComp (fun v cs => (evTg tg v (wipeS sl (own.map (·.2))) cs).bind fun q => (evO cond q.1 q.2).bind fun r => match r.1 with
        | none => (evE elt q.1 r.2).map fun s => (some s.1, s.2)
        | some (.bl true) => (evE elt q.1 r.2).map fun s => (some s.1, s.2)
        | some (.bl false) => some (none, r.2)
        | _ => none) p.1 p.2).map fun q => alc c q.1 q.2
def evA : CA → Sl → Cs → Option (List PV × Cs)
  | .nil, _, cs => some ([], cs)
  | .cons e r, sl, cs => (evE e sl cs).bind fun p => (evA r sl p.2).map fun q => (p.1 :: q.1, q.2)
def evK : CK → Sl → Cs → Option (List PV × Cs)
  | .nil, _, cs => some ([], cs)
  | .cons _ e r, sl, cs => (evE e sl cs).bind fun p => (evK r sl p.2).map fun q => (p.1 :: q.1, q.2)
def evO : CO → Sl → Cs → Option (Option PV × Cs)
  | .none, _, cs => some (none, cs)
  | .some e, sl, cs => (evE e sl cs).map fun p => (some p.1, p.2)
def evI : CI → Sl → Cs → Option (List PV × Cs)
  | .seq e, sl, cs => (evE e sl cs).bind fun p => walk p.1 p.2
  | .rng es, sl, cs => (evA es sl cs).bind fun p => (rngO p.1).map fun vs => (vs, p.2)
  | .enm e, sl, cs => (evE e sl cs).bind fun p => (walk p.1 p.2).map fun q => (enumO 0 q.1, q.2)
  | .zip a b, sl, cs => (evE a sl cs).bind fun p => (evE b sl p.2).bind fun q => if isTupV p.1 == isTupV q.1 then (walk p.1 q.2).bind fun r => (walk q.1 r.2).map fun s => (zipO r.1 s.1, s.2) else none
def evTg : CTg → PV → Sl → Cs → Option (Sl × Cs)
  | .name i, v, sl, cs => some (sl.set i (some v), cs)
  | .tup ts, v, sl, cs => match v with
    | .tup vs => if vs.length = ts.len then evTs ts vs sl cs else none
    | _ => none
  | .sub o i, v, sl, cs => (evE o sl cs).bind fun p => (evE i sl p.2).bind fun q => (setO q.2 p.1 q.1 v).map fun cs => (sl, cs)
def evTs : CTs → List PV → Sl → Cs → Option (Sl × Cs)
  | .nil, _, sl, cs => some (sl, cs)
  | .cons t r, vs, sl, cs => match vs with
    | v :: vs => (evTg t v sl cs).bind fun p => evTs r vs p.1 p.2
    | [] => none
end

/-- a for's turns -/
def evFor (f : PV → Sl → Cs → Option (Out × Sl × Cs)) : List PV → Sl → Cs → Option (Out × Sl × Cs)
  | [], sl, cs => some (.nx, sl, cs)
  | v :: vs, sl, cs => (f v sl cs).bind fun p => match p.1 with
    | .nx => evFor f vs p.2.1 p.2.2
    | .ct => evFor f vs p.2.1 p.2.2
    | .bk => some (.nx, p.2)
    | .rt u => some (.rt u, p.2)
/-- a while's turns, so many at the most -/
def evWhile (t : Sl → Cs → Option (PV × Cs)) (f : Sl → Cs → Option (Out × Sl × Cs)) : Nat → Sl → Cs → Option (Out × Sl × Cs)
  | 0, _, _ => none
  | n + 1, sl, cs => (t sl cs).bind fun p => match p.1 with
    | .bl false => some (.nx, sl, p.2)
    | .bl true => (f sl p.2).bind fun q => match q.1 with
      | .nx => evWhile t f n q.2.1 q.2.2
      | .ct => evWhile t f n q.2.1 q.2.2
      | .bk => some (.nx, q.2)
      | .rt u => some (.rt u, q.2)
    | _ => none
variable (W : Nat)
mutual
def evS : CS → Sl → Cs → Option (Out × Sl × Cs)
  | .asg t e, sl, cs => (evE Φ e sl cs).bind fun p => (evTg Φ t p.1 sl p.2).map fun q => (.nx, q)
  | .par i j a b, sl, cs => (evE Φ a sl cs).bind fun p => (evE Φ b sl p.2).map fun q => (.nx, (sl.set i (some p.1)).set j (some q.1), q.2)
  | .app o e, sl, cs => (evE Φ o sl cs).bind fun p => (evE Φ e sl p.2).bind fun q => (appO q.2 p.1 q.1).map fun cs => (.nx, sl, cs)
  | .ext o e, sl, cs => (evE Φ o sl cs).bind fun p => (evE Φ e sl p.2).bind fun q => (asL q.2 q.1).bind fun ws => (extO q.2 p.1 ws).map fun cs => (.nx, sl, cs)
  | .drop e, sl, cs => (evE Φ e sl cs).map fun p => (.nx, sl, p.2)
  | .ite t a b, sl, cs => (evE Φ t sl cs).bind fun p => match p.1 with
    | .bl true => evB a sl p.2
    | .bl false => evB b sl p.2
    | _ => none
  | .loop t it body, sl, cs => (evI Φ it sl cs).bind fun p => evFor (fun v sl cs => (evTg Φ t v sl cs).bind fun q => evB body q.1 q.2) p.1 sl p.2
  | .while t body, sl, cs => evWhile (fun sl cs => evE Φ t sl cs) (fun sl cs => evB body sl cs) W sl cs
  | .ret e, sl, cs => (evE Φ e sl cs).map fun p => (.rt p.1, sl, p.2)
  | .retN, sl, cs => some (.rt .non, sl, cs)
  | .never, _, _ => none
  | .pass, sl, cs => some (.nx, sl, cs)
  | .brk, sl, cs => some (.bk, sl, cs)
  | .cnt, sl, cs => some (.ct, sl, cs)
def evB : CB → Sl → Cs → Option (Out × Sl × Cs)
  | .nil, sl, cs => some (.nx, sl, cs)
  | .cons s r, sl, cs => (evS s sl cs).bind fun p => match p.1 with
    | .nx => evB r p.2.1 p.2.2
    | o => some (o, p.2)
end
end

/-- a def: its name, parameters, slots (parameters first), body -/
structure FnI where
  name : Str
  ps : List Str
  N : List Str
  body : CB
  /-- the call's forms: positional arguments, keywords, which goes where -/
  bd : List (Nat × List Str × List Nat)
def evFn (W : Nat) (D : List FnI) : Nat → Nat → List PV → Cs → Option (PV × Cs)
  | 0, _, _, _ => none
  | d + 1, j, args, cs => (D[j]?).bind fun f =>
      if args.length = f.ps.length then
        (evB (evFn W D d) W f.body (args.map some ++ List.replicate (f.N.length - args.length) none) cs).bind fun p => match p.1 with
          | .rt v => some (v, p.2.2)
          | .nx => some (.non, p.2.2)
          | _ => none
      else none
end Ev
end

section
set_option maxHeartbeats 4000000
/-! values against the hand layer's heap -/
namespace Ev
open PySem L2
theorem LIM_eq : LIM = sizeLine := by rw [sizeLine_eq]; rfl

/-- the cells' addresses, the settled lists' addresses -/
structure Mp where
  ρ : List Addr
  F : Addr → Prop

section
variable (K : PySem.W.Frag)
/-- a list of the module's own -/
def KL (a : Addr) (xs : List V) : Prop := ∃ (o : Obj) (its : Array Value) (n : Nat), K.lookup a = some o ∧ o.cls = .type "list" ∧ o.dict = none ∧ o.data = .seq its n ∧ its.size ≤ sizeLine ∧ Vals xs its.toList
def FL (H : Hp) (M : Mp) (a : Addr) (xs : List V) : Prop := (M.F a ∧ Rd H a (.lst xs)) ∨ KL K a xs
mutual
def VR (H : Hp) (M : Mp) : PV → V → Prop
  | .non, x => x = .non
  | .bl b, x => x = .bl b
  | .int i, x => x = .int i
  | .str s, x => x = .str s
  | .tup vs, x => ∃ a xs, x = .ref a ∧ SqT K H a xs ∧ xs.length ≤ LIM ∧ VRs H M vs xs
  | .lst vs, x => ∃ a xs, x = .ref a ∧ (M.F a ∧ H a = some (.lst xs)) ∧ xs.length ≤ LIM ∧ VRs H M vs xs
  | .par vs, x => ∃ a xs, x = .ref a ∧ FL K H M a xs ∧ xs.length ≤ LIM ∧ VRs H M vs xs
  | .dct0, x => ∃ a, x = .ref a ∧ M.F a ∧ H a = some (.dK [])
  | .ref n, x => ∃ a, M.ρ[n]? = some a ∧ x = .ref a
def VRs (H : Hp) (M : Mp) : List PV → List V → Prop
  | [], xs => xs = []
  | v :: vs, xs => ∃ x r, xs = x :: r ∧ VR H M v x ∧ VRs H M vs r
end
/-- the cells hold -/
structure CelR (H : Hp) (M : Mp) (cs : Cs) : Prop where
  len : M.ρ.length = cs.length
  nd : M.ρ.Nodup
  fz : ∀ a, M.F a → ∃ o, H a = some o
  at' : ∀ (n : Nat) (c : Cell), cs[n]? = some c → ∃ a xs, M.ρ[n]? = some a ∧ H a = some (.lst xs) ∧ xs.length ≤ LIM ∧ VRs K H M c.vs xs ∧ (c.live = true → ¬ M.F a) ∧ (c.live = false → M.F a)
/-- slots -/
structure SloR (H : Hp) (M : Mp) (sl : Sl) (σ : St) : Prop where
  len : sl.length = σ.length
  at' : ∀ (i : Nat) (v : PV), lk sl i = some v → ∃ x, σ[i]? = some (some x) ∧ VR K H M v x
end
/-- what a value rests on -/
structure Ew (H : Hp) (M : Mp) (H' : Hp) (M' : Mp) : Prop where
  ρ : ∀ (n : Nat) (a : Addr), M.ρ[n]? = some a → M'.ρ[n]? = some a
  F : ∀ a, M.F a → M'.F a
  fz : ∀ a o, M.F a → H a = some o → H' a = some o
  tup : ∀ a xs, H a = some (.tup xs) → H' a = some (.tup xs)
  frz : ∀ a o u, H a = some (.frz o u) → H' a = some (.frz o u)
/-- what a step leaves as it was -/
structure Ex (H : Hp) (M : Mp) (H' : Hp) (M' : Mp) : Prop extends Ew H M H' M' where
  nw : ∀ a, a ∈ M'.ρ → a ∈ M.ρ ∨ H a = none
  oth : ∀ a o, H a = some o → a ∉ M.ρ → H' a = some o
  nF : ∀ a, M'.F a → M.F a ∨ a ∈ M.ρ ∨ H a = none
section
variable {K : PySem.W.Frag} {H H' H1 H2 : Hp} {M M' M1 M2 : Mp} {cs cs' : Cs} {sl : Sl} {σ : St} {a p : Addr} {xs : List V}
theorem Ew.refl : Ew H M H M := ⟨fun _ _ h => h, fun _ h => h, fun _ _ _ h => h, fun _ _ h => h, fun _ _ _ h => h⟩
theorem Ew.trans (a : Ew H M H1 M1) (b : Ew H1 M1 H2 M2) : Ew H M H2 M2 :=
  ⟨fun n x h => b.ρ n x (a.ρ n x h), fun x h => b.F x (a.F x h), fun x o f h => b.fz x o (a.F x f) (a.fz x o f h), fun x ys h => b.tup x ys (a.tup x ys h), fun x o u h => b.frz x o u (a.frz x o u h)⟩
theorem Ex.refl : Ex H M H M := ⟨Ew.refl, fun _ h => .inl h, fun _ _ h _ => h, fun _ h => .inl h⟩
theorem Ex.trans (a : Ex H M H1 M1) (b : Ex H1 M1 H2 M2) : Ex H M H2 M2 := by
  refine ⟨a.toEw.trans b.toEw, fun x h => ?_, fun x o h n => ?_, fun x h => ?_⟩
  · rcases b.nw x h with q | q
    · exact a.nw x q
    · by_cases hx : x ∈ M.ρ
      · exact .inl hx
      · right
        cases e : H x with
        | none => rfl
        | some o => rw [a.oth x o e hx] at q; cases q
  · refine b.oth x o (a.oth x o h n) fun q => ?_
    rcases a.nw x q with q | q
    · exact n q
    · rw [h] at q; cases q
  · rcases b.nF x h with q | q | q
    · exact a.nF x q
    · exact .inr (a.nw x q)
    · right
      by_cases hx : x ∈ M.ρ
      · exact .inl hx
      · right
        cases e : H x with
        | none => rfl
        | some o => rw [a.oth x o e hx] at q; cases q
theorem SqT.ew {a : Addr} {xs : List V} (e : Ew H M H' M') (h : SqT K H a xs) : SqT K H' a xs := by
  rcases h with h | h
  · rcases h with h | ⟨o, h⟩
    · exact .inl (.inl (e.tup _ _ h))
    · exact .inl (.inr ⟨o, e.frz _ _ _ h⟩)
  · exact .inr h
theorem FL.ew {a : Addr} {xs : List V} (e : Ew H M H' M') (h : FL K H M a xs) : FL K H' M' a xs := by
  rcases h with ⟨f, h⟩ | h
  · refine .inl ⟨e.F _ f, ?_⟩
    rcases h with h | ⟨o, h⟩
    · exact .inl (e.fz _ _ f h)
    · exact .inr ⟨o, e.fz _ _ f h⟩
  · exact .inr h
theorem FL.sq {a : Addr} {xs : List V} (h : FL K H M a xs) : SqL K H a xs := by
  rcases h with ⟨_, h⟩ | h
  · exact .inl h
  · exact .inr h
mutual
theorem VR.ew (e : Ew H M H' M') : ∀ {v : PV} {x : V}, VR K H M v x → VR K H' M' v x
  | .non, _, h => h
  | .bl _, _, h => h
  | .int _, _, h => h
  | .str _, _, h => h
  | .tup vs, _, h => by
    simp only [VR] at h ⊢
    obtain ⟨a, xs, rfl, h1, h2, h3⟩ := h
    exact ⟨a, xs, rfl, SqT.ew e h1, h2, VRs.ew e h3⟩
  | .lst vs, _, h => by
    simp only [VR] at h ⊢
    obtain ⟨a, xs, rfl, h1, h2, h3⟩ := h
    exact ⟨a, xs, rfl, ⟨e.F _ h1.1, e.fz _ _ h1.1 h1.2⟩, h2, VRs.ew e h3⟩
  | .par vs, _, h => by
    simp only [VR] at h ⊢
    obtain ⟨a, xs, rfl, h1, h2, h3⟩ := h
    exact ⟨a, xs, rfl, FL.ew e h1, h2, VRs.ew e h3⟩
  | .dct0, _, h => by
    simp only [VR] at h ⊢
    obtain ⟨a, rfl, h1, h2⟩ := h
    exact ⟨a, rfl, e.F _ h1, e.fz _ _ h1 h2⟩
  | .ref n, _, h => by
    simp only [VR] at h ⊢
    obtain ⟨a, h1, rfl⟩ := h
    exact ⟨a, e.ρ _ _ h1, rfl⟩
theorem VRs.ew (e : Ew H M H' M') : ∀ {vs : List PV} {xs : List V}, VRs K H M vs xs → VRs K H' M' vs xs
  | [], _, h => h
  | v :: vs, _, h => by
    simp only [VRs] at h ⊢
    obtain ⟨x, r, rfl, h1, h2⟩ := h
    exact ⟨x, r, rfl, VR.ew e h1, VRs.ew e h2⟩
end
theorem VR.ex (e : Ex H M H' M') {v : PV} {x : V} (h : VR K H M v x) : VR K H' M' v x := VR.ew e.toEw h
theorem VRs.ex (e : Ex H M H' M') {vs : List PV} {xs : List V} (h : VRs K H M vs xs) : VRs K H' M' vs xs := VRs.ew e.toEw h
theorem SloR.ew (e : Ew H M H' M') (h : SloR K H M sl σ) : SloR K H' M' sl σ := ⟨h.len, fun i v q => let ⟨x, h1, h2⟩ := h.at' i v q; ⟨x, h1, h2.ew e⟩⟩
theorem SloR.ex (e : Ex H M H' M') (h : SloR K H M sl σ) : SloR K H' M' sl σ := ⟨h.len, fun i v q => let ⟨x, h1, h2⟩ := h.at' i v q; ⟨x, h1, h2.ex e⟩⟩

/-! ### lists of values -/
theorem VRs.length : ∀ {vs : List PV} {xs : List V}, VRs K H M vs xs → vs.length = xs.length
  | [], _, h => by simp only [VRs] at h; subst h; rfl
  | v :: vs, _, h => by
    simp only [VRs] at h
    obtain ⟨x, r, rfl, _, h2⟩ := h
    simp [VRs.length h2]
theorem VRs.get : ∀ {vs : List PV} {xs : List V} {i : Nat} {v : PV}, VRs K H M vs xs → vs[i]? = some v → ∃ x, xs[i]? = some x ∧ VR K H M v x
  | [], _, _, _, _, e => by simp at e
  | w :: vs, _, 0, v, h, e => by
    simp only [VRs] at h
    obtain ⟨x, r, rfl, h1, h2⟩ := h
    simp at e; subst e
    exact ⟨x, rfl, h1⟩
  | w :: vs, _, i + 1, v, h, e => by
    simp only [VRs] at h
    obtain ⟨x, r, rfl, h1, h2⟩ := h
    obtain ⟨y, q1, q2⟩ := VRs.get (i := i) h2 (by simpa using e)
    exact ⟨y, by simpa using q1, q2⟩
theorem VRs.get' : ∀ {vs : List PV} {xs : List V} {i : Nat} {x : V}, VRs K H M vs xs → xs[i]? = some x → ∃ v, vs[i]? = some v ∧ VR K H M v x := by
  intro vs xs i x h e
  have hi : i < vs.length := by rw [h.length]; exact (List.getElem?_eq_some_iff.mp e).1
  obtain ⟨y, q1, q2⟩ := h.get (List.getElem?_eq_getElem hi)
  rw [e] at q1; cases q1
  exact ⟨_, List.getElem?_eq_getElem hi, q2⟩
theorem VRs.of : ∀ {vs : List PV} {xs : List V}, vs.length = xs.length → (∀ (i : Nat) (v : PV) (x : V), vs[i]? = some v → xs[i]? = some x → VR K H M v x) → VRs K H M vs xs
  | [], [], _, _ => rfl
  | [], _ :: _, h, _ => by simp at h
  | _ :: _, [], h, _ => by simp at h
  | v :: vs, x :: xs, h, q => by
    simp only [VRs]
    exact ⟨x, xs, rfl, q 0 v x rfl rfl, VRs.of (by simpa using h) fun i v' x' e1 e2 => q (i + 1) v' x' (by simpa using e1) (by simpa using e2)⟩
theorem VRs.app : ∀ {vs ws : List PV} {xs ys : List V}, VRs K H M vs xs → VRs K H M ws ys → VRs K H M (vs ++ ws) (xs ++ ys)
  | [], _, _, _, h, q => by simp only [VRs] at h; subst h; exact q
  | v :: vs, _, _, _, h, q => by
    simp only [VRs] at h
    obtain ⟨x, r, rfl, h1, h2⟩ := h
    show VRs K H M (v :: (vs ++ _)) (x :: (r ++ _))
    simp only [VRs]
    exact ⟨x, _, rfl, h1, VRs.app h2 q⟩
theorem VRs.one {v : PV} {x : V} (h : VR K H M v x) : VRs K H M [v] [x] := by simp only [VRs]; exact ⟨x, [], rfl, h, rfl⟩
theorem VRs.drop : ∀ {vs : List PV} {xs : List V} (n : Nat), VRs K H M vs xs → VRs K H M (vs.drop n) (xs.drop n)
  | _, _, 0, h => h
  | [], _, n + 1, h => by simp only [VRs] at h; subst h; rfl
  | v :: vs, _, n + 1, h => by
    simp only [VRs] at h
    obtain ⟨x, r, rfl, h1, h2⟩ := h
    exact VRs.drop n h2
theorem VRs.take : ∀ {vs : List PV} {xs : List V} (n : Nat), VRs K H M vs xs → VRs K H M (vs.take n) (xs.take n)
  | _, _, 0, _ => rfl
  | [], _, n + 1, h => by simp only [VRs] at h; subst h; rfl
  | v :: vs, _, n + 1, h => by
    simp only [VRs] at h
    obtain ⟨x, r, rfl, h1, h2⟩ := h
    show VRs K H M (v :: vs.take n) (x :: r.take n)
    simp only [VRs]
    exact ⟨x, _, rfl, h1, VRs.take n h2⟩
theorem VRs.rev : ∀ {vs : List PV} {xs : List V}, VRs K H M vs xs → VRs K H M vs.reverse xs.reverse
  | [], _, h => by simp only [VRs] at h; subst h; rfl
  | v :: vs, _, h => by
    simp only [VRs] at h
    obtain ⟨x, r, rfl, h1, h2⟩ := h
    rw [List.reverse_cons, List.reverse_cons]
    exact VRs.app (VRs.rev h2) (VRs.one h1)
theorem VRs.set : ∀ {vs : List PV} {xs : List V} {v : PV} {x : V} (i : Nat), VRs K H M vs xs → VR K H M v x → VRs K H M (vs.set i v) (xs.set i x)
  | [], _, _, _, _, h, _ => by simp only [VRs] at h; subst h; rfl
  | v :: vs, _, w, y, 0, h, q => by
    simp only [VRs] at h
    obtain ⟨x, r, rfl, h1, h2⟩ := h
    show VRs K H M (w :: vs) (y :: r)
    simp only [VRs]
    exact ⟨y, r, rfl, q, h2⟩
  | v :: vs, _, w, y, i + 1, h, q => by
    simp only [VRs] at h
    obtain ⟨x, r, rfl, h1, h2⟩ := h
    show VRs K H M (v :: vs.set i w) (x :: r.set i y)
    simp only [VRs]
    exact ⟨x, _, rfl, h1, VRs.set i h2 q⟩
theorem VRs.rep {vs : List PV} {xs : List V} (h : VRs K H M vs xs) : ∀ n : Nat, VRs K H M (List.replicate n vs).flatten (List.replicate n xs).flatten
  | 0 => rfl
  | n + 1 => by
    rw [List.replicate_succ, List.replicate_succ, List.flatten_cons, List.flatten_cons]
    exact VRs.app h (VRs.rep h n)
theorem VRs.ints : ∀ {vs : List PV} {xs : List V} {ns : List Int}, VRs K H M vs xs → asInts vs = some ns → xs = ns.map V.int
  | [], _, ns, h, e => by simp only [VRs] at h; subst h; simp [asInts] at e; subst e; rfl
  | v :: vs, _, ns, h, e => by
    simp only [VRs] at h
    obtain ⟨x, r, rfl, h1, h2⟩ := h
    cases v with
    | int i =>
      simp only [asInts, Option.map_eq_some_iff] at e
      obtain ⟨ms, e1, rfl⟩ := e
      simp only [VR] at h1
      subst h1
      rw [VRs.ints h2 e1]
      rfl
    | _ => simp [asInts] at e
theorem VRs.of_ints : ∀ (ns : List Int), VRs K H M (ns.map .int) (ns.map V.int)
  | [] => rfl
  | n :: ns => by
    show VRs K H M (.int n :: ns.map .int) (V.int n :: ns.map V.int)
    simp only [VRs]
    exact ⟨_, _, rfl, rfl, VRs.of_ints ns⟩
theorem VRs.bls : ∀ {vs : List PV} {xs : List V} {bs : List Bool}, VRs K H M vs xs → asBls vs = some bs → xs = bs.map V.bl
  | [], _, ns, h, e => by simp only [VRs] at h; subst h; simp [asBls] at e; subst e; rfl
  | v :: vs, _, ns, h, e => by
    simp only [VRs] at h
    obtain ⟨x, r, rfl, h1, h2⟩ := h
    cases v with
    | bl i =>
      simp only [asBls, Option.map_eq_some_iff] at e
      obtain ⟨ms, e1, rfl⟩ := e
      simp only [VR] at h1
      subst h1
      rw [VRs.bls h2 e1]
      rfl
    | _ => simp [asBls] at e

/-! ### new things -/
theorem CelR.ne {n : Nat} {b : Addr} (c : CelR K H M cs) (hp : H p = none) (hb : M.ρ[n]? = some b) : b ≠ p := by
  have hn : n < cs.length := by rw [← c.len]; exact (List.getElem?_eq_some_iff.mp hb).1
  obtain ⟨a, xs, e1, e2, _⟩ := c.at' n _ (List.getElem?_eq_getElem hn)
  rw [hb] at e1; cases e1
  rintro rfl
  rw [hp] at e2; cases e2
theorem CelR.nmem (c : CelR K H M cs) (hp : H p = none) : p ∉ M.ρ := fun h => by
  obtain ⟨n, hn⟩ := List.mem_iff_getElem?.mp h
  exact c.ne hp hn rfl
theorem CelR.nF (c : CelR K H M cs) (hp : H p = none) : ¬ M.F p := fun h => by
  obtain ⟨o, e⟩ := c.fz p h
  rw [hp] at e; cases e
/-- a new object that is no cell -/
theorem Ex.new {o : HO} (c : CelR K H M cs) (hp : H p = none) (F' : Addr → Prop) (hF : ∀ a, M.F a → F' a) (hF2 : ∀ a, F' a → a ≠ p → M.F a) : Ex H M (upd H p o) ⟨M.ρ, F'⟩ := by
  have ne : ∀ a u, H a = some u → a ≠ p := fun a u e => by rintro rfl; rw [hp] at e; cases e
  refine ⟨⟨fun _ _ h => h, hF, fun a u _ e => ?_, fun a u e => ?_, fun a u v e => ?_⟩, fun _ h => .inl h, fun a u e _ => ?_, fun a h => ?_⟩
  · rw [upd_ne (ne _ _ e)]; exact e
  · rw [upd_ne (ne _ _ e)]; exact e
  · rw [upd_ne (ne _ _ e)]; exact e
  · rw [upd_ne (ne _ _ e)]; exact e
  · by_cases q : a = p
    · exact .inr (.inr (by rw [q]; exact hp))
    · exact .inl (hF2 a h q)
theorem CelR.new {o : HO} (c : CelR K H M cs) (hp : H p = none) (F' : Addr → Prop) (hF : ∀ a, M.F a → F' a) (hF2 : ∀ a, F' a → a ≠ p → M.F a) : CelR K (upd H p o) ⟨M.ρ, F'⟩ cs := by
  have e := Ex.new (o := o) c hp F' hF hF2
  refine ⟨c.len, c.nd, fun a h => ?_, fun n d h => ?_⟩
  · by_cases ha : a = p
    · subst ha; exact ⟨o, upd_same⟩
    · rw [upd_ne ha]; exact c.fz a (hF2 a h ha)
  · obtain ⟨a, xs, h1, h2, h3, h4, h5, h6⟩ := c.at' n d h
    have ha := c.ne hp h1
    exact ⟨a, xs, h1, by rw [upd_ne ha]; exact h2, h3, VRs.ex e h4, fun q f => h5 q (hF2 a f ha), fun q => hF a (h6 q)⟩
theorem new_tup {vs : List PV} (c : CelR K H M cs) (hp : H p = none) (h : VRs K H M vs xs) (hl : xs.length ≤ LIM) :
    Ex H M (upd H p (.tup xs)) M ∧ CelR K (upd H p (.tup xs)) M cs ∧ VR K (upd H p (.tup xs)) M (.tup vs) (.ref p) := by
  have e : Ex H M (upd H p (.tup xs)) M := Ex.new c hp M.F (fun _ h => h) fun _ h _ => h
  refine ⟨e, CelR.new c hp M.F (fun _ h => h) (fun _ h _ => h), ?_⟩
  simp only [VR]
  exact ⟨p, xs, rfl, SqT.of upd_same, hl, VRs.ex e h⟩
theorem new_lst {vs : List PV} (c : CelR K H M cs) (hp : H p = none) (h : VRs K H M vs xs) (hl : xs.length ≤ LIM) :
    Ex H M (upd H p (.lst xs)) ⟨M.ρ, fun a => M.F a ∨ a = p⟩ ∧ CelR K (upd H p (.lst xs)) ⟨M.ρ, fun a => M.F a ∨ a = p⟩ cs ∧ VR K (upd H p (.lst xs)) ⟨M.ρ, fun a => M.F a ∨ a = p⟩ (.lst vs) (.ref p) := by
  have e := Ex.new (o := .lst xs) c hp (fun a => M.F a ∨ a = p) (fun _ h => .inl h) fun a h n => h.resolve_right n
  refine ⟨e, CelR.new c hp _ (fun _ h => .inl h) (fun a h n => h.resolve_right n), ?_⟩
  simp only [VR]
  exact ⟨p, xs, rfl, ⟨.inr rfl, upd_same⟩, hl, VRs.ex e h⟩
theorem new_dct0 (c : CelR K H M cs) (hp : H p = none) :
    Ex H M (upd H p (.dK [])) ⟨M.ρ, fun a => M.F a ∨ a = p⟩ ∧ CelR K (upd H p (.dK [])) ⟨M.ρ, fun a => M.F a ∨ a = p⟩ cs ∧ VR K (upd H p (.dK [])) ⟨M.ρ, fun a => M.F a ∨ a = p⟩ .dct0 (.ref p) := by
  refine ⟨Ex.new c hp _ (fun _ h => .inl h) fun a h n => h.resolve_right n, CelR.new c hp _ (fun _ h => .inl h) (fun a h n => h.resolve_right n), ?_⟩
  simp only [VR]
  exact ⟨p, rfl, .inr rfl, upd_same⟩
theorem new_cell {vs : List PV} (c : CelR K H M cs) (hp : H p = none) (h : VRs K H M vs xs) (hl : xs.length ≤ LIM) :
    Ex H M (upd H p (.lst xs)) ⟨M.ρ ++ [p], M.F⟩ ∧ CelR K (upd H p (.lst xs)) ⟨M.ρ ++ [p], M.F⟩ (cs ++ [⟨true, vs⟩]) ∧ VR K (upd H p (.lst xs)) ⟨M.ρ ++ [p], M.F⟩ (.ref cs.length) (.ref p) := by
  have ne : ∀ a u, H a = some u → a ≠ p := fun a u e => by rintro rfl; rw [hp] at e; cases e
  have e : Ex H M (upd H p (.lst xs)) ⟨M.ρ ++ [p], M.F⟩ := by
    refine ⟨⟨fun n a h => ?_, fun _ h => h, fun a u _ e => ?_, fun a u e => ?_, fun a u v e => ?_⟩, fun a h => ?_, fun a u e _ => ?_, fun _ h => .inl h⟩
    · show (M.ρ ++ [p])[n]? = some a
      rw [List.getElem?_append_left (List.getElem?_eq_some_iff.mp h).1]; exact h
    rotate_left 3
    · rcases List.mem_append.mp h with h | h
      · exact .inl h
      · right
        have : a = p := by simpa using h
        subst this; exact hp
    all_goals (rw [upd_ne (ne _ _ e)]; exact e)
  refine ⟨e, ⟨?_, ?_, fun a h => ?_, fun n d h => ?_⟩, ?_⟩
  · simp [c.len]
  · show (M.ρ ++ [p]).Nodup
    rw [List.nodup_append]
    refine ⟨c.nd, by simp, fun a ha b hb => ?_⟩
    have : b = p := by simpa using hb
    subst this
    rintro rfl
    exact c.nmem hp ha
  · obtain ⟨o, q⟩ := c.fz a h
    exact ⟨o, by rw [upd_ne (ne _ _ q)]; exact q⟩
  · by_cases hn : n < cs.length
    · rw [List.getElem?_append_left hn] at h
      obtain ⟨a, ys, h1, h2, h3, h4, h5, h6⟩ := c.at' n d h
      exact ⟨a, ys, e.ρ _ _ h1, by rw [upd_ne (c.ne hp h1)]; exact h2, h3, VRs.ex e h4, h5, h6⟩
    · have : n = cs.length := by
        have := (List.getElem?_eq_some_iff.mp h).1
        simp at this; omega
      subst this
      simp at h
      subst h
      refine ⟨p, xs, ?_, upd_same, hl, VRs.ex e ‹_›, fun _ => c.nF hp, fun q => by simp at q⟩
      show (M.ρ ++ [p])[cs.length]? = some p
      rw [← c.len]; simp
  · simp only [VR]
    refine ⟨p, ?_, rfl⟩
    show (M.ρ ++ [p])[cs.length]? = some p
    rw [← c.len]; simp
/-- a new list, settled or not -/
theorem new_alc {vs : List PV} (b : Bool) (c : CelR K H M cs) (hp : H p = none) (h : VRs K H M vs xs) (hl : xs.length ≤ LIM) :
    ∃ M', Ex H M (upd H p (.lst xs)) M' ∧ CelR K (upd H p (.lst xs)) M' (alc b vs cs).2 ∧ VR K (upd H p (.lst xs)) M' (alc b vs cs).1 (.ref p) := by
  cases b with
  | true => exact ⟨_, new_cell c hp h hl⟩
  | false => exact ⟨_, new_lst c hp h hl⟩

/-! ### a cell written, settled -/
theorem cell_set {n : Nat} {d : Cell} {vs : List PV} (c : CelR K H M cs) (hn : cs[n]? = some d) (hl : d.live = true) {a : Addr} (ha : M.ρ[n]? = some a) (h : VRs K H M vs xs) (hz : xs.length ≤ LIM) :
    Ex H M (upd H a (.lst xs)) M ∧ CelR K (upd H a (.lst xs)) M (cs.set n { d with vs := vs }) := by
  obtain ⟨a', ys, h1, h2, h3, h4, h5, h6⟩ := c.at' n d hn
  rw [ha] at h1; cases h1
  have nF := h5 hl
  have e : Ex H M (upd H a (.lst xs)) M := by
    refine ⟨⟨fun _ _ h => h, fun _ h => h, fun b u f e => ?_, fun b u e => ?_, fun b u v e => ?_⟩, fun _ h => .inl h, fun b u e m => ?_, fun _ h => .inl h⟩
    · rw [upd_ne (show b ≠ a from fun q => nF (by rw [← q]; exact f))]; exact e
    · rw [upd_ne (fun q => by rw [q, h2] at e; cases e)]; exact e
    · rw [upd_ne (fun q => by rw [q, h2] at e; cases e)]; exact e
    · rw [upd_ne (show b ≠ a from fun q => m (by rw [q]; exact List.mem_of_getElem? ha))]; exact e
  refine ⟨e, ⟨by simp [c.len], c.nd, fun b f => ?_, fun m d' hm => ?_⟩⟩
  · obtain ⟨o, q⟩ := c.fz b f
    exact ⟨o, by rw [upd_ne (show b ≠ a from fun z => nF (by rw [← z]; exact f))]; exact q⟩
  · by_cases hmn : n = m
    · subst hmn
      rw [List.getElem?_set_self (List.getElem?_eq_some_iff.mp hn).1] at hm
      cases hm
      exact ⟨a, xs, ha, upd_same, hz, VRs.ex e h, fun _ => nF, fun q => by rw [hl] at q; cases q⟩
    · rw [List.getElem?_set_ne hmn] at hm
      obtain ⟨b, zs, q1, q2, q3, q4, q5, q6⟩ := c.at' m d' hm
      have hba : b ≠ a := fun z => by
        subst z
        have i1 := (List.getElem?_eq_some_iff.mp ha)
        have i2 := (List.getElem?_eq_some_iff.mp q1)
        obtain ⟨j1, e1⟩ := i1
        obtain ⟨j2, e2⟩ := i2
        exact hmn ((List.getElem_inj c.nd).mp (e1.trans e2.symm))
      exact ⟨b, zs, q1, by rw [upd_ne hba]; exact q2, q3, VRs.ex e q4, q5, q6⟩
theorem cell_frz {n : Nat} {d : Cell} (c : CelR K H M cs) (hn : cs[n]? = some d) {a : Addr} (ha : M.ρ[n]? = some a) :
    Ex H M H ⟨M.ρ, fun b => M.F b ∨ b = a⟩ ∧ CelR K H ⟨M.ρ, fun b => M.F b ∨ b = a⟩ (cs.set n { d with live := false }) ∧ VR K H ⟨M.ρ, fun b => M.F b ∨ b = a⟩ (.lst d.vs) (.ref a) := by
  obtain ⟨a', ys, h1, h2, h3, h4, h5, h6⟩ := c.at' n d hn
  rw [ha] at h1; cases h1
  have e : Ex H M H ⟨M.ρ, fun b => M.F b ∨ b = a⟩ := ⟨⟨fun _ _ h => h, fun _ h => .inl h, fun _ _ _ h => h, fun _ _ h => h, fun _ _ _ h => h⟩, fun _ h => .inl h, fun _ _ h _ => h, fun b h => h.elim .inl fun q => .inr (.inl (by rw [q]; exact List.mem_of_getElem? ha))⟩
  refine ⟨e, ⟨by simp [c.len], c.nd, fun b f => ?_, fun m d' hm => ?_⟩, ?_⟩
  · rcases f with f | rfl
    · exact c.fz b f
    · exact ⟨_, h2⟩
  · by_cases hmn : n = m
    · subst hmn
      rw [List.getElem?_set_self (List.getElem?_eq_some_iff.mp hn).1] at hm
      cases hm
      exact ⟨a, ys, ha, h2, h3, VRs.ex e h4, fun q => by simp at q, fun _ => .inr rfl⟩
    · rw [List.getElem?_set_ne hmn] at hm
      obtain ⟨b, zs, q1, q2, q3, q4, q5, q6⟩ := c.at' m d' hm
      have hba : b ≠ a := fun z => by
        subst z
        obtain ⟨j1, e1⟩ := (List.getElem?_eq_some_iff.mp ha)
        obtain ⟨j2, e2⟩ := (List.getElem?_eq_some_iff.mp q1)
        exact hmn ((List.getElem_inj c.nd).mp (e1.trans e2.symm))
      exact ⟨b, zs, q1, q2, q3, VRs.ex e q4, fun q f => f.elim (q5 q) hba, fun q => .inl (q6 q)⟩
  · simp only [VR]
    exact ⟨a, ys, rfl, ⟨.inr rfl, h2⟩, h3, VRs.ex e h4⟩
/-- a value settled -/
theorem frz_ok {v w : PV} {x : V} (c : CelR K H M cs) (h : VR K H M v x) (e : frz v cs = some (w, cs')) : ∃ M', Ex H M H M' ∧ CelR K H M' cs' ∧ VR K H M' w x := by
  cases v with
  | ref n =>
    simp only [frz] at e
    cases hn : cs[n]? with
    | none => rw [hn] at e; cases e
    | some d =>
      rw [hn] at e; cases e
      simp only [VR] at h
      obtain ⟨a, ha, rfl⟩ := h
      exact ⟨_, cell_frz c hn ha⟩
  | _ => simp only [frz] at e; cases e; exact ⟨M, Ex.refl, c, h⟩

/-! ### lists read -/
theorem asL_ok {v : PV} {x : V} {vs : List PV} (c : CelR K H M cs) (h : VR K H M v x) (e : asL cs v = some vs) : ∃ a xs, x = .ref a ∧ H a = some (.lst xs) ∧ xs.length ≤ LIM ∧ VRs K H M vs xs := by
  cases v with
  | lst ws =>
    simp only [asL] at e; cases e
    simp only [VR] at h
    obtain ⟨a, xs, rfl, h1, h2, h3⟩ := h
    exact ⟨a, xs, rfl, h1.2, h2, h3⟩
  | ref n =>
    simp only [asL, Option.map_eq_some_iff] at e
    obtain ⟨d, hd, rfl⟩ := e
    simp only [VR] at h
    obtain ⟨a, ha, rfl⟩ := h
    obtain ⟨a', xs, h1, h2, h3, h4, _⟩ := c.at' n d hd
    rw [ha] at h1; cases h1
    exact ⟨a, xs, rfl, h2, h3, h4⟩
  | _ => simp [asL] at e
theorem asR_ok {v : PV} {x : V} {vs : List PV} (c : CelR K H M cs) (h : VR K H M v x) (e : asR cs v = some vs) : ∃ a xs, x = .ref a ∧ SqL K H a xs ∧ xs.length ≤ LIM ∧ VRs K H M vs xs := by
  cases v with
  | par ws =>
    simp only [asR] at e; cases e
    simp only [VR] at h
    obtain ⟨a, xs, rfl, h1, h2, h3⟩ := h
    exact ⟨a, xs, rfl, h1.sq, h2, h3⟩
  | _ =>
    obtain ⟨a, xs, h1, h2, h3⟩ := asL_ok c h (by simpa only [asR] using e)
    exact ⟨a, xs, h1, SqL.of h2, h3⟩
theorem asQ_ok {v : PV} {x : V} {vs : List PV} (c : CelR K H M cs) (h : VR K H M v x) (e : asQ cs v = some vs) : ∃ a xs, x = .ref a ∧ (SqL K H a xs ∨ SqT K H a xs) ∧ xs.length ≤ LIM ∧ VRs K H M vs xs := by
  cases v with
  | tup ws =>
    simp only [asQ] at e; cases e
    simp only [VR] at h
    obtain ⟨a, xs, rfl, h1, h2, h3⟩ := h
    exact ⟨a, xs, rfl, .inr h1, h2, h3⟩
  | _ =>
    obtain ⟨a, xs, h1, h2, h3⟩ := asR_ok c h (by simpa only [asQ] using e)
    exact ⟨a, xs, h1, .inl h2, h3⟩
/-! ### a list on the side (a comprehension's, while it grows) -/
theorem Ex.updD {D : Addr} {o : HO} (e : Ex H M H1 M1) (hD : H D = none) : Ex H M (upd H1 D o) M1 := by
  have ne : ∀ a u, H a = some u → a ≠ D := fun a u q => by rintro rfl; rw [hD] at q; cases q
  refine ⟨⟨e.ρ, e.F, fun a u f q => ?_, fun a u q => ?_, fun a u v q => ?_⟩, e.nw, fun a u q m => ?_, e.nF⟩
  · rw [upd_ne (ne _ _ q)]; exact e.fz _ _ f q
  · rw [upd_ne (ne _ _ q)]; exact e.tup _ _ q
  · rw [upd_ne (ne _ _ q)]; exact e.frz _ _ _ q
  · rw [upd_ne (ne _ _ q)]; exact e.oth _ _ q m
theorem Ew.updD {D : Addr} {o : HO} {ys : List V} (hD : H D = some (.lst ys)) (hF : ¬ M.F D) : Ew H M (upd H D o) M := by
  refine ⟨fun _ _ h => h, fun _ h => h, fun a u f q => ?_, fun a u q => ?_, fun a u v q => ?_⟩
  · rw [upd_ne (show a ≠ D from fun z => hF (by rw [← z]; exact f))]; exact q
  · rw [upd_ne (fun z => by rw [z, hD] at q; cases q)]; exact q
  · rw [upd_ne (fun z => by rw [z, hD] at q; cases q)]; exact q
theorem CelR.updD {D : Addr} {o : HO} {ys : List V} (c : CelR K H M cs) (hD : H D = some (.lst ys)) (hF : ¬ M.F D) (hr : D ∉ M.ρ) : CelR K (upd H D o) M cs := by
  refine ⟨c.len, c.nd, fun a f => ?_, fun n d h => ?_⟩
  · obtain ⟨u, q⟩ := c.fz a f
    exact ⟨u, by rw [upd_ne (show a ≠ D from fun z => hF (by rw [← z]; exact f))]; exact q⟩
  · obtain ⟨a, xs, h1, h2, h3, h4, h5, h6⟩ := c.at' n d h
    exact ⟨a, xs, h1, by rw [upd_ne (show a ≠ D from fun z => hr (by rw [← z]; exact List.mem_of_getElem? h1))]; exact h2, h3, VRs.ew (Ew.updD hD hF) h4, h5, h6⟩
/-- at the end it is a new list as any other -/
theorem end_alc {D : Addr} {vs : List PV} {H0 : Hp} {M0 : Mp} (b : Bool) (e : Ex H0 M0 H M) (h0 : H0 D = none) (c : CelR K H M cs) (hD : H D = some (.lst xs)) (hF : ¬ M.F D) (hr : D ∉ M.ρ) (h : VRs K H M vs xs) (hl : xs.length ≤ LIM) :
    ∃ M', Ex H0 M0 H M' ∧ CelR K H M' (alc b vs cs).2 ∧ VR K H M' (alc b vs cs).1 (.ref D) := by
  have hr0 : D ∉ M0.ρ ∨ D ∈ M0.ρ := (Classical.em _).symm
  cases b with
  | false =>
    refine ⟨⟨M.ρ, fun a => M.F a ∨ a = D⟩, ⟨⟨e.ρ, fun a f => .inl (e.F a f), e.fz, e.tup, e.frz⟩, e.nw, e.oth, fun a f => f.elim (e.nF a) fun q => .inr (.inr (by rw [q]; exact h0))⟩, ?_, ?_⟩
    · have w : Ew H M H ⟨M.ρ, fun a => M.F a ∨ a = D⟩ := ⟨fun _ _ h => h, fun _ h => .inl h, fun _ _ _ h => h, fun _ _ h => h, fun _ _ _ h => h⟩
      refine ⟨c.len, c.nd, fun a f => f.elim (c.fz a) fun q => by subst q; exact ⟨_, hD⟩, fun n d hn => ?_⟩
      obtain ⟨a, ys, h1, h2, h3, h4, h5, h6⟩ := c.at' n d hn
      exact ⟨a, ys, h1, h2, h3, VRs.ew w h4, fun q f => f.elim (h5 q) fun z => hr (by rw [← z]; exact List.mem_of_getElem? h1), fun q => .inl (h6 q)⟩
    · have w : Ew H M H ⟨M.ρ, fun a => M.F a ∨ a = D⟩ := ⟨fun _ _ h => h, fun _ h => .inl h, fun _ _ _ h => h, fun _ _ h => h, fun _ _ _ h => h⟩
      simp only [alc, Bool.false_eq_true, if_false, VR]
      exact ⟨D, xs, rfl, ⟨.inr rfl, hD⟩, hl, VRs.ew w h⟩
  | true =>
    have w : Ew H M H ⟨M.ρ ++ [D], M.F⟩ := ⟨fun n a h => by
      show (M.ρ ++ [D])[n]? = some a
      rw [List.getElem?_append_left (List.getElem?_eq_some_iff.mp h).1]; exact h, fun _ h => h, fun _ _ _ h => h, fun _ _ h => h, fun _ _ _ h => h⟩
    refine ⟨⟨M.ρ ++ [D], M.F⟩, ⟨e.toEw.trans w, fun a h => ?_, e.oth, e.nF⟩, ⟨?_, ?_, c.fz, fun n d hn => ?_⟩, ?_⟩
    · rcases List.mem_append.mp h with h | h
      · exact e.nw a h
      · right
        have : a = D := by simpa using h
        rw [this]; exact h0
    · simp [c.len, alc]
    · show (M.ρ ++ [D]).Nodup
      rw [List.nodup_append]
      refine ⟨c.nd, by simp, fun a ha b hb => ?_⟩
      have : b = D := by simpa using hb
      subst this
      rintro rfl
      exact hr ha
    · simp only [alc, if_true] at hn
      by_cases hz : n < cs.length
      · rw [List.getElem?_append_left hz] at hn
        obtain ⟨a, ys, h1, h2, h3, h4, h5, h6⟩ := c.at' n d hn
        exact ⟨a, ys, w.ρ _ _ h1, h2, h3, VRs.ew w h4, h5, h6⟩
      · have : n = cs.length := by
          have := (List.getElem?_eq_some_iff.mp hn).1
          simp at this; omega
        subst this
        simp at hn
        subst hn
        refine ⟨D, xs, ?_, hD, hl, VRs.ew w h, fun _ => hF, fun q => by simp at q⟩
        show (M.ρ ++ [D])[cs.length]? = some D
        rw [← c.len]; simp
    · simp only [alc, if_true, VR]
      refine ⟨D, ?_, rfl⟩
      show (M.ρ ++ [D])[cs.length]? = some D
      rw [← c.len]; simp
end
end Ev
end

section
set_option maxHeartbeats 4000000
/-! operators and built-in functions keep the evaluator's word -/
namespace Ev
open PySem L2 PyProof.Rows
/-- what a binary operation over values is to reach -/
def rB (K : PySem.W.Frag) (g : Cs → PV → PV → Option (PV × Cs)) : R2 := fun x y H Q => ∃ M cs v w z cs', CelR K H M cs ∧ VR K H M v x ∧ VR K H M w y ∧ g cs v w = some (z, cs') ∧
  ∀ H' M' u, Ex H M H' M' → CelR K H' M' cs' → VR K H' M' z u → Q u H'
section
variable {X : Cx}
theorem pv_int {K : PySem.W.Frag} {H : Hp} {M : Mp} {i : Int} {x : V} (h : VR K H M (.int i) x) : x = .int i := by simpa only [VR] using h
theorem pv_str {K : PySem.W.Frag} {H : Hp} {M : Mp} {i : Str} {x : V} (h : VR K H M (.str i) x) : x = .str i := by simpa only [VR] using h
theorem pv_bl {K : PySem.W.Frag} {H : Hp} {M : Mp} {i : Bool} {x : V} (h : VR K H M (.bl i) x) : x = .bl i := by simpa only [VR] using h
theorem pv_non {K : PySem.W.Frag} {H : Hp} {M : Mp} {x : V} (h : VR K H M .non x) : x = .non := by simpa only [VR] using h
theorem vr_int {K : PySem.W.Frag} {H : Hp} {M : Mp} {i : Int} : VR K H M (.int i) (.int i) := by simp only [VR]
theorem vr_str {K : PySem.W.Frag} {H : Hp} {M : Mp} {i : Str} : VR K H M (.str i) (.str i) := by simp only [VR]
theorem vr_bl {K : PySem.W.Frag} {H : Hp} {M : Mp} {i : Bool} : VR K H M (.bl i) (.bl i) := by simp only [VR]
theorem vr_non {K : PySem.W.Frag} {H : Hp} {M : Mp} : VR K H M .non .non := by simp only [VR]

theorem len_flat {α : Type} (n : Nat) (xs : List α) : (List.replicate n xs).flatten.length = n * xs.length := by simp
/-- two lists -/
theorem cat_ok {c : Bool} {pins : List (Addr × Obj)} {s : Shared} {σ : L2.St} {H : Hp} {x y : V} {v u : Value} {Q : VK} {M : Mp} {cs : Cs} {a b : PV} {xs ys : List PV} (I : Inv X pins σ H s) (rx : RelV x v) (ry : RelV y u)
    (cr : CelR X.K H M cs) (ha : VR X.K H M a x) (hb : VR X.K H M b y) (ea : asL cs a = some xs) (eb : asL cs b = some ys) (hz : xs.length + ys.length ≤ LIM)
    (q : ∀ H' M' u, Ex H M H' M' → CelR X.K H' M' (alc c (xs ++ ys) cs).2 → VR X.K H' M' (alc c (xs ++ ys) cs).1 u → Q u H') : wpAny (model X.prog X.w) X.A (binaryOp .Add v u) (EP X pins σ Q) X.xe s := by
  obtain ⟨p, zs, rfl, h1, h2, h3⟩ := asL_ok cr ha ea
  obtain ⟨p', zs', rfl, h1', h2', h3'⟩ := asL_ok cr hb eb
  refine op_cat pins s σ H _ _ v u Q I rx ry ⟨p, p', zs, zs', rfl, rfl, h1, h1', by rw [← h3.length, ← h3'.length, ← LIM_eq]; exact hz, fun r hr => ?_⟩
  obtain ⟨M', e, c', w⟩ := new_alc c cr hr (VRs.app h3 h3') (by rw [List.length_append, ← h3.length, ← h3'.length]; exact hz)
  exact q _ M' _ e c' w
theorem op_addE {c : Bool} : OpR X (binaryOp .Add) (rB X.K (opB .Add c)) := by
  intro pins s σ H x y v u Q I rx ry h
  obtain ⟨M, cs, a, b, z, cs', cr, ha, hb, e, q⟩ := h
  have lists : (match asL cs a, asL cs b with
    | some x, some y => if x.length + y.length ≤ LIM then some (alc c (x ++ y) cs) else none
    | _, _ => none) = some (z, cs') → wpAny (model X.prog X.w) X.A (binaryOp .Add v u) (EP X pins σ Q) X.xe s := fun e => by
    cases ea : asL cs a with
    | none => rw [ea] at e; simp at e
    | some xs =>
      cases eb : asL cs b with
      | none => rw [ea, eb] at e; simp at e
      | some ys =>
        rw [ea, eb] at e
        simp only [Option.ite_none_right_eq_some, Option.some.injEq] at e
        obtain ⟨hz, e⟩ := e
        refine cat_ok (c := c) I rx ry cr ha hb ea eb hz ?_
        rw [e]
        exact q
  cases a with
  | int i =>
    cases b with
    | int j =>
      simp only [opB, Option.some.injEq, Prod.mk.injEq] at e
      obtain ⟨rfl, rfl⟩ := e
      exact op_add pins s σ H _ _ v u Q I rx ry ⟨i, j, pv_int ha, pv_int hb, q H M _ Ex.refl cr vr_int⟩
    | _ => simp only [opB] at e; exact lists e
  | str i =>
    cases b with
    | str j =>
      simp only [opB, Option.ite_none_right_eq_some, Option.some.injEq, Prod.mk.injEq] at e
      obtain ⟨hz, rfl, rfl⟩ := e
      exact op_add_str pins s σ H _ _ v u Q I rx ry ⟨i, j, pv_str ha, pv_str hb, by rw [← LIM_eq]; exact hz, q H M _ Ex.refl cr vr_str⟩
    | _ => simp only [opB] at e; exact lists e
  | tup xs =>
    cases b with
    | tup ys =>
      simp only [opB, Option.ite_none_right_eq_some, Option.some.injEq, Prod.mk.injEq] at e
      obtain ⟨hz, rfl, rfl⟩ := e
      have ha' := ha
      have hb' := hb
      simp only [VR] at ha hb
      obtain ⟨p, zs, rfl, h1, h2, h3⟩ := ha
      obtain ⟨p', zs', rfl, h1', h2', h3'⟩ := hb
      refine op_catA pins s σ H _ _ v u Q I rx ry ⟨p, p', zs, zs', rfl, rfl, h1, h1', by rw [← h3.length, ← h3'.length, ← LIM_eq]; exact hz, fun e => ?_, fun _ e => ?_, fun _ _ r hr => ?_⟩
      · subst e
        have : xs = [] := List.eq_nil_of_length_eq_zero h3.length
        subst this
        exact q H M _ Ex.refl cr hb'
      · subst e
        have : ys = [] := List.eq_nil_of_length_eq_zero h3'.length
        subst this
        refine q H M _ Ex.refl cr ?_
        rw [List.append_nil]; exact ha'
      · obtain ⟨e, c', w⟩ := new_tup cr hr (VRs.app h3 h3') (by rw [List.length_append, ← h3.length, ← h3'.length]; exact hz)
        exact q _ M _ e c' w
    | _ => simp only [opB] at e; exact lists e
  | _ => simp only [opB] at e; exact lists e
theorem op_subE {c : Bool} : OpR X (binaryOp .Sub) (rB X.K (opB .Sub c)) := by
  intro pins s σ H x y v u Q I rx ry h
  obtain ⟨M, cs, a, b, z, cs', cr, ha, hb, e, q⟩ := h
  cases a <;> cases b <;> simp only [opB, reduceCtorEq, Option.some.injEq, Prod.mk.injEq] at e
  obtain ⟨rfl, rfl⟩ := e
  exact op_sub pins s σ H _ _ v u Q I rx ry ⟨_, _, pv_int ha, pv_int hb, q H M _ Ex.refl cr vr_int⟩
theorem small_iff {i : Int} (h : small i = true) : -(2 ^ 64) < i ∧ i < 2 ^ 64 := by simpa [small] using h

theorem tuple_mulSelf (l : Addr) (items : Array Value) (n : Nat) (dd : Option Addr) (sl : Array (Option Value)) (u : Tok) :
    Meets (Builtin.«tuple.__mul__» ⟨[.ref l, .int 1 u], []⟩) (fun _ R s => s.heap.get? l = some { cls := .type "tuple", dict := dd, data := .seq items n, slots := sl } ∧ R (.ok (.ret (Value.ref l))) s) :=
  .of_wp fun prog w A R s h => by
    obtain ⟨hp, g, d, tk, os⟩ := s
    obtain ⟨hl, h⟩ := h
    have f1 := AutoSeq1.idx_int
    wp_walk using wpAny_loadPart' hl
    exact ⟨_, rfl, h⟩
theorem op_repT1 {pins : List (Addr × Obj)} {s : Shared} {σ : L2.St} {H : Hp} {l : Addr} {xs : List V} {v u : Value} {Q : VK} (I : Inv X pins σ H s) (rx : RelV (.ref l) v) (ry : RelV (.int 1) u) (hT : SqT X.K H l xs) (q : Q (.ref l) H) :
    wpAny (model X.prog X.w) X.A (binaryOp .Mult v u) (EP X pins σ Q) X.xe s := by
  cases rx
  obtain ⟨t, rfl⟩ := ry
  obtain ⟨its, r, ⟨⟨cls, dd, data, sl⟩, ho, hc, n, hd⟩, hs⟩ := I.tuple hT
  simp only at hc hd
  subst hc hd
  exact wpAny_binaryOp_repeat_ref (T := "tuple") (U := "int") (by decide) ⟨_, ho, rfl⟩ (fun s' => typeIs_int s' 1 t) noFill_tuple_mul F.fills_int_mul F.slot_int_rmul repeat_tuple F.slot_int_index.lookup
    (call_meets F.slot_int_rmul (typeIs_int s 1 t) F.entry_int_rmul (F.args_int_rmul_2 _ _) (int_rmul_tuple 1 t l its.toArray n dd sl)
      ⟨ho, rfl, ⟨_, ho, rfl⟩, call_meets F.slot_tuple_mul ⟨_, ho, rfl⟩ F.entry_tuple_mul (F.args_tuple_mul_2 _ _) (tuple_mulSelf l its.toArray n dd sl t) ⟨ho, .ref l, H, I, rfl, q⟩⟩)
theorem op_mulE {c : Bool} : OpR X (binaryOp .Mult) (rB X.K (opB .Mult c)) := by
  intro pins s σ H x y v u Q I rx ry h
  obtain ⟨M, cs, a, b, z, cs', cr, ha, hb, e, q⟩ := h
  have lists : ∀ k, b = .int k → (match asL cs a with
    | some x => if -(2 ^ 63) ≤ k ∧ k < 2 ^ 63 ∧ x.length * k.toNat ≤ LIM then some (alc c (List.replicate k.toNat x).flatten cs) else none
    | none => none) = some (z, cs') → wpAny (model X.prog X.w) X.A (binaryOp .Mult v u) (EP X pins σ Q) X.xe s := fun k eb e0 => by
    subst eb
    cases ea : asL cs a with
    | none => rw [ea] at e0; simp at e0
    | some xs =>
      rw [ea] at e0
      simp only [Option.ite_none_right_eq_some, Option.some.injEq] at e0
      obtain ⟨⟨k1, k2, hz⟩, e0⟩ := e0
      obtain ⟨p, zs, rfl, h1, h2, h3⟩ := asL_ok cr ha ea
      have hb' := pv_int hb
      subst hb'
      refine op_rep pins s σ H _ _ v u Q I rx ry ⟨p, k, zs, rfl, rfl, h1, k1, k2, by rw [← h3.length, ← LIM_eq]; exact hz, fun r hr => ?_⟩
      obtain ⟨M', e1, c', w⟩ := new_alc c cr hr (VRs.rep h3 k.toNat) (by rw [len_flat, ← h3.length, Nat.mul_comm]; exact hz)
      rw [e0] at c' w
      exact q _ M' _ e1 c' w
  cases b with
  | int k =>
    cases a with
    | int i =>
      simp only [opB, Option.ite_none_right_eq_some, Option.some.injEq, Prod.mk.injEq, Bool.or_eq_true] at e
      obtain ⟨hs, rfl, rfl⟩ := e
      exact op_mul pins s σ H _ _ v u Q I rx ry ⟨i, k, pv_int ha, pv_int hb, hs.imp small_iff small_iff, q H M _ Ex.refl cr vr_int⟩
    | tup xs =>
      simp only [opB, Option.ite_none_right_eq_some, Option.some.injEq, Prod.mk.injEq] at e
      obtain ⟨⟨hx, k1, k2, k3⟩, rfl, rfl⟩ := e
      have ha0 := ha
      simp only [VR] at ha
      obtain ⟨p, zs, rfl, h1, h2, h3⟩ := ha
      have hb' := pv_int hb
      subst hb'
      by_cases hk : k = 1
      · subst hk
        refine op_repT1 I rx ry h1 (q H M _ Ex.refl cr ?_)
        simpa using ha0
      · refine op_repT pins s σ H _ _ v u Q I rx ry ⟨p, k, zs, rfl, rfl, h1, fun e => ?_, by omega, k2, by rw [← h3.length]; exact k3, fun r hr => ?_⟩
        · subst e
          exact hx (List.eq_nil_of_length_eq_zero h3.length)
        · obtain ⟨e, c', w⟩ := new_tup cr hr (VRs.rep h3 k.toNat) (by
            rw [len_flat, ← h3.length]
            have a1 : k.toNat * xs.length ≤ 1000 * 1000 := Nat.mul_le_mul (by omega) k3
            unfold LIM; omega)
          exact q _ M _ e c' w
    | _ => simp only [opB] at e; exact lists k rfl e
  | _ => cases a <;> simp [opB] at e
theorem op_fdivE {c : Bool} : OpR X (binaryOp .FloorDiv) (rB X.K (opB .FloorDiv c)) := by
  intro pins s σ H x y v u Q I rx ry h
  obtain ⟨M, cs, a, b, z, cs', cr, ha, hb, e, q⟩ := h
  cases a <;> cases b <;> simp only [opB, reduceCtorEq, Option.ite_none_right_eq_some, Option.some.injEq, Prod.mk.injEq] at e
  obtain ⟨h1, rfl, rfl⟩ := e
  exact op_fdiv pins s σ H _ _ v u Q I rx ry ⟨_, _, pv_int ha, pv_int hb, h1, q H M _ Ex.refl cr vr_int⟩
theorem op_modE {c : Bool} : OpR X (binaryOp .Mod) (rB X.K (opB .Mod c)) := by
  intro pins s σ H x y v u Q I rx ry h
  obtain ⟨M, cs, a, b, z, cs', cr, ha, hb, e, q⟩ := h
  cases a <;> cases b <;> simp only [opB, reduceCtorEq, Option.ite_none_right_eq_some, Option.some.injEq, Prod.mk.injEq] at e
  obtain ⟨h1, rfl, rfl⟩ := e
  exact op_mod pins s σ H _ _ v u Q I rx ry ⟨_, _, pv_int ha, pv_int hb, h1, q H M _ Ex.refl cr vr_int⟩
theorem op_powE {c : Bool} : OpR X (binaryOp .Pow) (rB X.K (opB .Pow c)) := by
  intro pins s σ H x y v u Q I rx ry h
  obtain ⟨M, cs, a, b, z, cs', cr, ha, hb, e, q⟩ := h
  cases a <;> cases b <;> simp only [opB, reduceCtorEq, Option.ite_none_right_eq_some, Option.some.injEq, Prod.mk.injEq] at e
  obtain ⟨h1, rfl, rfl⟩ := e
  exact op_pow pins s σ H _ _ v u Q I rx ry ⟨_, _, pv_int ha, pv_int hb, h1, q H M _ Ex.refl cr vr_int⟩
end
end Ev
end

section
set_option maxHeartbeats 4000000
/-! values as data; comparisons -/
namespace Ev
open PySem L2 PyProof.Rows
section
variable {X : Cx} {pins : List (Addr × Obj)} {σ : L2.St} {H : Hp} {s : Shared} {M : Mp} {cs : Cs}
theorem not_sys {mm : Str → Option Value} (I : Inv X pins σ H s) (sm : X.base.Ns sysModules mm) {a : Addr} {o : HO} (h : H a = some o) : a ≠ sysModules := by
  obtain ⟨ob, es, ep, e, _⟩ := sm
  rintro rfl
  rw [(I.bs _ _ e).2] at h; cases h
mutual
theorem reads_of {mm : Str → Option Value} (I : Inv X pins σ H s) (sm : X.base.Ns sysModules mm) : ∀ (v : PV) (x : V) (u : Value) (d : PyData), VR X.K H M v x → RelV x u → dat v = some d → ∃ as, Reads s.heap u d as ∧ sysModules ∉ as
  | .non, x, u, d, h, r, e => by
    simp only [VR] at h; subst h; cases r
    simp only [dat, Option.some.injEq] at e; subst e
    exact ⟨_, Reads.none, by simp⟩
  | .bl b, x, u, d, h, r, e => by
    simp only [VR] at h; subst h; cases r
    simp only [dat, Option.some.injEq] at e; subst e
    exact ⟨_, Reads.bool b, by simp⟩
  | .int i, x, u, d, h, r, e => by
    simp only [VR] at h; subst h; obtain ⟨t, rfl⟩ := r
    simp only [dat, Option.some.injEq] at e; subst e
    exact ⟨_, Reads.int i t, by simp⟩
  | .str i, x, u, d, h, r, e => by
    simp only [VR] at h; subst h; obtain ⟨t, rfl⟩ := r
    simp only [dat, Option.some.injEq] at e; subst e
    exact ⟨_, Reads.str i t, by simp⟩
  | .tup vs, x, u, d, h, r, e => by
    simp only [VR] at h
    obtain ⟨a, xs, rfl, h1, h2, h3⟩ := h
    cases r
    simp only [dat, Option.map_eq_some_iff] at e
    obtain ⟨ds, e1, rfl⟩ := e
    obtain ⟨its, rv, ⟨o, q1, q2, n, q3⟩, _⟩ := I.tuple h1
    obtain ⟨as, r1, r2⟩ := readsA_of I sm vs xs its ds h3 rv e1
    exact ⟨as, Reads.tuple q1 q2 q3 (by simpa using r1), r2⟩
  | .lst vs, x, u, d, h, r, e => by
    simp only [VR] at h
    obtain ⟨a, xs, rfl, h1, h2, h3⟩ := h
    cases r
    simp only [dat, Option.map_eq_some_iff] at e
    obtain ⟨ds, e1, rfl⟩ := e
    obtain ⟨its, rv, ⟨o, n, q1, q2, _, q3⟩, _⟩ := I.list (SqL.of h1.2)
    obtain ⟨as, r1, r2⟩ := readsA_of I sm vs xs its ds h3 rv e1
    refine ⟨a :: as, Reads.list q1 q2 q3 (by simpa using r1), fun q => ?_⟩
    rcases List.mem_cons.mp q with q | q
    · exact not_sys I sm h1.2 q.symm
    · exact r2 q
  | .par vs, x, u, d, h, r, e => by simp [dat] at e
  | .dct0, x, u, d, h, r, e => by
    simp only [VR] at h
    obtain ⟨a, rfl, _, h2⟩ := h
    cases r
    simp only [dat, Option.some.injEq] at e; subst e
    obtain ⟨_, _, vs, kv, o, es, ep, q1, q2, q3, _, q4, _⟩ := I.hok a _ h2
    cases kv
    have q5 : es.toList = [] := by
      revert q4
      generalize es.toList = l
      intro q4
      cases q4
      rfl
    refine ⟨a :: [] ++ [], Reads.dict q1 q2.1 q3 (by rw [q5]; exact .nil) (by rw [q5]; exact .nil), fun q => ?_⟩
    have : sysModules = a := by simpa using q
    exact not_sys I sm h2 this.symm
  | .ref n, x, u, d, h, r, e => by simp [dat] at e
theorem readsA_of {mm : Str → Option Value} (I : Inv X pins σ H s) (sm : X.base.Ns sysModules mm) : ∀ (vs : List PV) (xs : List V) (us : List Value) (ds : List PyData), VRs X.K H M vs xs → Vals xs us → datA vs = some ds → ∃ as, ReadsAll s.heap us ds as ∧ sysModules ∉ as
  | [], xs, us, ds, h, r, e => by
    simp only [VRs] at h; subst h; cases r
    simp only [datA, Option.some.injEq] at e; subst e
    exact ⟨_, .nil, by simp⟩
  | v :: vs, xs, us, ds, h, r, e => by
    simp only [VRs] at h
    obtain ⟨x, xr, rfl, h1, h2⟩ := h
    simp only [datA, Option.bind_eq_some_iff, Option.map_eq_some_iff] at e
    obtain ⟨d, e1, dr, e2, rfl⟩ := e
    cases r with
    | cons r1 r2 =>
      obtain ⟨as, q1, q2⟩ := reads_of I sm v _ _ d h1 r1 e1
      obtain ⟨bs, q3, q4⟩ := readsA_of I sm vs _ _ dr h2 r2 e2
      exact ⟨as ++ bs, .cons q1 q3, fun q => (List.mem_append.mp q).elim q2 q4⟩
end
mutual
theorem reads_asD {mm : Str → Option Value} (I : Inv X pins σ H s) (sm : X.base.Ns sysModules mm) (cr : CelR X.K H M cs) : ∀ {v : PV} {x : V} {u : Value} {d : PyData}, VR X.K H M v x → RelV x u → asD cs v = some d → ∃ as, Reads s.heap u d as ∧ sysModules ∉ as
  | .ref n, x, u, d, h, r, e => by
    simp only [asD, Option.bind_eq_some_iff, Option.map_eq_some_iff] at e
    obtain ⟨c, hc, ds, e1, rfl⟩ := e
    simp only [VR] at h
    obtain ⟨a, ha, rfl⟩ := h
    obtain ⟨a', xs, h1, h2, h3, h4, _⟩ := cr.at' n c hc
    rw [ha] at h1; cases h1
    cases r
    obtain ⟨its, rv, ⟨o, n, q1, q2, _, q3⟩, _⟩ := I.list (SqL.of h2)
    obtain ⟨as, r1, r2⟩ := readsA_of I sm c.vs xs its ds h4 rv e1
    refine ⟨a :: as, Reads.list q1 q2 q3 (by simpa using r1), fun q => ?_⟩
    rcases List.mem_cons.mp q with q | q
    · exact not_sys I sm h2 q.symm
    · exact r2 q
  | .non, x, u, d, h, r, e => reads_of I sm _ x u d h r (by simpa only [asD, dat] using e)
  | .bl _, x, u, d, h, r, e => reads_of I sm _ x u d h r (by simpa only [asD, dat] using e)
  | .int _, x, u, d, h, r, e => reads_of I sm _ x u d h r (by simpa only [asD, dat] using e)
  | .str _, x, u, d, h, r, e => reads_of I sm _ x u d h r (by simpa only [asD, dat] using e)
  | .dct0, x, u, d, h, r, e => reads_of I sm _ x u d h r (by simpa only [asD, dat] using e)
  | .par _, x, u, d, h, r, e => by simp [asD] at e
  | .tup vs, x, u, d, h, r, e => by
    simp only [VR] at h
    obtain ⟨a, xs, rfl, h1, h2, h3⟩ := h
    cases r
    simp only [asD, Option.map_eq_some_iff] at e
    obtain ⟨ds, e1, rfl⟩ := e
    obtain ⟨its, rv, ⟨o, q1, q2, n, q3⟩, _⟩ := I.tuple h1
    obtain ⟨as, r1, r2⟩ := readsA_asD I sm cr h3 rv e1
    exact ⟨as, Reads.tuple q1 q2 q3 (by simpa using r1), r2⟩
  | .lst vs, x, u, d, h, r, e => by
    simp only [VR] at h
    obtain ⟨a, xs, rfl, h1, h2, h3⟩ := h
    cases r
    simp only [asD, Option.map_eq_some_iff] at e
    obtain ⟨ds, e1, rfl⟩ := e
    obtain ⟨its, rv, ⟨o, n, q1, q2, _, q3⟩, _⟩ := I.list (SqL.of h1.2)
    obtain ⟨as, r1, r2⟩ := readsA_asD I sm cr h3 rv e1
    refine ⟨a :: as, Reads.list q1 q2 q3 (by simpa using r1), fun q => ?_⟩
    rcases List.mem_cons.mp q with q | q
    · exact not_sys I sm h1.2 q.symm
    · exact r2 q
theorem readsA_asD {mm : Str → Option Value} (I : Inv X pins σ H s) (sm : X.base.Ns sysModules mm) (cr : CelR X.K H M cs) : ∀ {vs : List PV} {xs : List V} {us : List Value} {ds : List PyData}, VRs X.K H M vs xs → Vals xs us → asDA cs vs = some ds → ∃ as, ReadsAll s.heap us ds as ∧ sysModules ∉ as
  | [], xs, us, ds, h, r, e => by
    simp only [VRs] at h; subst h; cases r
    simp only [asDA, Option.some.injEq] at e; subst e
    exact ⟨_, .nil, by simp⟩
  | v :: vs, xs, us, ds, h, r, e => by
    simp only [VRs] at h
    obtain ⟨x, xr, rfl, h1, h2⟩ := h
    simp only [asDA, Option.bind_eq_some_iff, Option.map_eq_some_iff] at e
    obtain ⟨d, e1, dr, e2, rfl⟩ := e
    cases r with
    | cons r1 r2 =>
      obtain ⟨as, q1, q2⟩ := reads_asD I sm cr h1 r1 e1
      obtain ⟨bs, q3, q4⟩ := readsA_asD I sm cr h2 r2 e2
      exact ⟨as ++ bs, .cons q1 q3, fun q => (List.mem_append.mp q).elim q2 q4⟩
end
end
/-- what a comparison of values is to reach -/
def rC (K : PySem.W.Frag) (g : Cs → PV → PV → Option Bool) : R2 := fun x y H Q => ∃ M cs v w k, CelR K H M cs ∧ VR K H M v x ∧ VR K H M w y ∧ g cs v w = some k ∧ Q (.bl k) H
section
variable {X : Cx} {mm : Str → Option Value}
theorem eqO_cases {cs : Cs} {a b : PV} {k : Bool} (e : eqO cs a b = some k) : (∃ s t, a = .str s ∧ b = .str t ∧ k = (s == t)) ∨ eqD cs a b = some k := by
  cases a with
  | str s =>
    cases b with
    | str t => exact .inl ⟨s, t, rfl, rfl, (Option.some.inj e).symm⟩
    | _ => exact .inr e
  | _ => exact .inr e
theorem eqO_ok (sm : X.base.Ns sysModules mm) (hu : X.A.units + 64 < cLine) : OpR X (compareOp .Eq) (rC X.K eqO) := by
  rintro pins s σ H x y v u Q I rx ry ⟨M, cs, a, b, k, cr, ha, hb, e, q⟩
  rcases eqO_cases e with ⟨z, t, rfl, rfl, rfl⟩ | e
  · have hx := pv_str ha
    have hy := pv_str hb
    subst hx hy
    exact op_eq pins s σ H _ _ v u Q I rx ry ⟨rfl, by rw [dec_str]; exact q⟩
  · simp only [eqD, Option.bind_eq_some_iff, Option.ite_none_right_eq_some, Option.some.injEq, Bool.and_eq_true] at e
    obtain ⟨d, e1, d', e2, ⟨s1, s2⟩, rfl⟩ := e
    obtain ⟨as, r1, _⟩ := reads_asD I sm cr ha rx e1
    obtain ⟨bs, r2, _⟩ := reads_asD I sm cr hb ry e2
    exact SeqAt.compareEq_shaped r1 r2 s1 s2 hu ⟨.bl _, H, I, rfl, q⟩
theorem neO_ok (sm : X.base.Ns sysModules mm) (hu : X.A.units + 64 < cLine) : OpR X (compareOp .NotEq) (rC X.K fun cs a b => (eqO cs a b).map (!·)) := by
  rintro pins s σ H x y v u Q I rx ry ⟨M, cs, a, b, k, cr, ha, hb, e, q⟩
  rw [Option.map_eq_some_iff] at e
  obtain ⟨k', e, rfl⟩ := e
  rcases eqO_cases e with ⟨z, t, rfl, rfl, rfl⟩ | e
  · have hx := pv_str ha
    have hy := pv_str hb
    subst hx hy
    exact op_ne pins s σ H _ _ v u Q I rx ry ⟨rfl, by rw [dec_str]; exact q⟩
  · simp only [eqD, Option.bind_eq_some_iff, Option.ite_none_right_eq_some, Option.some.injEq, Bool.and_eq_true] at e
    obtain ⟨d, e1, d', e2, ⟨s1, s2⟩, rfl⟩ := e
    obtain ⟨as, r1, _⟩ := reads_asD I sm cr ha rx e1
    obtain ⟨bs, r2, _⟩ := reads_asD I sm cr hb ry e2
    exact SeqAt.compareNe_shaped r1 r2 s1 s2 hu ⟨.bl _, H, I, rfl, q⟩
theorem inO_ok (sm : X.base.Ns sysModules mm) (hu : X.A.units + 65 < cLine) : OpR X (compareOp .In) (rC X.K inO) := by
  intro pins s σ H x y v u Q I rx ry h
  obtain ⟨M, cs, a, b, k, cr, ha, hb, e, q⟩ := h
  simp only [inO, Option.bind_eq_some_iff] at e
  obtain ⟨d, e1, d', e2, e⟩ := e
  obtain ⟨as, r1, _⟩ := reads_asD I sm cr ha rx e1
  obtain ⟨bs, r2, _⟩ := reads_asD I sm cr hb ry e2
  cases d' with
  | list ds =>
    simp only [Option.ite_none_right_eq_some, Option.some.injEq, Bool.and_eq_true] at e
    obtain ⟨⟨s1, s2⟩, rfl⟩ := e
    exact SeqAt.in_list_reads r2 r1 (SeqAt.canLay_of_shaped s2) (SeqAt.canLay_of_shaped s1) (PyProof.Rows.room_in_shaped s1 hu) ⟨.bl _, H, I, rfl, q⟩
  | tuple ds =>
    simp only [Option.ite_none_right_eq_some, Option.some.injEq, Bool.and_eq_true] at e
    obtain ⟨⟨s1, s2⟩, rfl⟩ := e
    exact SeqAt.in_tuple_reads r2 r1 (SeqAt.canLay_of_shaped s2) (SeqAt.canLay_of_shaped s1) (PyProof.Rows.room_in_shaped s1 hu) ⟨.bl _, H, I, rfl, q⟩
  | _ => simp at e
theorem notInO_ok (sm : X.base.Ns sysModules mm) (hu : X.A.units + 65 < cLine) : OpR X (compareOp .NotIn) (rC X.K fun cs a b => (inO cs a b).map (!·)) := by
  intro pins s σ H x y v u Q I rx ry h
  obtain ⟨M, cs, a, b, k, cr, ha, hb, e, q⟩ := h
  simp only [inO, Option.map_eq_some_iff, Option.bind_eq_some_iff] at e
  obtain ⟨_, ⟨d, e1, d', e2, e⟩, rfl⟩ := e
  obtain ⟨as, r1, _⟩ := reads_asD I sm cr ha rx e1
  obtain ⟨bs, r2, _⟩ := reads_asD I sm cr hb ry e2
  cases d' with
  | list ds =>
    simp only [Option.ite_none_right_eq_some, Option.some.injEq, Bool.and_eq_true] at e
    obtain ⟨⟨s1, s2⟩, rfl⟩ := e
    exact SeqAt.notIn_list_reads r2 r1 (SeqAt.canLay_of_shaped s2) (SeqAt.canLay_of_shaped s1) (PyProof.Rows.room_in_shaped s1 hu) ⟨.bl _, H, I, rfl, q⟩
  | tuple ds =>
    simp only [Option.ite_none_right_eq_some, Option.some.injEq, Bool.and_eq_true] at e
    obtain ⟨⟨s1, s2⟩, rfl⟩ := e
    exact SeqAt.notIn_tuple_reads r2 r1 (SeqAt.canLay_of_shaped s2) (SeqAt.canLay_of_shaped s1) (PyProof.Rows.room_in_shaped s1 hu) ⟨.bl _, H, I, rfl, q⟩
  | _ => simp at e
theorem ltO_ok (hu : X.A.units + 64 < cLine) : OpR X (compareOp .Lt) (rC X.K (cmpO .Lt)) := by
  intro pins s σ H x y v u Q I rx ry h
  obtain ⟨M, cs, a, b, k, cr, ha, hb, e, q⟩ := h
  cases a <;> cases b <;> simp only [cmpO, reduceCtorEq, Option.some.injEq] at e
  · subst e
    exact op_lt pins s σ H _ _ v u Q I rx ry ⟨_, _, pv_int ha, pv_int hb, q⟩
  · simp only [Option.bind_eq_some_iff, Option.map_eq_some_iff] at e
    obtain ⟨ns, e1, ms, e2, rfl⟩ := e
    simp only [VR] at ha hb
    obtain ⟨p, zs, rfl, h1, h2, h3⟩ := ha
    obtain ⟨p', zs', rfl, h1', h2', h3'⟩ := hb
    have z1 := h3.ints e1
    have z2 := h3'.ints e2
    subst z1 z2
    exact op_ltT (by omega) pins s σ H _ _ v u Q I rx ry ⟨p, p', ns, ms, rfl, rfl, h1, h1', q⟩
theorem leO_ok : OpR X (compareOp .LtE) (rC X.K (cmpO .LtE)) := by
  intro pins s σ H x y v u Q I rx ry h
  obtain ⟨M, cs, a, b, k, cr, ha, hb, e, q⟩ := h
  cases a <;> cases b <;> simp only [cmpO, reduceCtorEq, Option.some.injEq] at e
  subst e
  exact op_le pins s σ H _ _ v u Q I rx ry ⟨_, _, pv_int ha, pv_int hb, q⟩
theorem gtO_ok : OpR X (compareOp .Gt) (rC X.K (cmpO .Gt)) := by
  intro pins s σ H x y v u Q I rx ry h
  obtain ⟨M, cs, a, b, k, cr, ha, hb, e, q⟩ := h
  cases a <;> cases b <;> simp only [cmpO, reduceCtorEq, Option.some.injEq] at e
  subst e
  exact op_gt pins s σ H _ _ v u Q I rx ry ⟨_, _, pv_int ha, pv_int hb, q⟩
theorem geO_ok : OpR X (compareOp .GtE) (rC X.K (cmpO .GtE)) := by
  intro pins s σ H x y v u Q I rx ry h
  obtain ⟨M, cs, a, b, k, cr, ha, hb, e, q⟩ := h
  cases a <;> cases b <;> simp only [cmpO, reduceCtorEq, Option.some.injEq] at e
  subst e
  exact op_ge pins s σ H _ _ v u Q I rx ry ⟨_, _, pv_int ha, pv_int hb, q⟩
def isNon : PV → Bool
  | .non => true
  | _ => false
theorem non_iff {K : PySem.W.Frag} {H : Hp} {M : Mp} {v : PV} {x : V} (h : VR K H M v x) : decide (x = .non) = isNon v := by
  cases v <;> simp only [VR] at h
  case non => subst h; rfl
  case bl => subst h; rfl
  case int => subst h; rfl
  case str => subst h; rfl
  case tup => obtain ⟨a, xs, rfl, _⟩ := h; rfl
  case lst => obtain ⟨a, xs, rfl, _⟩ := h; rfl
  case par => obtain ⟨a, xs, rfl, _⟩ := h; rfl
  case dct0 => obtain ⟨a, rfl, _⟩ := h; rfl
  case ref => obtain ⟨a, _, rfl⟩ := h; rfl
theorem isO_ok : OpR X (compareOp .Is) (rC X.K (cmpO .Is)) := by
  intro pins s σ H x y v u Q I rx ry h
  obtain ⟨M, cs, a, b, k, cr, ha, hb, e, q⟩ := h
  cases b with
  | non =>
    refine op_isN pins s σ H _ _ v u Q I rx ry ⟨pv_non hb, ?_⟩
    rw [non_iff ha]
    have : k = isNon a := by
      cases a <;> simp only [cmpO, Option.some.injEq] at e <;> exact e.symm
    rw [← this]; exact q
  | _ => simp only [cmpO, reduceCtorEq] at e
theorem isNotO_ok : OpR X (compareOp .IsNot) (rC X.K (cmpO .IsNot)) := by
  intro pins s σ H x y v u Q I rx ry h
  obtain ⟨M, cs, a, b, k, cr, ha, hb, e, q⟩ := h
  cases b with
  | non =>
    refine op_notN pins s σ H _ _ v u Q I rx ry ⟨pv_non hb, ?_⟩
    rw [non_iff ha]
    have : k = !isNon a := by
      cases a <;> simp only [cmpO, Option.some.injEq] at e <;> exact e.symm
    rw [← this]; exact q
  | _ => simp only [cmpO, reduceCtorEq] at e
/-- any comparison -/
theorem cmpO_ok (sm : X.base.Ns sysModules mm) (hu : X.A.units + 65 < cLine) (op : CmpOp) : OpR X (compareOp op) (rC X.K (cmpO op)) := by
  cases op with
  | Eq => exact eqO_ok sm (by omega)
  | NotEq => exact neO_ok sm (by omega)
  | Lt => exact ltO_ok (by omega)
  | LtE => exact leO_ok
  | Gt => exact gtO_ok
  | GtE => exact geO_ok
  | Is => exact isO_ok
  | IsNot => exact isNotO_ok
  | In => exact inO_ok sm hu
  | NotIn => exact notInO_ok sm hu
end
end Ev
end

section
set_option maxHeartbeats 4000000
/-! subscripts, slices, built-in functions -/
namespace Ev
open PySem L2 PyProof.Rows
section
variable {K : PySem.W.Frag} {H : Hp} {M : Mp} {cs : Cs}
theorem atI_ok {vs : List PV} {xs : List V} {k : Int} {v : PV} (h : VRs K H M vs xs) (e : L2.atI vs k = some v) : ∃ x, L2.atI xs k = some x ∧ VR K H M v x := by
  unfold L2.atI at e ⊢
  rw [← h.length]
  cases q : L2.ixN vs.length k with
  | none => rw [q] at e; cases e
  | some j =>
    rw [q] at e
    exact h.get e
theorem cut_ok {vs : List PV} {xs : List V} (lo hi : Option Int) (h : VRs K H M vs xs) : VRs K H M (cut vs lo hi) (cutV xs lo hi) := by
  unfold cut cutV
  rw [h.length]
  exact VRs.take _ (VRs.drop _ h)
end
/-- subscripts -/
def rI (K : PySem.W.Frag) : R2 := fun x y H Q => ∃ M cs v w z, CelR K H M cs ∧ VR K H M v x ∧ VR K H M w y ∧ ixO cs v w = some z ∧ ∀ u, VR K H M z u → Q u H
/-- slices -/
def rS (K : PySem.W.Frag) (c : Bool) : V → Option Int → Option Int → Hp → VK → Prop := fun x lo hi H Q => ∃ M cs v z cs', CelR K H M cs ∧ VR K H M v x ∧
  (match v with
    | .tup vs => some (.tup (cut vs lo hi), cs)
    | a => (asR cs a).map fun vs => alc c (cut vs lo hi) cs) = some (z, cs') ∧ ∀ H' M' u, Ex H M H' M' → CelR K H' M' cs' → VR K H' M' z u → Q u H'
/-- built-in functions -/
def rF (K : PySem.W.Frag) (f : Bl) (c : Bool) : List V → Hp → VK → Prop := fun xs H Q => ∃ M cs vs z cs', CelR K H M cs ∧ VRs K H M vs xs ∧ bltO f c cs vs = some (z, cs') ∧
  ∀ H' M' u, Ex H M H' M' → CelR K H' M' cs' → VR K H' M' z u → Q u H'
section
variable {X : Cx}
theorem ixO_ok : IxR X (rI X.K) := by
  intro value slice pins s σ H x y v u Q I rx ry h hs
  obtain ⟨M, cs, a, b, z, cr, ha, hb, e, q⟩ := h
  cases b with
  | int k =>
    simp only [ixO, Option.bind_eq_some_iff] at e
    obtain ⟨vs, e1, e2⟩ := e
    obtain ⟨p, xs, rfl, h1, h2, h3⟩ := asQ_ok cr ha e1
    obtain ⟨w, e3, r3⟩ := atI_ok h3 e2
    rcases h1 with h1 | h1
    · exact ix_list value slice pins s σ H _ _ v u Q I rx ry ⟨p, xs, k, w, rfl, pv_int hb, h1, e3, q w r3⟩ hs
    · exact ix_tup value slice pins s σ H _ _ v u Q I rx ry ⟨p, xs, k, w, rfl, pv_int hb, h1, e3, q w r3⟩ hs
  | _ => simp [ixO] at e
theorem slcO_ok {c : Bool} : SlR X (rS X.K c) := by
  intro pins s σ H x v vl vu lo hi sl Q I rx hs pl pu h
  obtain ⟨M, cs, a, z, cs', cr, ha, e, q⟩ := h
  have lists : (asR cs a).map (fun vs => alc c (cut vs lo hi) cs) = some (z, cs') → ∃ T id, typeLookup (.type T) "__getitem__" = pure (some (.builtin id)) ∧ s.TypeIs v T ∧ wpAny (model X.prog X.w) X.A (getItem v (.ref sl)) (EP X pins σ Q) X.xe s := fun e0 => by
    simp only [Option.map_eq_some_iff] at e0
    obtain ⟨vs, e1, e2⟩ := e0
    obtain ⟨p, xs, rfl, h1, h2, h3⟩ := asR_ok cr ha e1
    refine sl_list pins s σ H _ v vl vu lo hi sl Q I rx hs pl pu ⟨p, xs, rfl, h1, fun r hr => ?_⟩
    obtain ⟨M', e3, c', w⟩ := new_alc c cr hr (cut_ok lo hi h3) (Nat.le_trans (cutV_length _ _ _) h2)
    rw [e2] at c' w
    exact q _ M' _ e3 c' w
  cases a with
  | tup vs =>
    simp only [Option.some.injEq, Prod.mk.injEq] at e
    obtain ⟨rfl, rfl⟩ := e
    have ha0 := ha
    simp only [VR] at ha
    obtain ⟨p, xs, rfl, h1, h2, h3⟩ := ha
    refine sl_tupA pins s σ H _ v vl vu lo hi sl Q I rx hs pl pu ⟨p, xs, rfl, h1, fun hw => ?_, fun _ r hr => ?_⟩
    · refine q H M _ Ex.refl cr ?_
      have : cut vs lo hi = vs := by
        unfold cut
        rw [h3.length, hw.1, hw.2, List.drop_zero, Nat.sub_zero]
        exact List.take_of_length_le (by rw [h3.length]; exact Nat.le_refl _)
      rw [this]; exact ha0
    · obtain ⟨e, c', w⟩ := new_tup cr hr (cut_ok lo hi h3) (Nat.le_trans (cutV_length _ _ _) h2)
      exact q _ M _ e c' w
  | _ => exact lists (by simpa only using e)

theorem vrs1 {K : PySem.W.Frag} {H : Hp} {M : Mp} {v : PV} {xs : List V} (h : VRs K H M [v] xs) : ∃ x, xs = [x] ∧ VR K H M v x := by
  simp only [VRs] at h
  obtain ⟨x, r, rfl, h1, rfl⟩ := h
  exact ⟨x, rfl, h1⟩
theorem vrs2 {K : PySem.W.Frag} {H : Hp} {M : Mp} {v w : PV} {xs : List V} (h : VRs K H M [v, w] xs) : ∃ x y, xs = [x, y] ∧ VR K H M v x ∧ VR K H M w y := by
  simp only [VRs] at h
  obtain ⟨x, r, rfl, h1, y, r', rfl, h2, rfl⟩ := h
  exact ⟨x, y, rfl, h1, h2⟩
theorem blt_abs {c : Bool} : CallR X (.builtin "abs") (rF X.K .abs c) := by
  intro pins s σ H xs us Q I r h
  obtain ⟨M, cs, vs, z, cs', cr, hv, e, q⟩ := h
  unfold bltO at e
  split at e <;> try (first | (simp at e; done) | (rename_i h; cases h; done))
  simp only [Option.some.injEq, Prod.mk.injEq] at e
  obtain ⟨rfl, rfl⟩ := e
  obtain ⟨x, rfl, h1⟩ := vrs1 hv
  exact call_abs pins s σ H _ us Q I r ⟨_, by rw [pv_int h1], q H M _ Ex.refl cr vr_int⟩
theorem blt_len {c : Bool} : CallR X (.builtin "len") (rF X.K .len c) := by
  intro pins s σ H xs us Q I r h
  obtain ⟨M, cs, vs, z, cs', cr, hv, e, q⟩ := h
  unfold bltO at e
  split at e <;> try (first | (simp at e; done) | (rename_i h; cases h; done))
  rename_i v _
  obtain ⟨x, rfl, h1⟩ := vrs1 hv
  have lists : (asR cs v).map (fun xs => (PV.int xs.length, cs)) = some (z, cs') → wpAny (model X.prog X.w) X.A (call (.builtin "len") us) (EP X pins σ Q) X.xe s := fun e => by
    simp only [Option.map_eq_some_iff, Prod.mk.injEq] at e
    obtain ⟨ws, e1, rfl, rfl⟩ := e
    obtain ⟨p, zs, rfl, h2, h3, h4⟩ := asR_ok cr h1 e1
    exact call_len_seq pins s σ H _ us Q I r ⟨p, zs, rfl, .inl h2, q H M _ Ex.refl cr (by rw [h4.length]; exact vr_int)⟩
  split at e
  · simp only [Option.ite_none_right_eq_some, Option.some.injEq, Prod.mk.injEq] at e
    obtain ⟨hz, rfl, rfl⟩ := e
    exact call_len_str pins s σ H _ us Q I r ⟨_, by rw [pv_str h1], by rw [← LIM_eq]; exact hz, q H M _ Ex.refl cr vr_int⟩
  · simp only [Option.some.injEq, Prod.mk.injEq] at e
    obtain ⟨rfl, rfl⟩ := e
    simp only [VR] at h1
    obtain ⟨p, zs, rfl, h2, h3, h4⟩ := h1
    exact call_len_seq pins s σ H _ us Q I r ⟨p, zs, rfl, .inr h2, q H M _ Ex.refl cr (by rw [h4.length]; exact vr_int)⟩
  · exact lists e
theorem blt_max2 {c : Bool} (hc : X.calm = true) : CallR X (.builtin "max") (rF X.K .max2 c) := by
  intro pins s σ H xs us Q I r h
  obtain ⟨M, cs, vs, z, cs', cr, hv, e, q⟩ := h
  unfold bltO at e
  split at e <;> try (first | (simp at e; done) | (rename_i h; cases h; done))
  simp only [Option.some.injEq, Prod.mk.injEq] at e
  obtain ⟨rfl, rfl⟩ := e
  obtain ⟨x, y, rfl, h1, h2⟩ := vrs2 hv
  exact call_max2 hc pins s σ H _ us Q I r ⟨_, _, by rw [pv_int h1, pv_int h2], q H M _ Ex.refl cr vr_int⟩
theorem blt_min2 {c : Bool} (hc : X.calm = true) : CallR X (.builtin "min") (rF X.K .min2 c) := by
  intro pins s σ H xs us Q I r h
  obtain ⟨M, cs, vs, z, cs', cr, hv, e, q⟩ := h
  unfold bltO at e
  split at e <;> try (first | (simp at e; done) | (rename_i h; cases h; done))
  simp only [Option.some.injEq, Prod.mk.injEq] at e
  obtain ⟨rfl, rfl⟩ := e
  obtain ⟨x, y, rfl, h1, h2⟩ := vrs2 hv
  exact call_min2 hc pins s σ H _ us Q I r ⟨_, _, by rw [pv_int h1, pv_int h2], q H M _ Ex.refl cr vr_int⟩
theorem great_ge : ∀ (r : List Int) (m : Int), m ≤ r.foldl (fun m y => if m < y then y else m) m ∧ (∀ y ∈ r, y ≤ r.foldl (fun m y => if m < y then y else m) m) ∧ (r.foldl (fun m y => if m < y then y else m) m = m ∨ r.foldl (fun m y => if m < y then y else m) m ∈ r)
  | [], m => ⟨Int.le_refl _, by simp, .inl rfl⟩
  | y :: r, m => by
    obtain ⟨h1, h2, h3⟩ := great_ge r (if m < y then y else m)
    simp only [List.foldl_cons]
    refine ⟨by split at h1 <;> split <;> omega, fun z hz => ?_, ?_⟩
    · rcases List.mem_cons.mp hz with rfl | hz
      · split at h1 <;> split <;> omega
      · exact h2 z hz
    · rcases h3 with h3 | h3
      · rw [h3]
        split
        · exact .inr List.mem_cons_self
        · exact .inl rfl
      · exact .inr (List.mem_cons_of_mem _ h3)
theorem least_le : ∀ (r : List Int) (m : Int), r.foldl (fun m y => if y < m then y else m) m ≤ m ∧ (∀ y ∈ r, r.foldl (fun m y => if y < m then y else m) m ≤ y) ∧ (r.foldl (fun m y => if y < m then y else m) m = m ∨ r.foldl (fun m y => if y < m then y else m) m ∈ r)
  | [], m => ⟨Int.le_refl _, by simp, .inl rfl⟩
  | y :: r, m => by
    obtain ⟨h1, h2, h3⟩ := least_le r (if y < m then y else m)
    simp only [List.foldl_cons]
    refine ⟨by split at h1 <;> split <;> omega, fun z hz => ?_, ?_⟩
    · rcases List.mem_cons.mp hz with rfl | hz
      · split at h1 <;> split <;> omega
      · exact h2 z hz
    · rcases h3 with h3 | h3
      · rw [h3]
        split
        · exact .inr List.mem_cons_self
        · exact .inl rfl
      · exact .inr (List.mem_cons_of_mem _ h3)
theorem greatest_is {ns : List Int} {m : Int} (hm : m ∈ ns) (hu : ∀ y ∈ ns, y ≤ m) : greatest ns = m := by
  cases ns with
  | nil => simp at hm
  | cons x r =>
    obtain ⟨h1, h2, h3⟩ := great_ge r x
    show r.foldl (fun m y => if m < y then y else m) x = m
    have a : r.foldl (fun m y => if m < y then y else m) x ≤ m := by
      rcases h3 with h3 | h3
      · rw [h3]; exact hu x List.mem_cons_self
      · exact hu _ (List.mem_cons_of_mem _ h3)
    have b : m ≤ r.foldl (fun m y => if m < y then y else m) x := by
      rcases List.mem_cons.mp hm with rfl | hm
      · exact h1
      · exact h2 m hm
    omega
theorem least_is {ns : List Int} {m : Int} (hm : m ∈ ns) (hu : ∀ y ∈ ns, m ≤ y) : least ns = m := by
  cases ns with
  | nil => simp at hm
  | cons x r =>
    obtain ⟨h1, h2, h3⟩ := least_le r x
    show r.foldl (fun m y => if y < m then y else m) x = m
    have a : m ≤ r.foldl (fun m y => if y < m then y else m) x := by
      rcases h3 with h3 | h3
      · rw [h3]; exact hu x List.mem_cons_self
      · exact hu _ (List.mem_cons_of_mem _ h3)
    have b : r.foldl (fun m y => if y < m then y else m) x ≤ m := by
      rcases List.mem_cons.mp hm with rfl | hm
      · exact h1
      · exact h2 m hm
    omega
theorem blt_maxL {c : Bool} (hc : X.calm = true) : CallR X (.builtin "max") (rF X.K .maxL c) := by
  intro pins s σ H xs us Q I r h
  obtain ⟨M, cs, vs, z, cs', cr, hv, e, q⟩ := h
  unfold bltO at e
  split at e <;> try (first | (simp at e; done) | (rename_i h; cases h; done))
  obtain ⟨x, rfl, h1⟩ := vrs1 hv
  simp only [Option.bind_eq_some_iff, Option.ite_none_left_eq_some, Option.some.injEq, Prod.mk.injEq] at e
  obtain ⟨ws, e1, ns, e2, hn, rfl, rfl⟩ := e
  obtain ⟨p, zs, rfl, h2, h3, h4⟩ := asR_ok cr h1 e1
  have e3 := h4.ints e2
  subst e3
  exact cr_max hc pins s σ H _ us Q I r ⟨p, ns, rfl, h2, List.length_pos_iff.mpr hn, fun m m1 m2 => q H M _ Ex.refl cr (by rw [greatest_is m1 m2]; exact vr_int)⟩
theorem blt_minL {c : Bool} (hc : X.calm = true) : CallR X (.builtin "min") (rF X.K .minL c) := by
  intro pins s σ H xs us Q I r h
  obtain ⟨M, cs, vs, z, cs', cr, hv, e, q⟩ := h
  unfold bltO at e
  split at e <;> try (first | (simp at e; done) | (rename_i h; cases h; done))
  obtain ⟨x, rfl, h1⟩ := vrs1 hv
  simp only [Option.bind_eq_some_iff, Option.ite_none_left_eq_some, Option.some.injEq, Prod.mk.injEq] at e
  obtain ⟨ws, e1, ns, e2, hn, rfl, rfl⟩ := e
  obtain ⟨p, zs, rfl, h2, h3, h4⟩ := asR_ok cr h1 e1
  have e3 := h4.ints e2
  subst e3
  exact cr_min hc pins s σ H _ us Q I r ⟨p, ns, rfl, h2, List.length_pos_iff.mpr hn, fun m m1 m2 => q H M _ Ex.refl cr (by rw [least_is m1 m2]; exact vr_int)⟩
theorem presum : ∀ (ns : List Int) (j : Nat), preSum (fun i => ns.getD i 0) j = (ns.take j).sum
  | ns, 0 => by simp [preSum]
  | ns, j + 1 => by
    rw [preSum, presum ns j, List.take_add_one, List.sum_append]
    cases e : ns[j]? with
    | none => simp [List.getD, e]
    | some v => simp [List.getD, e]
theorem sum_tup {pins : List (Addr × Obj)} {σ : L2.St} {H : Hp} {s : Shared} {a : Addr} {ns : List Int} {u : Value} {Q : VK} (hc : X.calm = true) (I : Inv X pins σ H s) (r : RelV (.ref a) u) (h : SqT X.K H a (ns.map V.int)) (q : Q (.int ns.sum) H) :
    wpAny (model X.prog X.w) X.A (call (.builtin "sum") [u]) (EP X pins σ Q) X.xe s := by
  cases r
  obtain ⟨its, rv, ht, hl⟩ := I.tuple h
  have hi : IntsAre its ns := rv.ints
  have ht' : s.heap.IsTuple a its.toArray := ht
  refine call_sum_walkG (wpAny_pyIter_tuple ht' ?_)
  have hne : a ≠ s.heap.objs.size := by
    obtain ⟨o, e, _⟩ := id ht
    exact Nat.ne_of_lt (Heap.lt_size e)
  refine ⟨s.heap.objs.size, _, _, _, _, _, fun i => ns.getD i 0, rfl, Walks.tuple (A := X.A.in1) (I.ok.hd hc) s.heap.objs.size a hne its.toArray, ⟨⟨_, Heap.get?_push_size _ rfl, rfl, rfl⟩, ?_⟩, fun b hb => ?_, fun i v hv => ?_, fun h' tk t' hk => ?_⟩
  · obtain ⟨o, e, c, n, d⟩ := id ht
    exact ⟨o, Heap.get?_push_of_some _ e, c, n, d⟩
  · simp only [Heap.size_push]
    rcases List.mem_cons.mp hb with rfl | hb
    · exact Nat.lt_succ_self _
    · have : b = a := by simpa using hb
      subst this
      obtain ⟨o, e, _⟩ := id ht
      exact Nat.lt_succ_of_lt (Heap.lt_size e)
  · exact hi.int_at i v (by simpa using hv)
  · refine ⟨.int _, H, I.kept (h' := h') (t' := tk) (fun b o e => hk b o (fun hb => ?_) (Heap.get?_push_of_some _ e)), ⟨t', rfl⟩, ?_⟩
    · have : b = s.heap.objs.size := by simpa using hb
      subst this
      exact absurd (Heap.lt_size e) (Nat.lt_irrefl _)
    · rw [presum, List.take_of_length_le (by rw [List.size_toArray, hi.length]; exact Nat.le_refl _)]
      exact q
theorem blt_sum {c : Bool} (hc : X.calm = true) : CallR X (.builtin "sum") (rF X.K .sum c) := by
  intro pins s σ H xs us Q I r h
  obtain ⟨M, cs, vs, z, cs', cr, hv, e, q⟩ := h
  unfold bltO at e
  split at e <;> try (first | (simp at e; done) | (rename_i h; cases h; done))
  · obtain ⟨x, rfl, h1⟩ := vrs1 hv
    simp only [Option.map_eq_some_iff, Prod.mk.injEq] at e
    obtain ⟨ns, e1, rfl, rfl⟩ := e
    simp only [VR] at h1
    obtain ⟨p, zs, rfl, h2, h3, h4⟩ := h1
    have e3 := h4.ints e1
    subst e3
    obtain ⟨u, rfl, ru⟩ := vals1 r
    exact sum_tup hc I ru h2 (q H M _ Ex.refl cr vr_int)
  · obtain ⟨x, rfl, h1⟩ := vrs1 hv
    simp only [Option.bind_eq_some_iff, Option.map_eq_some_iff, Prod.mk.injEq] at e
    obtain ⟨ws, e1, ns, e2, rfl, rfl⟩ := e
    obtain ⟨p, zs, rfl, h2, h3, h4⟩ := asR_ok cr h1 e1
    have e3 := h4.ints e2
    subst e3
    exact cr_sum hc pins s σ H _ us Q I r ⟨p, ns, rfl, h2, q H M _ Ex.refl cr vr_int⟩
theorem blt_any {c : Bool} (hc : X.calm = true) : CallR X (.builtin "any") (rF X.K .any c) := by
  intro pins s σ H xs us Q I r h
  obtain ⟨M, cs, vs, z, cs', cr, hv, e, q⟩ := h
  unfold bltO at e
  split at e <;> try (first | (simp at e; done) | (rename_i h; cases h; done))
  obtain ⟨x, rfl, h1⟩ := vrs1 hv
  simp only [Option.bind_eq_some_iff, Option.map_eq_some_iff, Prod.mk.injEq] at e
  obtain ⟨ws, e1, ns, e2, rfl, rfl⟩ := e
  obtain ⟨p, zs, rfl, h2, h3, h4⟩ := asR_ok cr h1 e1
  have e3 := h4.bls e2
  subst e3
  exact cr_any hc pins s σ H _ us Q I r ⟨p, ns, rfl, h2, q H M _ Ex.refl cr vr_bl⟩
theorem blt_all {c : Bool} (hc : X.calm = true) : CallR X (.builtin "all") (rF X.K .all c) := by
  intro pins s σ H xs us Q I r h
  obtain ⟨M, cs, vs, z, cs', cr, hv, e, q⟩ := h
  unfold bltO at e
  split at e <;> try (first | (simp at e; done) | (rename_i h; cases h; done))
  obtain ⟨x, rfl, h1⟩ := vrs1 hv
  simp only [Option.bind_eq_some_iff, Option.map_eq_some_iff, Prod.mk.injEq] at e
  obtain ⟨ws, e1, ns, e2, rfl, rfl⟩ := e
  obtain ⟨p, zs, rfl, h2, h3, h4⟩ := asR_ok cr h1 e1
  have e3 := h4.bls e2
  subst e3
  exact cr_all hc pins s σ H _ us Q I r ⟨p, ns, rfl, h2, q H M _ Ex.refl cr vr_bl⟩
theorem blt_int {c : Bool} : CallR X (.type "int") (rF X.K .int c) := by
  intro pins s σ H xs us Q I r h
  obtain ⟨M, cs, vs, z, cs', cr, hv, e, q⟩ := h
  unfold bltO at e
  split at e <;> try (first | (simp at e; done) | (rename_i h; cases h; done))
  simp only [Option.some.injEq, Prod.mk.injEq] at e
  obtain ⟨rfl, rfl⟩ := e
  obtain ⟨x, rfl, h1⟩ := vrs1 hv
  exact call_int1 pins s σ H _ us Q I r (.inl ⟨_, by rw [pv_int h1], q H M _ Ex.refl cr vr_int⟩)
theorem vrs_ints2 {K : PySem.W.Frag} {H : Hp} {M : Mp} (i j : Int) : VRs K H M [.int i, .int j] [.int i, .int j] := VRs.of_ints [i, j]
theorem blt_divmod {c : Bool} : CallR X (.builtin "divmod") (rF X.K .divmod c) := by
  intro pins s σ H xs us Q I r h
  obtain ⟨M, cs, vs, z, cs', cr, hv, e, q⟩ := h
  unfold bltO at e
  split at e <;> try (first | (simp at e; done) | (rename_i h; cases h; done))
  simp only [Option.ite_none_right_eq_some, Option.some.injEq, Prod.mk.injEq] at e
  obtain ⟨hj, rfl, rfl⟩ := e
  obtain ⟨x, y, rfl, h1, h2⟩ := vrs2 hv
  refine call_divmod pins s σ H _ us Q I r ⟨_, _, by rw [pv_int h1, pv_int h2], hj, fun p hp => ?_⟩
  obtain ⟨e, c', w⟩ := new_tup cr hp (vrs_ints2 _ _) (by show 2 ≤ LIM; decide)
  exact q _ M _ e c' w
theorem blt_tuple {c : Bool} : CallR X (.type "tuple") (rF X.K .tuple c) := by
  intro pins s σ H xs us Q I r h
  obtain ⟨M, cs, vs, z, cs', cr, hv, e, q⟩ := h
  unfold bltO at e
  split at e <;> try (first | (simp at e; done) | (rename_i h; cases h; done))
  · obtain ⟨x, rfl, h1⟩ := vrs1 hv
    simp only [Option.some.injEq, Prod.mk.injEq] at e
    obtain ⟨rfl, rfl⟩ := e
    have h0 := h1
    simp only [VR] at h1
    obtain ⟨p, zs, rfl, h2, h3, h4⟩ := h1
    exact call_tuple_of pins s σ H _ us Q I r ⟨p, zs, rfl, .inr ⟨h2, q H M _ Ex.refl cr h0⟩⟩
  · obtain ⟨x, rfl, h1⟩ := vrs1 hv
    simp only [Option.map_eq_some_iff, Prod.mk.injEq] at e
    obtain ⟨ws, e1, rfl, rfl⟩ := e
    obtain ⟨p, zs, rfl, h2, h3, h4⟩ := asR_ok cr h1 e1
    refine call_tuple_of pins s σ H _ us Q I r ⟨p, zs, rfl, .inl ⟨h2, fun l hl => ?_⟩⟩
    obtain ⟨e, c', w⟩ := new_tup cr hl h4 h3
    exact q _ M _ e c' w
theorem blt_list {c : Bool} : CallR X (.type "list") (rF X.K .list c) := by
  intro pins s σ H xs us Q I r h
  obtain ⟨M, cs, vs, z, cs', cr, hv, e, q⟩ := h
  unfold bltO at e
  split at e <;> try (first | (simp at e; done) | (rename_i h; cases h; done))
  obtain ⟨x, rfl, h1⟩ := vrs1 hv
  simp only [Option.map_eq_some_iff] at e
  obtain ⟨ws, e1, e2⟩ := e
  obtain ⟨p, zs, rfl, h2, h3, h4⟩ := asQ_ok cr h1 e1
  refine call_list_of pins s σ H _ us Q I r ⟨p, zs, rfl, h2, fun l hl => ?_⟩
  obtain ⟨M', e3, c', w⟩ := new_alc c cr hl h4 h3
  rw [e2] at c' w
  exact q _ M' _ e3 c' w
theorem blt_repr {c : Bool} {mm : Str → Option Value} (sm : X.base.Ns sysModules mm) (hg : X.A.guards = some []) (hu : X.A.units + 65 < cLine) : CallR X (.builtin "repr") (rF X.K .repr c) := by
  intro pins s σ H xs us Q I r h
  obtain ⟨M, cs, vs, z, cs', cr, hv, e, q⟩ := h
  unfold bltO at e
  split at e <;> try (first | (simp at e; done) | (rename_i h; cases h; done))
  obtain ⟨x, rfl, h1⟩ := vrs1 hv
  simp only [Option.bind_eq_some_iff, Option.ite_none_right_eq_some, Option.some.injEq, Prod.mk.injEq] at e
  obtain ⟨d, e1, ⟨d1, d2, d3⟩, rfl, rfl⟩ := e
  obtain ⟨u, rfl, ru⟩ := vals1 r
  obtain ⟨as, hr, hs⟩ := reads_asD I sm cr h1 ru e1
  rw [LIM_eq] at d3
  have fin : ∀ (h' : Heap) (t : Tok) (tk : Nat), (∀ b o, s.heap.get? b = some o → h'.get? b = some o) → EP X pins σ Q (.str d.shown t) { s with heap := h', toks := tk } := fun h' t tk hk =>
    ⟨.str d.shown, H, I.kept hk, ⟨t, rfl⟩, q H M _ Ex.refl cr vr_str⟩
  cases hr with
  | none => exact PySem.P.repr_of_none (fin s.heap _ _ fun _ _ e => e)
  | bool b => exact PySem.P.repr_of_bool (by have := fin s.heap s.toks (s.toks + 1) fun _ _ e => e; cases b <;> exact this)
  | int i t => exact PySem.P.repr_of_int (by simpa [PyData.showable] using d1) (fin s.heap _ _ fun _ _ e => e)
  | str x t => exact PySem.P.repr_of_str (fin s.heap _ _ fun _ _ e => e) d3
  | list h1 h2 h3 h4 => exact repr_of_reads' (Reads.list h1 h2 h3 h4) d1 (fun _ => hs) hg (by omega) (fun _ _ e => e) (fun h' u tk hk => fin h' u tk hk) d3
  | tuple h1 h2 h3 h4 => exact repr_of_reads' (Reads.tuple h1 h2 h3 h4) d1 (fun _ => hs) hg (by omega) (fun _ _ e => e) (fun h' u tk hk => fin h' u tk hk) d3
  | dict h1 h2 h3 h4 h5 => exact repr_of_reads' (Reads.dict h1 h2 h3 h4 h5) d1 (fun _ => hs) hg (by omega) (fun _ _ e => e) (fun h' u tk hk => fin h' u tk hk) d3
end
end Ev
end

section
set_option maxHeartbeats 4000000
/-! sorted of lists of tuples of ints, of any lengths -/
namespace Ev
open PySem L2 PyProof.Rows
/-! ### the order -/
theorem lex_irr : ∀ a : List Int, HT.lexLt a a = false
  | [] => rfl
  | x :: a => by rw [HT.lexLt_cons, if_pos rfl]; exact lex_irr a
theorem lex_asym : ∀ a b : List Int, HT.lexLt a b = true → HT.lexLt b a = false
  | [], [], h => by simp [HT.lexLt] at h
  | [], _ :: _, _ => rfl
  | _ :: _, [], h => by simp [HT.lexLt] at h
  | x :: a, y :: b, h => by
    rw [HT.lexLt_cons] at h ⊢
    by_cases e : x = y
    · rw [if_pos e] at h; rw [if_pos e.symm]; exact lex_asym a b h
    · rw [if_neg e] at h; rw [if_neg (Ne.symm e)]
      have := of_decide_eq_true h
      exact decide_eq_false (by omega)
theorem lex_le_trans : ∀ a b c : List Int, HT.lexLt b a = false → HT.lexLt c b = false → HT.lexLt c a = false
  | [], _, c, _, _ => by cases c <;> rfl
  | x :: a, [], c, h, _ => by simp [HT.lexLt] at h
  | x :: a, y :: b, [], _, h => by simp [HT.lexLt] at h
  | x :: a, y :: b, z :: c, h1, h2 => by
    rw [HT.lexLt_cons] at h1 h2 ⊢
    by_cases e1 : y = x
    · rw [if_pos e1] at h1
      by_cases e2 : z = y
      · rw [if_pos e2] at h2
        rw [if_pos (e2.trans e1)]
        exact lex_le_trans a b c h1 h2
      · rw [if_neg e2] at h2
        have := of_decide_eq_false h2
        rw [if_neg (by omega)]
        exact decide_eq_false (by omega)
    · rw [if_neg e1] at h1
      have q1 := of_decide_eq_false h1
      by_cases e2 : z = y
      · rw [if_neg (by omega)]
        exact decide_eq_false (by omega)
      · rw [if_neg e2] at h2
        have q2 := of_decide_eq_false h2
        rw [if_neg (by omega)]
        exact decide_eq_false (by omega)
theorem lex_eq : ∀ a b : List Int, HT.lexLt a b = false → HT.lexLt b a = false → a = b
  | [], [], _, _ => rfl
  | [], _ :: _, h, _ => by simp [HT.lexLt] at h
  | _ :: _, [], _, h => by simp [HT.lexLt] at h
  | x :: a, y :: b, h1, h2 => by
    rw [HT.lexLt_cons] at h1 h2
    by_cases e : x = y
    · subst e
      rw [if_pos rfl] at h1 h2
      rw [lex_eq a b h1 h2]
    · rw [if_neg e] at h1
      rw [if_neg (Ne.symm e)] at h2
      have q1 := of_decide_eq_false h1
      have q2 := of_decide_eq_false h2
      exact absurd (by omega) e
theorem swo_lexT {α : Type} (k : α → List Int) : SrtO.Swo fun v u => HT.lexLt (k v) (k u) :=
  ⟨fun x y h => lex_asym _ _ h, fun x y z h1 h2 => lex_le_trans _ _ _ h1 h2⟩
theorem lexLe_trans (a b c : List Int) (h1 : lexLe a b = true) (h2 : lexLe b c = true) : lexLe a c = true := by
  unfold lexLe at *
  rw [Bool.not_eq_true'] at *
  exact lex_le_trans a b c h1 h2
theorem lexLe_total (a b : List Int) : (lexLe a b || lexLe b a) = true := by
  unfold lexLe
  cases h : HT.lexLt b a with
  | false => rfl
  | true => rw [lex_asym _ _ h]; rfl
/-- a sorted arrangement is the sorted list -/
theorem sorted_isT {l m : List (List Int)} (hp : l.Perm m) (hs : l.Pairwise fun a b => HT.lexLt b a = false) : l = m.mergeSort lexLe := by
  have h1 : (m.mergeSort lexLe).Pairwise fun a b => lexLe a b = true := List.pairwise_mergeSort (fun a b c => lexLe_trans a b c) (fun a b => lexLe_total a b) m
  have h2 : (m.mergeSort lexLe).Perm m := List.mergeSort_perm m lexLe
  refine List.Perm.eq_of_pairwise (le := fun a b => lexLe a b = true) (fun a b _ _ q1 q2 => ?_) (hs.imp fun {a b} h => ?_) h1 (hp.trans h2.symm)
  · unfold lexLe at q1 q2
    rw [Bool.not_eq_true'] at q1 q2
    exact lex_eq a b q2 q1
  · unfold lexLe
    rw [h]; rfl
theorem sorted_isI {l m : List Int} (hp : l.Perm m) (hs : l.Pairwise (· ≤ ·)) : l = m.mergeSort (fun a b => decide (a ≤ b)) := by
  have h1 : (m.mergeSort (fun a b => decide (a ≤ b))).Pairwise fun a b => decide (a ≤ b) = true := List.pairwise_mergeSort (fun a b c h1 h2 => by simp at *; omega) (fun a b => by simp; omega) m
  have h2 := List.mergeSort_perm m (fun a b => decide (a ≤ b))
  refine List.Perm.eq_of_pairwise (le := fun a b => a ≤ b) (fun a b _ _ q1 q2 => by omega) hs (h1.imp fun {a b} h => by simpa using h) (hp.trans h2.symm)

/-! ### tuples of ints in the heap -/
def IsT (h : Heap) (v : Value) (ns : List Int) : Prop := ∃ (a : Addr) (its : List Value), v = .ref a ∧ IsTup h a its.toArray ∧ IntsAre its ns
def kOf (h : Heap) : Value → List Int
  | .ref a => match h.get? a with
    | some o => match o.data with
      | .seq its _ => numsOf its.toList
      | _ => []
    | none => []
  | _ => []
theorem IsT.k {h : Heap} {v : Value} {ns : List Int} (x : IsT h v ns) : kOf h v = ns := by
  obtain ⟨a, its, rfl, ⟨o, e, _, n, d⟩, i⟩ := x
  simp only [kOf, e, d]
  exact i.numsOf
theorem IsT.keeps {h h' : Heap} {v : Value} {ns : List Int} (x : IsT h v ns) (k : ∀ b o, h.get? b = some o → o.cls = .type "tuple" → h'.get? b = some o) : IsT h' v ns := by
  obtain ⟨a, its, rfl, ⟨o, e, c, d⟩, i⟩ := x
  exact ⟨a, its, rfl, ⟨o, k a o e c, c, d⟩, i⟩
section
variable {prog : Program} {w : World} {A : Around} {E : Value → Shared → Prop} {s : Shared}
theorem katLex_ints {b : Bool} {fin : Bool} {Q : Bool → Shared → Prop} : ∀ {vs ws : List Value} {ns ms : List Int} (i : Nat), IntsAre vs ns → IntsAre ws ms → fin = decide (ns.length < ms.length) → Q (HT.lexLt ns ms) s →
    PySem.W.KatLex prog w A b fin Q (vs.zip ws) i s
  | _, _, _, _, i, .nil, .nil, hf, q => by subst hf; exact PySem.W.kat_nil q
  | _, _, _, _, i, .nil, .cons _ _ _, hf, q => by
    rw [List.zip_nil_left]
    refine PySem.W.kat_nil ?_
    rw [hf, decide_eq_true (by simp)]
    exact q
  | _, _, _, _, i, .cons _ _ _, .nil, hf, q => by
    rw [List.zip_nil_right]
    refine PySem.W.kat_nil ?_
    rw [hf, decide_eq_false (by simp)]
    exact q
  | _, _, _, _, i, .cons x t h, .cons y u h', hf, q => by
    rw [List.zip_cons_cons]
    refine PySem.W.kat_cons (SeqAt.EqAt.int_int x t y u prog w _ _ ?_)
    refine PySem.W.kat_go (fun e => ?_) (fun e => ?_)
    · have e : x = y := by simpa using e
      rw [HT.lexLt_cons, if_pos e] at q
      exact PySem.W.kat_yes (katLex_ints (i + 1) h h' (by rw [hf]; simp) q)
    · have e : ¬ x = y := by simpa using e
      rw [HT.lexLt_cons, if_neg e] at q
      refine PySem.W.kat_no ?_
      cases hb : (b && i == 0) with
      | true => exact oneLt_int q
      | false => exact PySem.W.kat_one _ _ (PyProof.Rows.lt_int q)
theorem cmp_tuples {b : Bool} {vs : List Value} {k : Value → List Int} (hp : ∀ v ∈ vs, IsT s.heap v (k v)) : SrtO.Cmp prog w A s (tuples' b) (fun p => p.1 ∈ vs) (SrtO.lt2 fun v u => HT.lexLt (k v) (k u)) := by
  intro p q hm hm'
  have h1 := hp _ hm
  have h2 := hp _ hm'
  show wpAny (model prog w) A (keyLt' (tuples' b) p.1 q.1) (fun r s' => s' = s ∧ r = HT.lexLt (k p.1) (k q.1)) (fun _ _ => False) s
  obtain ⟨a, its, e, ⟨o, ho, hc, n, hd⟩, hi⟩ := h1
  obtain ⟨a', its', e', ⟨o', ho', hc', n', hd'⟩, hi'⟩ := h2
  rw [e, e']
  rw [e] at hi
  rw [e'] at hi'
  refine PySem.W.kat_lt ho hd ho' hd' ?_
  exact katLex_ints 0 hi hi' (by rw [List.size_toArray, List.size_toArray, hi.length, hi'.length]) ⟨rfl, rfl⟩
theorem cmp_oneType {vs : List Value} {k : Value → List Int} (hu : A.units < cLine) (hp : ∀ v ∈ vs, IsT s.heap v (k v)) : SrtO.Cmp prog w A s oneType' (fun p => p.1 ∈ vs) (SrtO.lt2 fun v u => HT.lexLt (k v) (k u)) := by
  intro p q hm hm'
  have h1 := hp _ hm
  have h2 := hp _ hm'
  show wpAny (model prog w) A (keyLt' oneType' p.1 q.1) (fun r s' => s' = s ∧ r = HT.lexLt (k p.1) (k q.1)) (fun _ _ => False) s
  obtain ⟨a, its, e, ht, hi⟩ := h1
  obtain ⟨a', its', e', ht', hi'⟩ := h2
  rw [e, e']
  rw [e] at hi
  rw [e'] at hi'
  rw [keyLt'_oneType, oneLt'_eq]
  simp only [if_true]
  obtain ⟨⟨cls, dd, data, sl⟩, ho, hc, n, hd⟩ := id ht
  obtain ⟨⟨cls2, dd2, data2, sl2⟩, ho2, hc2, n2, hd2⟩ := id ht'
  simp only at hc hd hc2 hd2
  subst hc hd hc2 hd2
  refine wpAny_bind (wpAny_cRoomFor hu ?_)
  refine wpAny_bind (wpAny_callSpecialIfBound?_slot (T := "tuple") ⟨_, ho, rfl⟩ PySem.F.slot_tuple_lt (call_meets PySem.F.slot_tuple_lt ⟨_, ho, rfl⟩ PySem.F.entry_tuple_lt (PySem.F.args_tuple_lt_2 _ _)
    (HT.tuple_lt_ints a a' its.toArray its'.toArray n n2 dd dd2 sl sl2 _ _ (by simpa using hi) (by simpa using hi')) ⟨ho, ho2, ?_⟩))
  exact wpAny_truthy_bool ⟨rfl, rfl⟩
theorem cmp_general {vs : List Value} {k : Value → List Int} (hu : A.units < cLine) (hp : ∀ v ∈ vs, IsT s.heap v (k v)) : SrtO.Cmp prog w A s general' (fun p => p.1 ∈ vs) (SrtO.lt2 fun v u => HT.lexLt (k v) (k u)) := by
  intro p q hm hm'
  have h1 := hp _ hm
  have h2 := hp _ hm'
  show wpAny (model prog w) A (oneLt' false p.1 q.1) (fun r s' => s' = s ∧ r = HT.lexLt (k p.1) (k q.1)) (fun _ _ => False) s
  obtain ⟨a, its, e, ht, hi⟩ := h1
  obtain ⟨a', its', e', ht', hi'⟩ := h2
  rw [e, e']
  rw [e] at hi
  rw [e'] at hi'
  exact PySem.W.kat_one _ _ (HT.lt_tupInts ht ht' (by simpa using hi) (by simpa using hi') hu ⟨rfl, rfl⟩)

/-- the first items -/
theorem firstsT : ∀ (vs : List Value), (∀ v ∈ vs, ∃ ns, IsT s.heap v ns) → ∃ fs : List (Option Value), Paired (fun v f => ∃ a its, v = Value.ref a ∧ IsTup s.heap a its ∧ f = its[0]?) vs fs ∧
    ∀ (A : Around) (E : Value → Shared → Prop) (Q : List (Option Value) → Shared → Prop), Q fs s → wpAny (model prog w) A (vs.mapM firstOfTuple') Q E s
  | [], _ => ⟨[], .nil, fun A E Q h => by rw [List.mapM_nil]; exact wpAny_pure h⟩
  | v :: vs, hp => by
    obtain ⟨fs, h1, h2⟩ := firstsT vs fun u hu => hp u (List.mem_cons_of_mem _ hu)
    obtain ⟨ns, a, its, rfl, ⟨o, ho, hc, n, hd⟩, hi⟩ := hp _ List.mem_cons_self
    refine ⟨its.toArray[0]? :: fs, .cons ⟨a, its.toArray, rfl, ⟨o, ho, hc, n, hd⟩, rfl⟩ h1, fun A E Q h => ?_⟩
    rw [List.mapM_cons]
    refine wpAny_bind ?_
    rw [PySem.W.kas_first_eq]
    refine wpAny_bind (PySem.W.Looks.here (show PySem.W.Looks (model prog w) s.heap (typeOf (.ref a)) o.cls from (PySem.W.Looks.ld ho).andThen .now) ?_)
    rw [hc, if_neg (by first | decide | simp)]
    refine wpAny_bind (listItems_at ho hd (wpAny_pure ?_))
    exact wpAny_bind (h2 A E (fun bs s' => wpAny (model prog w) A (pure (its.toArray[0]? :: bs)) Q E s') (wpAny_pure h))
/-- what kind the keys are of -/
theorem kindT {vs : List Value} {k : Value → List Int} (h2 : 2 ≤ vs.length) (hp : ∀ v ∈ vs, IsT s.heap v (k v)) : ∃ κ, (κ = tuples' true ∨ κ = oneType' ∨ κ = general') ∧
    ∀ (A : Around) (Q : SortKind → Shared → Prop) (E : Value → Shared → Prop), Q κ s → wpAny (model prog w) A (keyKind' vs.toArray) Q E s := by
  obtain ⟨fs, hf, hfs⟩ := firstsT (prog := prog) (w := w) (s := s) vs fun v hv => ⟨_, hp v hv⟩
  have typ : ∀ (A : Around) (E : Value → Shared → Prop) (Q : List Value → Shared → Prop), Q (vs.map fun _ => Value.type "tuple") s → wpAny (model prog w) A (vs.mapM typeOf) Q E s := fun A E Q q =>
    PySem.W.kas_mapM vs (fun v hv Q' hq => by
      obtain ⟨a, its, rfl, ⟨o, ho, hc, n, hd⟩, hi⟩ := hp v hv
      refine PySem.W.Looks.here (show PySem.W.Looks (model prog w) s.heap (typeOf (.ref a)) o.cls from (PySem.W.Looks.ld ho).andThen .now) ?_
      rw [hc]; exact hq) q
  by_cases hall : ∀ v ∈ vs, k v ≠ []
  · refine ⟨tuples' true, .inl rfl, fun A Q E q => ?_⟩
    have kt : ∀ (us : List Value), (∀ v ∈ us, v ∈ vs) → ∃ gs : List Value, PySem.W.KatTups s.heap us gs ∧ gs.length = us.length ∧ ∀ g ∈ gs, ∃ x t, g = Value.int x t := by
      intro us
      induction us with
      | nil => exact fun _ => ⟨[], PySem.W.KatTups.nil, rfl, by simp⟩
      | cons u us ih =>
        intro hu
        obtain ⟨gs, g1, g2, g3⟩ := ih fun v hv => hu v (List.mem_cons_of_mem _ hv)
        have hne := hall u (hu u List.mem_cons_self)
        obtain ⟨a, its, rfl, ⟨o, ho, hc, n, hd⟩, hi⟩ := hp u (hu u List.mem_cons_self)
        generalize hk : k (Value.ref a) = kk at hi hne
        cases hi with
        | nil => exact absurd rfl hne
        | cons x t hi =>
          refine ⟨.int x t :: gs, PySem.W.KatTups.cons ho hc hd rfl g1, by simp [g2], fun g hg => ?_⟩
          rcases List.mem_cons.mp hg with rfl | hg
          · exact ⟨x, t, rfl⟩
          · exact g3 g hg
    obtain ⟨gs, g1, g2, g3⟩ := kt vs fun _ h => h
    refine PySem.W.kat_kind (T := .type "int") g1 (by omega) (fun f hm => ?_) (by rfl) ?_
    · obtain ⟨x, t, rfl⟩ := g3 f hm
      exact PySem.W.Looks.now
    · have e : (Value.type "int" != Value.type "tuple") = true := by first | decide +kernel | rfl | decide
      rw [e]
      exact q
  · have hno : (fs.toArray.all fun x => x.isSome) = false := by
      have : ∃ v ∈ vs, k v = [] := by
        apply Classical.byContradiction
        intro hn
        exact hall fun v hv e => hn ⟨v, hv, e⟩
      obtain ⟨v, hv, e⟩ := this
      obtain ⟨i, hi⟩ := List.mem_iff_getElem?.mp hv
      have : ∃ f, fs[i]? = some f ∧ f = none := by
        clear hfs typ hall h2
        induction hf generalizing i with
        | nil => simp at hi
        | cons r t ih =>
          cases i with
          | zero =>
            simp at hi
            subst hi
            obtain ⟨a, its, rfl, ht, rfl⟩ := r
            obtain ⟨a', its', e1, ht', hi'⟩ := hp _ List.mem_cons_self
            cases e1
            obtain ⟨o, ho, hc, n, hd⟩ := ht
            obtain ⟨o', ho', hc', n', hd'⟩ := ht'
            rw [ho] at ho'; cases ho'
            rw [hd] at hd'; cases hd'
            rw [e] at hi'
            cases hi'
            exact ⟨_, rfl, rfl⟩
          | succ i =>
            obtain ⟨f, q1, q2⟩ := ih (fun v hv => hp v (List.mem_cons_of_mem _ hv)) (List.mem_of_getElem? (by simpa using hi)) i (by simpa using hi)
            exact ⟨f, by simpa using q1, q2⟩
      obtain ⟨f, q1, rfl⟩ := this
      rw [Bool.eq_false_iff]
      intro ha
      have := (List.all_eq_true.mp (by simpa using ha)) none (List.mem_of_getElem? q1)
      simp at this
    by_cases h0 : ((fs.toArray[0]?).bind id).isSome = true
    · refine ⟨general', .inr (.inr rfl), fun A Q E q => ?_⟩
      rw [PyProof.Rows.kat_kind_eq, List.mapM_toArray, map_eq_pure_bind]
      refine wpAny_bind (wpAny_bind (hfs A E _ (wpAny_pure ?_)))
      rw [if_neg (by rw [hno]; exact Bool.false_ne_true), if_pos h0]
      exact wpAny_pure q
    · refine ⟨oneType', .inr (.inl rfl), fun A Q E q => ?_⟩
      rw [PyProof.Rows.kat_kind_eq, List.mapM_toArray, map_eq_pure_bind]
      refine wpAny_bind (wpAny_bind (hfs A E _ (wpAny_pure ?_)))
      rw [if_neg (by rw [hno]; exact Bool.false_ne_true), if_neg h0]
      rw [oneTypeOnly'_eq, List.mapM_toArray, map_eq_pure_bind]
      refine wpAny_bind (wpAny_bind (wpAny_bind (typ A E _ (wpAny_pure ?_))))
      obtain ⟨v, r, rfl⟩ : ∃ v r, vs = v :: r := by
        cases vs with
        | nil => simp at h2
        | cons v r => exact ⟨v, r, rfl⟩
      have hall2 : ((List.map (fun _ => Value.type "tuple") (v :: r)).toArray.all fun x => x == Value.type "tuple") = true := by
        simp only [List.all_toArray, List.all_map, List.all_eq_true]
        intro _ _
        rfl
      have h00 : (List.map (fun _ => Value.type "tuple") (v :: r)).toArray[0]? = some (Value.type "tuple") := by simp
      rw [h00]
      simp only [hall2, if_true]
      exact wpAny_pure (wpAny_pure q)
theorem sortableT {a : Addr} {vs : List Value} {k : Value → List Int} (hu : A.units < cLine) (h2 : 2 ≤ vs.length) (hp : ∀ v ∈ vs, IsT s.heap v (k v)) (ha : ∀ o, s.heap.get? a = some o → o.cls ≠ .type "tuple") :
    SrtO.SortableO prog w A s a vs fun v u => HT.lexLt (k v) (k u) := by
  intro h' keep
  have hp' : ∀ v ∈ vs, IsT h' v (k v) := fun v hm => (hp v hm).keeps fun b o e c => keep b o (fun z => by subst z; exact ha o e c) e
  obtain ⟨κ, hκ, hk⟩ := kindT (prog := prog) (w := w) (s := { s with heap := h' }) h2 hp'
  refine ⟨κ, fun Q E hq => hk A Q E hq, ?_⟩
  rcases hκ with rfl | rfl | rfl
  · exact cmp_tuples hp'
  · exact cmp_oneType hu hp'
  · exact cmp_general hu hp'
end
section
variable {X : Cx}
theorem asTups_get : ∀ {vs : List PV} {ts : List (List Int)}, asTups vs = some ts → vs = ts.map fun t => PV.tup (t.map .int)
  | [], ts, e => by simp [asTups] at e; subst e; rfl
  | v :: vs, ts, e => by
    cases v with
    | tup ws =>
      simp only [asTups, Option.bind_eq_some_iff, Option.map_eq_some_iff] at e
      obtain ⟨ns, e1, rs, e2, rfl⟩ := e
      rw [List.map_cons, ← asTups_get e2]
      congr 1
      congr 1
      clear e2
      induction ws generalizing ns with
      | nil => simp [asInts] at e1; subst e1; rfl
      | cons w ws ih =>
        cases w with
        | int i =>
          simp only [asInts, Option.map_eq_some_iff] at e1
          obtain ⟨ms, e3, rfl⟩ := e1
          rw [List.map_cons, ← ih ms e3]
        | _ => simp [asInts] at e1
    | _ => simp [asTups] at e
theorem asInts_get : ∀ {vs : List PV} {ns : List Int}, asInts vs = some ns → vs = ns.map .int
  | [], ns, e => by simp [asInts] at e; subst e; rfl
  | w :: ws, ns, e => by
    cases w with
    | int i =>
      simp only [asInts, Option.map_eq_some_iff] at e
      obtain ⟨ms, e3, rfl⟩ := e
      rw [List.map_cons, ← asInts_get e3]
    | _ => simp [asInts] at e
/-- sorted of a list of tuples of ints -/
theorem sort_tups {c : Bool} {pins : List (Addr × Obj)} {σ : L2.St} {H : Hp} {s : Shared} {M : Mp} {cs : Cs} {a : Addr} {xs : List V} {ts : List (List Int)} {u : Value} {Q : VK} (hu : X.A.units + 65 < cLine) (I : Inv X pins σ H s) (r : RelV (.ref a) u)
    (cr : CelR X.K H M cs) (h : SqL X.K H a xs) (hz : xs.length ≤ LIM) (hv : VRs X.K H M (ts.map fun t => PV.tup (t.map .int)) xs)
    (q : ∀ H' M' u, Ex H M H' M' → CelR X.K H' M' (alc c ((ts.mergeSort lexLe).map fun t => PV.tup (t.map .int)) cs).2 → VR X.K H' M' (alc c ((ts.mergeSort lexLe).map fun t => PV.tup (t.map .int)) cs).1 u → Q u H') :
    wpAny (model X.prog X.w) X.A (call (.builtin "sorted") [u]) (EP X pins σ Q) X.xe s := by
  cases r
  obtain ⟨its, rv, hl, hzl⟩ := I.list h
  have hx : ∀ x ∈ xs, ∃ t, x = V.ref t := fun x hx => by
    obtain ⟨i, hi⟩ := List.mem_iff_getElem?.mp hx
    obtain ⟨v, h1, h2⟩ := hv.get' hi
    rw [List.getElem?_map, Option.map_eq_some_iff] at h1
    obtain ⟨t, _, rfl⟩ := h1
    simp only [VR] at h2
    obtain ⟨b, _, rfl, _⟩ := h2
    exact ⟨b, rfl⟩
  obtain ⟨e1, e2⟩ := refs_back rv hx
  have hT : ∀ (i : Nat) (v : Value) (t : List Int), its[i]? = some v → ts[i]? = some t → IsT s.heap v t ∧ VR X.K H M (.tup (t.map .int)) (backV v) := fun i v t hi ht => by
    have h1 : (ts.map fun t => PV.tup (t.map .int))[i]? = some (.tup (t.map .int)) := by rw [List.getElem?_map, ht]; rfl
    obtain ⟨x, h2, h3⟩ := hv.get h1
    rw [e1, List.getElem?_map, hi] at h2
    cases h2
    refine ⟨?_, h3⟩
    obtain ⟨b, rfl⟩ := e2 v (List.mem_of_getElem? hi)
    simp only [backV, VR] at h3
    obtain ⟨b', zs, e, k1, k2, k3⟩ := h3
    cases e
    obtain ⟨its2, rv2, ht2, _⟩ := I.tuple k1
    have e3 := k3.ints (ns := t) (by
      clear k3 h1 ht
      induction t with
      | nil => rfl
      | cons n t ih => simp [asInts, ih])
    subst e3
    exact ⟨b, its2, rfl, ht2, rv2.ints⟩
  have hlen : its.length = ts.length := by rw [← rv.length, ← hv.length, List.length_map]
  have hk : ∀ v ∈ its, IsT s.heap v (kOf s.heap v) := fun v hv => by
    obtain ⟨i, hi⟩ := List.mem_iff_getElem?.mp hv
    have hi' : i < ts.length := by rw [← hlen]; exact (List.getElem?_eq_some_iff.mp hi).1
    have := (hT i v _ hi (List.getElem?_eq_getElem hi')).1
    rw [this.k]; exact this
  have hmap : its.map (kOf s.heap) = ts := by
    apply List.ext_getElem?
    intro i
    rw [List.getElem?_map]
    cases hi : its[i]? with
    | none =>
      have : ts[i]? = none := by
        rw [List.getElem?_eq_none_iff] at hi ⊢
        omega
      rw [this]; rfl
    | some v =>
      have hi' : i < ts.length := by rw [← hlen]; exact (List.getElem?_eq_some_iff.mp hi).1
      have := (hT i v _ hi (List.getElem?_eq_getElem hi')).1
      rw [List.getElem?_eq_getElem hi']
      show some (kOf s.heap v) = _
      rw [this.k]
  refine SrtO.sorted_ord (swo_lexT (kOf s.heap)) hl.isList (by rw [← rv.length]; exact hzl) (fun h2 h₁ a' ha kk => ?_) fun out h1 h2 => ?_
  · refine sortableT (A := X.A.in1.in1) (s := { s with heap := h₁ }) (by show X.A.units + 1 + 1 < cLine; omega) h2 (fun v hv => (hk v hv).keeps fun b o e _ => (kk b o e).2) fun o e => ?_
    have e' : some o = some (seqObj "list" its.toArray 0) := e.symm.trans ha
    cases e'
    intro c
    exact absurd (Value.type.inj c) (by decide)
  · obtain ⟨ep, he'⟩ := PyProof.Rows.sortedAll_at s.heap its out.toArray
    have hp := h2.perm
    have hm : out.map (kOf s.heap) = ts.mergeSort lexLe := by
      refine sorted_isT ?_ ?_
      · rw [← hmap]; exact hp.map _
      · exact List.pairwise_map.mpr h1
    have h3 : ∀ u ∈ out, ∃ a, u = Value.ref a := fun u hu => e2 u (hp.mem_iff.mp hu)
    have hol : (out.map backV).length = xs.length := by rw [List.length_map, hp.length_eq, rv.length]
    have vr : VRs X.K H M ((ts.mergeSort lexLe).map fun t => PV.tup (t.map .int)) (out.map backV) := by
      rw [← hm]
      refine VRs.of (by simp) fun i v x h1 h2 => ?_
      rw [List.getElem?_map, List.getElem?_map] at h1
      rw [List.getElem?_map] at h2
      cases ho : out[i]? with
      | none => rw [ho] at h1; cases h1
      | some o =>
        rw [ho] at h1 h2
        cases h1
        cases h2
        obtain ⟨j, hj⟩ := List.mem_iff_getElem?.mp (hp.mem_iff.mp (List.mem_of_getElem? ho))
        have hj' : j < ts.length := by rw [← hlen]; exact (List.getElem?_eq_some_iff.mp hj).1
        obtain ⟨q1, q2⟩ := hT j o _ hj (List.getElem?_eq_getElem hj')
        rw [q1.k]
        exact q2
    have hfr : H (s.heap.objs.size + 1) = none := I.hok.fresh (Nat.le_succ _)
    obtain ⟨M', e3, c', w⟩ := new_alc c cr hfr vr (by rw [hol]; exact hz)
    exact ⟨.ref _, upd H (s.heap.objs.size + 1) (.lst (out.map backV)), I.laid (t' := s.toks) (fun _ _ => PyProof.Rows.sortedAll_old) (Nat.le_succ _) ⟨by rw [hol, ← LIM_eq]; exact hz, out, ep, vals_back h3, he'⟩, rfl, q _ M' _ e3 c' w⟩
theorem blt_sorted {c : Bool} (hu : X.A.units + 65 < cLine) : CallR X (.builtin "sorted") (rF X.K .sorted c) := by
  intro pins s σ H xs us Q I r h
  obtain ⟨M, cs, vs, z, cs', cr, hv, e, q⟩ := h
  unfold bltO at e
  split at e <;> try (first | (simp at e; done) | (rename_i h; cases h; done))
  obtain ⟨x, rfl, h1⟩ := vrs1 hv
  simp only [Option.bind_eq_some_iff, Option.map_eq_some_iff] at e
  obtain ⟨ws, e1, ys, e2, e3⟩ := e
  obtain ⟨p, zs, rfl, h2, h3, h4⟩ := asR_ok cr h1 e1
  obtain ⟨u, rfl, ru⟩ := vals1 r
  unfold sortO at e2
  split at e2
  · rename_i ns hns
    cases e2
    have e4 := h4.ints hns
    subst e4
    refine cr_sortedI pins s σ H _ _ Q I r ⟨p, ns, rfl, h2, fun ns' r' hp hs hr => ?_⟩
    have := sorted_isI hp hs
    subst this
    obtain ⟨M', e5, c', w⟩ := new_alc c cr hr (VRs.of_ints (K := X.K) (H := H) (M := M) _) (by rw [List.length_map, hp.length_eq]; rw [List.length_map] at h3; exact h3)
    rw [e3] at c' w
    exact q _ M' _ e5 c' w
  · simp only [Option.map_eq_some_iff] at e2
    obtain ⟨ts, hts, rfl⟩ := e2
    have := asTups_get hts
    subst this
    refine sort_tups (c := c) hu I ru cr h2 h3 h4 ?_
    rw [e3]
    exact q
end
end Ev
end

section
set_option maxHeartbeats 4000000
/-! calls with the guards known; what a def promises -/
namespace Ev
open PySem L2 PyProof.Rows
/-- a def's promise: arguments, heap, the wanted end; nothing is raised -/
abbrev SpG := List V → Hp → VK → Prop
def EndG (outer : List Env) (P : Program) (w : World) (H : Hp) (s : Shared) (Q : VK) (r : Result) (s' : Shared) : Prop :=
  match r with
  | .ok (.ret u) => L2.CE outer P w H s Q u s'
  | _ => False
/-- such a def, called where no guard stands around -/
structure FnG (P : Program) (w : World) (K : PySem.W.Frag) (mg : Str → Option Value) (base : Heap) (k : Nat) (f : Addr) (fd : FuncData) (ps : List Str) (sp : SpG) : Prop where
  len : ∀ vs H Q, sp vs H Q → vs.length = ps.length
  run : ∀ (A : Around) (outer : List Env) (s : Shared) (H : Hp) (args : Args) (us : List Value) (vs : List V) (Q : VK), Room k A → A.guards = some [] → Env0 P w K mg base A outer s H → BindsTo s fd args (ps.zip us) → Vals vs us → sp vs H Q →
    codeAny (model P w) A (.call (.ref f) args) (EndG outer P w H s Q) s
/-- how a call binds: n positional values, keywords ks; pm: which of all of them goes to which parameter -/
def pick {α : Type} (d : α) (pm : List Nat) (l : List α) : List α := pm.map fun i => l.getD i d
theorem pick_vals {vs : List V} {us : List Value} (pm : List Nat) (h : Vals vs us) : Vals (pick .non pm vs) (pick .none pm us) := by
  induction pm with
  | nil => exact .nil
  | cons i r ih =>
    refine .cons ?_ ih
    cases e : vs[i]? with
    | none =>
      have e2 : us[i]? = none := h.none_of e
      simp only [List.getD, e, e2, Option.getD_none]
      rfl
    | some v =>
      obtain ⟨u, h1, h2⟩ := h.get e
      simp only [List.getD, e, h1, Option.getD_some]
      exact h2
def BindG (K : PySem.W.Frag) (fd : FuncData) (ps : List Str) (n : Nat) (ks : List Str) (pm : List Nat) : Prop :=
  ∀ (s : Shared) (us ws : List Value), us.length = n → ws.length = ks.length → BindsTo s fd ⟨us, ks.zip ws⟩ (ps.zip (pick .none pm (us ++ ws)))
def notStar : Expr → Bool
  | .Starred _ _ => false
  | _ => true
theorem star_cons {e : Expr} {es : List Expr} {env : Env} (h : notStar e = true) : starEach (e :: es) env = (false, eval e env) :: starEach es env := by
  cases e <;> first | rfl | (simp [notStar] at h)
theorem star_all : ∀ {es : List Expr} {env : Env} {pos : Pos}, es.all notStar = true → (backTo pos (starEach es env)).any (·.1) = false
  | [], _, _, _ => rfl
  | e :: es, env, pos, h => by
    rw [List.all_cons, Bool.and_eq_true] at h
    rw [star_cons h.1]
    show (false || (backTo pos (starEach es env)).any (·.1)) = false
    rw [star_all h.2]
    rfl
theorem kw_all : ∀ {kws : List Keyword} {env : Env} {pos : Pos} {ks : List Str}, kws.map (·.arg) = ks.map some → (backToKw pos (keywordEach kws env)).all (·.1.isSome) = true ∧ (backToKw pos (keywordEach kws env)).filterMap (·.1) = ks ∧ (backToKw pos (keywordEach kws env)).any (·.1.isNone) = false
  | [], _, _, [], _ => ⟨rfl, rfl, rfl⟩
  | [], _, _, _ :: _, h => by simp at h
  | _ :: _, _, _, [], h => by simp at h
  | ⟨nm, e, p⟩ :: kws, env, pos, k :: ks, h => by
    simp only [List.map_cons, List.cons.injEq] at h
    obtain ⟨h1, h2⟩ := h
    subst h1
    obtain ⟨a, b, c⟩ := kw_all (env := env) (pos := pos) h2
    refine ⟨?_, ?_, ?_⟩
    · show (true && (backToKw pos (keywordEach kws env)).all (·.1.isSome)) = true
      rw [a]; rfl
    · show k :: (backToKw pos (keywordEach kws env)).filterMap (·.1) = k :: ks
      rw [b]
    · show (false || (backToKw pos (keywordEach kws env)).any (·.1.isNone)) = false
      rw [c]; rfl
section
variable {X : Cx} {k : Nat} {f : Addr} {fd : FuncData} {ps ks : List Str} {sp : SpG} {x : Str} {p pos : Pos} {es : List Expr} {kws : List Keyword} {t tk : TA} {pm : List Nat}
theorem run_fnG {pins : List (Addr × Obj)} {σ : L2.St} {H : Hp} {s : Shared} {Q : VK} {us ws : List Value} {vs : List V} (F : FnG X.prog X.w X.K X.mg X.base k f fd ps sp) (hr : Room k X.A) (hg : X.A.guards = some [])
    (hb : BindG X.K fd ps us.length ks pm) (hw : ws.length = ks.length) (I : Inv X pins σ H s) (r : Vals vs (us ++ ws)) (h : sp (pick .non pm vs) H Q) : wpAny (model X.prog X.w) X.A (call (.ref f) us (ks.zip ws)) (EP X pins σ Q) X.xe s := by
  refine wpAny_call (codeAny_mono (F.run X.A X.stack s H ⟨us, ks.zip ws⟩ (pick .none pm (us ++ ws)) (pick .non pm vs) Q hr hg I.env0 (hb s us ws rfl hw) (pick_vals pm r) h) fun r s' hq => ?_)
  cases r with
  | error e => exact False.elim hq
  | ok fl =>
    cases fl with
    | ret u => exact I.after hq
    | next => exact False.elim hq
    | brk => exact False.elim hq
    | cont => exact False.elim hq
/-- f(e, .., k = v, ..) -/
def tCallG (sp : SpG) (n : Nat) (m : Nat) (pm : List Nat) (t tk : TA) : TE := fun σ H Q => t σ H fun vs H1 => vs.length = n ∧ tk σ H1 fun zs H2 => zs.length = m ∧ sp (pick .non pm (vs ++ zs)) H2 Q
theorem pe_callG1 {e : Expr} (F : FnG X.prog X.w X.K X.mg X.base k f fd ps sp) (hr : Room k X.A) (hgd : X.A.guards = some []) (hg : Gl X x) (hm : X.mg x = some (.ref f)) (hk : PySem.W.keepIn X.K (.ref f) = true) (hb : BindG X.K fd ps (e :: es).length ks pm)
    (ha : PA X (e :: es) t) (hkw : PK X kws tk) (hst : (e :: es).all notStar = true) (hks : kws.map (·.arg) = ks.map some) (hdb : (x == ("__debug__" : Str)) = false) :
    PE X (.Call (.Name x p) (e :: es) kws pos) (tCallG sp (e :: es).length ks.length pm t tk) := by
  refine ⟨fun pins s σ H Q I h => ?_⟩
  obtain ⟨ka, kb, kc⟩ := kw_all (env := X.env) (pos := pos) hks
  refine wpAny_Call_Name_kw (ld_glob I hg hm ?_ hdb)
  have hst' := hst
  rw [List.all_cons, Bool.and_eq_true] at hst'
  refine PySem.W.callWith_KW (h₀ := X.base) I.ok.mod.kin hk ka (thn (ha.run pos pins s σ H _ I h) fun us s1 ⟨vs, H1, I1, r, l1, q⟩ => ?_) (by rw [star_all hst, kc]; rfl) (star_cons hst'.1)
  refine thn (hkw.run pos pins s1 σ H1 _ I1 q) fun ws s2 ⟨zs, H2, I2, rz, l2, q2⟩ => ⟨I2.kIn, ?_⟩
  rw [kb, List.nil_append]
  exact run_fnG F hr hgd (by rw [← r.length, l1]; exact hb) (by rw [← rz.length]; exact l2) I2 (r.append rz) q2
theorem pe_callG0 (F : FnG X.prog X.w X.K X.mg X.base k f fd ps sp) (hr : Room k X.A) (hgd : X.A.guards = some []) (hg : Gl X x) (hm : X.mg x = some (.ref f)) (hk : PySem.W.keepIn X.K (.ref f) = true) (hb : BindG X.K fd ps 0 ks pm)
    (hkw : PK X kws tk) (hks : kws.map (·.arg) = ks.map some) (hdb : (x == ("__debug__" : Str)) = false) :
    PE X (.Call (.Name x p) [] kws pos) (tCallG sp 0 ks.length pm tNil tk) := by
  refine ⟨fun pins s σ H Q I h => ?_⟩
  obtain ⟨ka, kb, kc⟩ := kw_all (env := X.env) (pos := pos) hks
  refine wpAny_Call_Name_kw (ld_glob I hg hm ?_ hdb)
  obtain ⟨_, q⟩ := h
  refine PySem.W.callWith_KW0 (h₀ := X.base) I.ok.mod.kin hk ka (thn (hkw.run pos pins s σ H _ I q) fun ws s2 ⟨zs, H2, I2, rz, l2, q2⟩ => ⟨I2.kIn, ?_⟩) (by rw [kc]; rfl)
  rw [kb, List.nil_append]
  exact run_fnG F hr hgd hb (by rw [← rz.length]; exact l2) I2 (Vals.append .nil rz) q2
end
/-! ### a def by its body -/
/-- the context of a body -/
abbrev cxG (P : Program) (w : World) (K : PySem.W.Frag) (mg : Str → Option Value) (base : Heap) (N : List Str) (qual : Str) (scope : Scope) (f : Addr) (cd : Value) (A : Around) (outer : List Env) (s : Shared) (H : Hp) : Cx :=
  (cxOf CX0 P w K mg base N qual scope f cd A outer s H fun _ _ _ => False).nox
theorem fnG_of {P : Program} {w : World} {K : PySem.W.Frag} {mg : Str → Option Value} {base : Heap} {k : Nat} {f : Addr} {x qual : Str} {params : Arguments} {body : List Stmt} {scope : Scope} {dvs : List V} {kws : List (Str × V)} {fd : FuncData} {N ps : List Str} {sp : SpG}
    (F : FunD K x qual params body scope dvs kws f fd) (S : FnScope N ps scope) (len : ∀ vs H Q, sp vs H Q → vs.length = ps.length)
    (hbody : ∀ (cdv : Value) (A : Around) (outer : List Env) (s : Shared) (H : Hp) (vs : List V) (Q : VK), Room k (A.deeper (envOfC qual scope s.heap.objs.size f cdv)) → A.guards = some [] → sp vs H Q →
      ∃ t, PSs (cxG P w K mg base N qual scope f cdv A outer s H) body t ∧ t { nx := fun _ H' => Q .non H', rt := Q } (start N vs) H) : FnG P w K mg base (k + 1) f fd ps sp := by
  obtain ⟨oc, od, dV, kV, doc, pm, an, cdv, ct, osl, rfl, lk, hcd, _, _⟩ := F.ex
  refine ⟨len, fun A outer s H args us vs Q hr hg e0 hb r hsp => ?_⟩
  have hl := len _ _ _ hsp
  have keep : ∀ b o, base.get? b = some o → s.heap.get? b = some o := fun b o q => (e0.bs b o q).1
  have kin : K.In s.heap := e0.mod.kin.keeps keep
  have lim : s.heap.NoLimit := e0.mod.nolimit.keeps keep
  have kinds : ∀ y ∈ ps.zip us, scope.names.lookup y.1 = some .local ∨
      (scope.names.lookup y.1 = some .cell ∧ ((cellsFrom (s.heap.objs.size + 1) scope.names []).lookup y.1).isSome = true) := by
    rintro ⟨n, v⟩ hy
    cases S.par n (List.of_mem_zip hy).1 with
    | inl q => exact .inl q
    | inr q => exact .inr ⟨q, PySem.W.cellsFrom_some _ _ _ (.inl q)⟩
  have room := hr.deeper (envOfC qual scope s.heap.objs.size f cdv)
  obtain ⟨t, ht, hq⟩ := hbody cdv A outer s H vs Q room hg hsp
  refine codeAny_call_function hr.depth (kin _ _ lk) rfl S.co S.gen rfl
    (PySem.W.codeRec_of kin hcd) (hb _ _ _ _ ?_)
  refine wpAny_newFunctionEnv_cells S.kind kinds fun env he s1 ic => ?_
  subst he
  refine ⟨lim.keeps ic.toInCall.keep, codeAny_func ?_⟩
  have I := inv_start (CX := CX0) (P := P) (E := fun _ _ _ => False) S hr.hd e0 hl r ic
  refine wpAny_mono (ht.run [] s1 (start N vs) H _ (I.wish fun _ _ => False) hq) (fun fl s' hs => ?_) fun _ _ hs => hs.elim
  cases fl with
  | ret u =>
    obtain ⟨v, σ', H', J, rv, q⟩ := hs
    exact ⟨v, H', J.os, J.bare, J.base, J.hok, rv, q⟩
  | next =>
    obtain ⟨σ', H', J, q⟩ := hs
    exact ⟨V.non, H', J.os, J.bare, J.base, J.hok, rfl, q⟩
  | brk =>
    obtain ⟨_, _, _, q⟩ := hs
    exact False.elim q
  | cont =>
    obtain ⟨_, _, _, q⟩ := hs
    exact False.elim q
/-! ### the law's call -/
section
variable {P : Program} {w : World} {K : PySem.W.Frag} {mg mb : Str → Option Value} {k : Nat} {fa a : Addr} {fd : FuncData} {x : Str} {sp : Heap → SpG} {s₁ : Shared} {vs : List Value} {ns : List Int}
/-- from one abstract heap: nothing but the script is tracked -/
theorem law_core {H : Hp} (hO : Only H) (hS : SqL K H a (ns.map V.int)) (hok : HOk P w H s₁.heap) (hA : ∀ b, H b ≠ none → b = a) (hK : H a ≠ none → K.lookup a = none)
    (ha : s₁.heap.get? a = some { cls := .type "list", data := .seq vs.toArray })
    (KX : K.In s₁.heap) (hns : s₁.heap.Ns mainGlobals mg) (hb : s₁.heap.Ns builtinsNs mb) (hbb : ∀ x : Str, x ≠ "__name__" → mb x = bootBuiltins x) (hlim : s₁.heap.NoLimit) {mm : Str → Option Value} (hsm : s₁.heap.Ns sysModules mm) (hg : s₁.gens = #[]) (hr : Room k callerA)
    (F : ∀ base : Heap, K.In base → base.Ns mainGlobals mg → base.Ns sysModules mm → FnG P w K mg base k fa fd [x] (sp base)) (hbind : ∀ (s : Shared) (u : Value), BindsTo s fd ⟨[u], []⟩ [(x, u)])
    (hsp : ∀ base, sp base [.ref a] H fun v _ => v = .bl true) :
    codeAny (model P w) callerA (.call (.ref fa) ⟨[.ref a], []⟩) (fun r s' => r = .ok (.ret (.bool true)) ∧ OldK s₁.heap s'.heap ∧ s'.os = s₁.os ∧ AllBare s'.gens) s₁ := by
  have here : ∀ {b : Addr} {o : Obj}, s₁.heap.get? b = some o → H b = none → (hidT s₁.heap H).get? b = some o := fun e n => hidT_get e n
  have other : ∀ {b : Addr}, b ≠ a → H b = none := fun {b} hb => by
    cases q : H b with
    | none => rfl
    | some u => exact absurd (hA b (by rw [q]; simp)) hb
  have ns_of : ∀ {b : Addr} {m : Str → Option Value}, s₁.heap.Ns b m → (hidT s₁.heap H).Ns b m := by
    rintro b m ⟨o, es, ep, e, d, r⟩
    refine ⟨o, es, ep, here e (other ?_), d, r⟩
    rintro rfl
    rw [ha] at e
    cases e
    simp at d
  have kin : K.In (hidT s₁.heap H) := fun b o e => by
    refine here (KX b o e) ?_
    cases q : H b with
    | none => rfl
    | some u =>
      have hba : b = a := hA b (by rw [q]; simp)
      subst hba
      rw [hK (by rw [q]; simp)] at e
      cases e
  have md : Mod K mg (hidT s₁.heap H) := by
    obtain ⟨mc, l1, l2⟩ := hlim
    exact ⟨kin, ns_of hns, ⟨mb, ns_of hb, hbb⟩, ⟨mc, ns_of l1, l2⟩⟩
  have e0 : Env0 P w K mg (hidT s₁.heap H) callerA [] s₁ H := by
    refine ⟨rfl, md, fun b o e => of_hidT e, Nat.le_of_eq (hidT_size _ _), trivial, ?_, hok, .of_eq hg⟩
    intro b hb
    exact absurd (show b ∈ ([] : List Addr) from hb) (by simp)
  have run := (F _ kin (ns_of hns) (ns_of hsm)).run callerA [] s₁ H ⟨[.ref a], []⟩ [.ref a] [.ref a]
    (fun v _ => v = .bl true) hr rfl e0 (hbind s₁ (.ref a)) (.cons rfl .nil) (hsp _)
  refine codeAny_mono run fun r s' h => ?_
  cases r with
  | error e => exact False.elim h
  | ok fl =>
    cases fl with
    | next => exact False.elim h
    | brk => exact False.elim h
    | cont => exact False.elim h
    | ret u =>
      obtain ⟨v, H', os, bare, un, hok', r', q⟩ := h
      subst q
      have eu : u = Value.bool true := r'
      subst eu
      refine ⟨rfl, OldK.of_keep fun b o e => ?_, os, bare⟩
      rcases hO b with q | ⟨ob, xs, q⟩
      · exact un.keep b o e q (fun z => absurd (show b ∈ ([] : List Addr) from z) (by simp)) (by simp)
      · obtain ⟨e1, _⟩ := hok b _ q
        obtain ⟨e2, _⟩ := hok' b _ (un.frzs b ob _ q)
        rw [e] at e1
        cases e1
        exact e2
end
end Ev
end

section
set_option maxHeartbeats 4000000
/-! isinstance, reversed slices, stores into lists, append, extend -/
namespace Ev
open PySem L2 PyProof.Rows
def tyName : PV → String
  | .non => "NoneType"
  | .bl _ => "bool"
  | .int _ => "int"
  | .str _ => "str"
  | .tup _ => "tuple"
  | .lst _ => "list"
  | .par _ => "list"
  | .ref _ => "list"
  | .dct0 => "dict"
section
variable {K : PySem.W.Frag} {H : Hp} {M : Mp} {cs : Cs}
theorem tyX_of {v : PV} {x : V} (c : CelR K H M cs) (h : VR K H M v x) : TyX K H x (.type (tyName v)) := by
  cases v with
  | non => rw [pv_non h]; exact .base .non
  | bl b => rw [pv_bl h]; exact .base (.bl b)
  | int i => rw [pv_int h]; exact .base (.int i)
  | str s => rw [pv_str h]; exact .base (.str s)
  | tup vs =>
    simp only [VR] at h
    obtain ⟨a, xs, rfl, h1, _⟩ := h
    rcases h1 with (h1 | ⟨o, h1⟩) | ⟨o, its, n, h1, h2, _⟩
    · exact .base (.tup h1)
    · exact .fTuple h1
    · exact .kTuple h1 h2
  | lst vs =>
    simp only [VR] at h
    obtain ⟨a, xs, rfl, h1, _⟩ := h
    exact .base (.lst h1.2)
  | par vs =>
    simp only [VR] at h
    obtain ⟨a, xs, rfl, h1, _⟩ := h
    rcases h1 with ⟨_, h1 | ⟨o, h1⟩⟩ | ⟨o, its, n, h1, h2, _⟩
    · exact .base (.lst h1)
    · exact .base (.frz h1)
    · exact .kList h1 h2
  | dct0 =>
    simp only [VR] at h
    obtain ⟨a, rfl, _, h2⟩ := h
    exact .base (.dK h2)
  | ref n =>
    simp only [VR] at h
    obtain ⟨a, ha, rfl⟩ := h
    have hn : n < cs.length := by rw [← c.len]; exact (List.getElem?_eq_some_iff.mp ha).1
    obtain ⟨a', xs, e1, e2, _⟩ := c.at' n _ (List.getElem?_eq_getElem hn)
    rw [ha] at e1; cases e1
    exact .base (.lst e2)
def tyNs : List String := ["NoneType", "bool", "int", "str", "tuple", "list", "dict"]
def tyTs : List String := ["int", "bool", "str", "tuple", "list", "dict"]
def tyIsN (n t : String) : Bool :=
  (n == "int" && t == "int") || (n == "bool" && (t == "int" || t == "bool")) || (n == "str" && t == "str") || (n == "tuple" && t == "tuple") || (n == "list" && t == "list") || (n == "dict" && t == "dict")
theorem kitB_all : (tyNs.all fun n => tyTs.all fun t => kitB n t == some (tyIsN n t)) = true := by decide +kernel
theorem boot_tys : (tyTs.all fun t => bootBuiltins (Str.ofString t) == some (.type t)) = true := by decide +kernel
theorem tyName_mem (v : PV) : tyName v ∈ tyNs := by cases v <;> simp [tyName, tyNs]
theorem tyIs_eq (v : PV) {t : String} (ht : t ∈ tyTs) : tyIsN (tyName v) t = tyIs v t := by
  simp only [tyTs, List.mem_cons, List.not_mem_nil, or_false] at ht
  rcases ht with rfl | rfl | rfl | rfl | rfl | rfl <;> cases v <;> rfl
theorem kitB_ok {v : PV} {t : String} (ht : t ∈ tyTs) : kitB (tyName v) t = some (tyIs v t) := by
  have h := List.all_eq_true.mp (List.all_eq_true.mp kitB_all _ (tyName_mem v)) _ ht
  rw [tyIs_eq v ht] at h
  simpa using h
theorem kitAny_ok {v : PV} : ∀ {ts : List String}, (∀ t ∈ ts, t ∈ tyTs) → PySem.W.kitAny K (.type (tyName v)) (ts.map .type) = some (ts.any (tyIs v))
  | [], _ => rfl
  | t :: ts, h => by
    rw [List.map_cons, List.any_cons]
    refine kitAny_cons (kit_ty (kitB_ok (v := v) (h t List.mem_cons_self))) (fun e => ?_) (fun e => ?_)
    · rw [e, Bool.false_or]
      exact kitAny_ok fun u hu => h u (List.mem_cons_of_mem _ hu)
    · rw [e]; rfl
end

/-! ### t[::-1] -/
section
variable {prog : Program} {w : World} {A : Around} {E : Value → Shared → Prop} {s : Shared}
theorem adjust_rev (n : Nat) : Builtin.Slice.sliceAdjust none none (-1) (n : Int) = ((n : Int) - 1, -1) := by
  first
    | rfl
    | (unfold Builtin.Slice.sliceAdjust; simp)
theorem places_rev (n : Nat) : Builtin.Slice.slicePlaces ((n : Int) - 1) (-1) (-1) = n := by
  unfold Builtin.Slice.slicePlaces
  simp
  try omega
theorem fm_congr {α β : Type} {f g : α → Option β} : ∀ {l : List α}, (∀ a ∈ l, f a = g a) → l.filterMap f = l.filterMap g
  | [], _ => rfl
  | a :: l, h => by
    rw [List.filterMap_cons, List.filterMap_cons, h a List.mem_cons_self, fm_congr fun b hb => h b (List.mem_cons_of_mem _ hb)]
theorem pick_rev (xs : Array Value) : ((List.range xs.size).filterMap fun (m : Nat) => xs[(((xs.size : Int) - 1) + (m : Int) * (-1)).toNat]?).toArray = xs.toList.reverse.toArray := by
  rw [← PySem.W.krv_all xs, ← List.filterMap_reverse, ← PySem.W.krv_range, List.filterMap_map]
  congr 1
  refine fm_congr fun m hm => ?_
  have := List.mem_range.mp hm
  have e : (((xs.size : Int) - 1) + (m : Int) * (-1)).toNat = xs.size - 1 - m := by omega
  rw [e]
  rfl
theorem applied_rev {sl : Addr} {vs : Value} {n : Nat} {Q : Int × Int × Nat → Shared → Prop} (hs : s.heap.IsSliceOf sl .none .none vs) (ps : IsPart vs (some (-1)))
    (h : Q ((n : Int) - 1, -1, n) s) : wpAny (model prog w) A (Builtin.Slice.sliceApplied (.ref sl) (pure (n : Int))) Q E s := by
  obtain ⟨os, hos, hcs, hds⟩ := id hs
  unfold Builtin.Slice.sliceApplied Builtin.Slice.sliceFields
  refine wpAny_bind (wpAny_bind (wpAny_field hos hds (x := .none) rfl (wpAny_bind (wpAny_field hos hds (x := .none) rfl (wpAny_bind (wpAny_field hos hds (x := vs) rfl (wpAny_pure ?_)))))))
  refine wpAny_bind (HT.slicePart_ ps ?_)
  show wpAny _ _ (if ((-1 : Int) == 0) = true then _ else _) _ _ s
  rw [if_neg (by decide)]
  refine wpAny_bind (HT.slicePart_ .none (wpAny_bind (HT.slicePart_ .none (wpAny_bind (wpAny_pure ?_)))))
  show wpAny _ _ (match Builtin.Slice.sliceAdjust none none (-1) (n : Int) with | (lo, hi) => pure (lo, (-1 : Int), Builtin.Slice.slicePlaces lo hi (-1))) _ _ s
  rw [adjust_rev n]
  show wpAny _ _ (pure (((n : Int) - 1), (-1 : Int), Builtin.Slice.slicePlaces ((n : Int) - 1) (-1) (-1))) _ _ s
  rw [places_rev]
  exact wpAny_pure h
theorem getItem_tuple_rev {t sl : Addr} {items : Array Value} {vs : Value} {Q : Value → Shared → Prop} (ht : IsTup s.heap t items) (hs : s.heap.IsSliceOf sl .none .none vs) (ps : IsPart vs (some (-1)))
    (h : Q (.ref s.heap.objs.size) { s with heap := s.heap.push { cls := .type "tuple", data := .seq items.toList.reverse.toArray } })
    (hsz : items.size ≤ sizeLine) : wpAny (model prog w) A (getItem (.ref t) (.ref sl)) Q E s := by
  have htake : sizeOk (.seq items.toList.reverse.toArray) := by
    show items.toList.reverse.toArray.size ≤ sizeLine
    rw [List.size_toArray, List.length_reverse, Array.length_toList]
    exact hsz
  obtain ⟨os, hos, hcs, hds⟩ := id hs
  have hTs : s.TypeIs (.ref sl) "slice" := ⟨os, hos, hcs⟩
  unfold getItem
  try with_reducible refine wpAny_holding ?_
  first | refine wpAny_bind (wpAny_pure ?_) | skip
  refine wpAny_bind (wpAny_sequenceKey ht.typeIs (by decide) ?_)
  refine wpAny_bind (wpAny_callSpecial?_slot (name := Str.ofString "__getitem__") ht.typeIs PyProof.Rows.slot_tuple_getitem
    (wpAny_call_entry PyProof.Rows.slot_tuple_getitem ht.typeIs entry_tuple_getitem ?_ (args_tuple_getitem _ _)))
  show wpAny _ _ (Builtin.Tuple.tupleItemsOf (.ref t) >>= _) _ _ s
  refine wpAny_bind (tupleItemsOf_ ht ?_)
  refine wpAny_bind (wpAny_typeOf hTs ?_)
  rw [if_pos (by decide)]
  refine wpAny_bind (applied_rev hs ps ?_)
  have hno : ¬ (((((items.size : Int) - 1) == 0 && (-1 : Int) == 1) && items.size == items.size) = true) := by simp
  show wpAny _ _ (if ((((items.size : Int) - 1) == 0 && (-1 : Int) == 1) && items.size == items.size) = true then _ else _) _ _ s
  rw [if_neg hno, pick_rev]
  first
    | exact wpAny_bind (m := Builtin.Tuple.tupleExact _) (wpAny_newObj_type (wpAny_pure ⟨_, rfl, wpAny_pure h⟩) htake)
    | exact wpAny_bind (m := Builtin.Tuple.tupleExact _) (wpAny_newObj_type (wpAny_bind (wpAny_pure (wpAny_pure ⟨_, rfl, wpAny_pure h⟩))) htake)
    | exact wpAny_bind (wpAny_bind (m := Builtin.Tuple.tupleExact _) (wpAny_newObj_type (wpAny_pure (wpAny_pure ⟨_, rfl, wpAny_pure h⟩)) htake))
    | exact wpAny_bind (wpAny_bind (m := Builtin.Tuple.tupleExact _) (wpAny_newObj_type (wpAny_pure ⟨_, rfl, wpAny_pure h⟩) htake))
end
section
variable {X : Cx}
/-- e[::-1], a list or a tuple -/
def tRevA (K : PySem.W.Frag) (te : TE) : TE := fun σ H Q => te σ H fun x H1 => ∃ a xs, x = .ref a ∧ ((SqL K H1 a xs ∧ ∀ p, H1 p = none → Q (.ref p) (upd H1 p (.lst xs.reverse))) ∨ (SqT K H1 a xs ∧ ∀ p, H1 p = none → Q (.ref p) (upd H1 p (.tup xs.reverse))))
theorem pe_revA {e : Expr} {te : TE} {k : Nat} {p1 p2 p3 pos : Pos} (he : PE X e te) : PE X (.Subscript e (.Slice none none (some (.UnaryOp .USub (.Constant (.int 1) k p1) p2)) p3) pos) (tRevA X.K te) := by
  refine ⟨fun pins s σ H Q I h => ?_⟩
  refine Subscript_ (thn (he.run pins s σ H _ I h) fun v s1 ⟨x, H1, I1, r1, q1⟩ => ?_)
  obtain ⟨a, xs, ex, q⟩ := q1
  subst ex
  cases r1
  have hst : PO X (some (.UnaryOp .USub (.Constant (.int 1) k p1) p2)) (tPart (tUn (rU fun i => .int (-i)) (tC (.int 1)))) := po_some (pe_un un_neg pe_int)
  refine wpAny_Slice (thn (po_none.run pins s1 σ H1 (fun o H2 => o = none ∧ H2 = H1) I1 ⟨rfl, rfl⟩) fun vl s2 ⟨l, H2, I2, pl, el, e2⟩ => ?_)
  subst el e2
  refine thn (po_none.run pins s2 σ H2 (fun o H3 => o = none ∧ H3 = H2) I2 ⟨rfl, rfl⟩) fun vu s3 ⟨u, H3, I3, pu, eu, e3⟩ => ?_
  subst eu e3
  refine thn (hst.run pins s3 σ H3 (fun o H4 => o = some (-1) ∧ H4 = H3) I3 ⟨1, rfl, -1, rfl, rfl, rfl⟩) fun vs s4 ⟨o, H4, I4, ps, eo, e4⟩ => ?_
  subst eo e4
  have I5 : Inv X pins σ H4 { s4 with heap := s4.heap.push { cls := .type "slice", data := .fields #[vl, vu, vs] } } := I4.kept (t' := s4.toks) fun b ob q => Heap.get?_push_of_some _ q
  show wpAny (model X.prog X.w) X.A (subscriptTail e (.Slice none none (some (.UnaryOp .USub (.Constant (.int 1) k p1) p2)) p3) (.ref a) (.ref s4.heap.objs.size)) (EP X pins σ Q) X.xe { s4 with heap := s4.heap.push { cls := .type "slice", data := .fields #[vl, vu, vs] } }
  rcases q with ⟨hx, q⟩ | ⟨hx, q⟩
  · obtain ⟨its, r, ht, hz⟩ := I5.list hx
    have hlen := r.length
    refine tail_any (ops := [.ref a, .ref s4.heap.objs.size]) ht.isList.typeIs (PySem.slot_list_getitem.lookup) ?_ (by with_unfolding_all rfl)
    refine wpAny_getItem_list_slice ht.isList (Heap.IsSliceOf.new _ vl vu vs) pl pu ps (by decide) ?_ (by rw [List.size_toArray]; omega)
    rw [PySem.W.krv_pick]
    refine ⟨.ref _, _, I5.laid (t' := s4.toks) (o := .lst xs.reverse) (fun b ob q => Heap.get?_push_of_some _ q) (Nat.le_refl _) ?_, rfl, q _ (I5.hok.fresh (Nat.le_refl _))⟩
    exact ⟨by rw [List.length_reverse]; exact hz, _, 0, r.reverse, Heap.get?_push_size _ rfl⟩
  · obtain ⟨its, r, ht, hz⟩ := I5.tuple hx
    have hlen := r.length
    refine tail_any (ops := [.ref a, .ref s4.heap.objs.size]) ht.typeIs PyProof.Rows.slot_tuple_getitem.lookup ?_ (by with_unfolding_all rfl)
    cases pl
    cases pu
    refine getItem_tuple_rev ht (Heap.IsSliceOf.new _ .none .none vs) ps ?_ (by rw [List.size_toArray]; omega)
    refine ⟨.ref _, _, I5.laid (t' := s4.toks) (o := .tup xs.reverse) (fun b ob q => Heap.get?_push_of_some _ q) (Nat.le_refl _) ?_, rfl, q _ (I5.hok.fresh (Nat.le_refl _))⟩
    exact ⟨by rw [List.length_reverse]; exact hz, _, r.reverse, IsTup.new _ _⟩
end
/-! ### stores, append, extend, by values -/
section
variable {K : PySem.W.Frag} {H : Hp} {M : Mp} {cs cs' : Cs}
theorem ixN_lt {n : Nat} {k : Int} {j : Nat} (h : ixN n k = some j) : j < n := by
  obtain ⟨h1, h2, h3, h4⟩ := ixN_seq h
  first
    | omega
    | (unfold ixN at h; split at h <;> simp at h <;> omega)
theorem setO_ok {o i v : PV} {x y z : V} (c : CelR K H M cs) (ho : VR K H M o x) (hi : VR K H M i y) (hv : VR K H M v z) (e : setO cs o i v = some cs') :
    ∃ p xs k j, x = .ref p ∧ y = .int k ∧ H p = some (.lst xs) ∧ ixN xs.length k = some j ∧ Ex H M (upd H p (.lst (xs.set j z))) M ∧ CelR K (upd H p (.lst (xs.set j z))) M cs' := by
  cases o with
  | ref n =>
    cases i with
    | int k =>
      simp only [setO] at e
      cases hn : cs[n]? with
      | none => rw [hn] at e; cases e
      | some d =>
        rw [hn] at e
        simp only [Option.ite_none_right_eq_some, Option.map_eq_some_iff] at e
        obtain ⟨hl, j, hj, rfl⟩ := e
        simp only [VR] at ho
        obtain ⟨a, ha, rfl⟩ := ho
        obtain ⟨a', xs, h1, h2, h3, h4, _⟩ := c.at' n d hn
        rw [ha] at h1; cases h1
        have hlen := h4.length
        obtain ⟨e1, e2⟩ := cell_set c hn hl ha (VRs.set j h4 hv) (by rw [List.length_set]; exact h3)
        exact ⟨a, xs, k, j, rfl, pv_int hi, h2, by rw [← hlen]; exact hj, e1, e2⟩
    | _ => simp [setO] at e
  | _ => simp [setO] at e
theorem appO_ok {o v : PV} {x z : V} (c : CelR K H M cs) (ho : VR K H M o x) (hv : VR K H M v z) (e : appO cs o v = some cs') :
    ∃ p xs, x = .ref p ∧ H p = some (.lst xs) ∧ xs.length < LIM ∧ Ex H M (upd H p (.lst (xs ++ [z]))) M ∧ CelR K (upd H p (.lst (xs ++ [z]))) M cs' := by
  cases o with
  | ref n =>
    simp only [appO] at e
    cases hn : cs[n]? with
    | none => rw [hn] at e; cases e
    | some d =>
      rw [hn] at e
      simp only [Option.ite_none_right_eq_some, Option.some.injEq] at e
      obtain ⟨⟨hl, hz⟩, rfl⟩ := e
      simp only [VR] at ho
      obtain ⟨a, ha, rfl⟩ := ho
      obtain ⟨a', xs, h1, h2, h3, h4, _⟩ := c.at' n d hn
      rw [ha] at h1; cases h1
      have hlen := h4.length
      obtain ⟨e1, e2⟩ := cell_set c hn hl ha (VRs.app h4 (VRs.one hv)) (by rw [List.length_append, List.length_singleton]; omega)
      exact ⟨a, xs, rfl, h2, by omega, e1, e2⟩
  | _ => simp [appO] at e
theorem extO_ok {o w : PV} {ws : List PV} {x y : V} (c : CelR K H M cs) (ho : VR K H M o x) (hw : VR K H M w y) (ew : asL cs w = some ws) (e : extO cs o ws = some cs') :
    ∃ p b xs zs, x = .ref p ∧ y = .ref b ∧ H p = some (.lst xs) ∧ H b = some (.lst zs) ∧ xs.length + zs.length ≤ LIM ∧ Ex H M (upd H p (.lst (xs ++ zs))) M ∧ CelR K (upd H p (.lst (xs ++ zs))) M cs' := by
  obtain ⟨b, zs, rfl, q1, q2, q3⟩ := asL_ok c hw ew
  cases o with
  | ref n =>
    simp only [extO] at e
    cases hn : cs[n]? with
    | none => rw [hn] at e; cases e
    | some d =>
      rw [hn] at e
      simp only [Option.ite_none_right_eq_some, Option.some.injEq] at e
      obtain ⟨⟨hl, hz⟩, rfl⟩ := e
      simp only [VR] at ho
      obtain ⟨a, ha, rfl⟩ := ho
      obtain ⟨a', xs, h1, h2, h3, h4, _⟩ := c.at' n d hn
      rw [ha] at h1; cases h1
      have hlen := h4.length
      have hlen2 := q3.length
      obtain ⟨e1, e2⟩ := cell_set c hn hl ha (VRs.app h4 q3) (by rw [List.length_append]; omega)
      exact ⟨a, b, xs, zs, rfl, rfl, h2, q1, by omega, e1, e2⟩
  | _ => simp [extO] at e
end
end Ev
end

section
set_option maxHeartbeats 4000000
/-! the core language against the written code: a decidable match -/
namespace Ev
open PySem L2 PyProof.Rows
/-- what is known of the module: defs, constants, names it leaves unbound -/
structure GE where
  D : List FnI
  con : List (Str × PV)
  bl : List Str
/-- a block: slots' names, scope, the written scope of a comprehension's block -/
structure SCx where
  N : List Str
  sc : Scope
  own : Option Scope
def isCell : Option NameKind → Bool
  | some .cell => true
  | _ => false
def isLocal : Option NameKind → Bool
  | some .local => true
  | _ => false
def isFree : Option NameKind → Bool
  | some .free => true
  | _ => false
def isGlob : Option NameKind → Bool
  | some .globalImplicit => true
  | _ => false
def SCx.fn (S : SCx) (x : Str) : Bool :=
  match S.own with
  | none => true
  | some s => s.names.lookup x == some .cell
def SCx.look (S : SCx) (x : Str) : Option NameKind := S.sc.names.lookup x
def SCx.blk (S : SCx) (scope : Scope) : SCx := ⟨S.N, relS scope S.sc, some scope⟩
def visB (S : SCx) (x : Str) : Bool := isLocal (S.look x) || isCell (S.look x) || isFree (S.look x)
def glB (G : GE) (S : SCx) (x : Str) : Bool := isGlob (S.look x) && decide (x ∈ G.bl)
def nmB (S : SCx) (i : Nat) (x : Str) : Bool := decide (S.N[i]? = some x) && visB S x && !(x == ("__debug__" : Str)) && !(x == ("__classdict__" : Str))
def stB (S : SCx) (i : Nat) (x : Str) : Bool := decide (S.N[i]? = some x) && (isLocal (S.look x) || (isCell (S.look x) && S.fn x))
def blkB (S : SCx) (scope : Scope) (own : List (Str × Nat)) : Bool :=
  decide (scope.kind = .function) && scope.names.all (fun y => decide (scope.names.lookup y.1 = some y.2)) && own.all (fun p => decide (S.N[p.2]? = some p.1)) &&
  scope.names.all fun y => match y.2 with
    | .free => isCell (S.look y.1) || isFree (S.look y.1)
    | .local => decide (y.1 ∈ own.map (·.1)) || decide (y.1 ∉ S.N)
    | .cell => decide (y.1 ∈ own.map (·.1)) || decide (y.1 ∉ S.N)
    | _ => true
def cstB : PV → Const → Bool
  | .non, .none => true
  | .bl b, .bool c => b == c
  | .int i, .int j => decide (i = j)
  | .str s, .str t => decide (s = t)
  | _, _ => false
def sclB : PV → PV → Bool
  | .non, .non => true
  | .bl b, .bl c => b == c
  | .int i, .int j => decide (i = j)
  | .str s, .str t => decide (s = t)
  | _, _ => false
def opsB : Operator → Bool
  | .Add => true
  | .Sub => true
  | .Mult => true
  | .FloorDiv => true
  | .Mod => true
  | .Pow => true
  | _ => false
def plainIx : Expr → Bool
  | .Slice _ _ _ _ => false
  | _ => true
def notIf : Expr → Bool
  | .IfExp _ _ _ _ => false
  | _ => true
def notSet : Expr → Bool
  | .Set _ _ _ => false
  | _ => true
def baseB : Expr → Bool
  | .Call (.Name _ _) [] [] _ => false
  | _ => true
def blName : Bl → Str
  | .abs => "abs" | .len => "len" | .max2 => "max" | .min2 => "min" | .maxL => "max" | .minL => "min" | .sum => "sum" | .any => "any" | .all => "all" | .sorted => "sorted"
  | .int => "int" | .divmod => "divmod" | .tuple => "tuple" | .list => "list" | .repr => "repr" | .tupRng => "tuple"
def blVal : Bl → Value
  | .abs => .builtin "abs" | .len => .builtin "len" | .max2 => .builtin "max" | .min2 => .builtin "min" | .maxL => .builtin "max" | .minL => .builtin "min" | .sum => .builtin "sum"
  | .any => .builtin "any" | .all => .builtin "all" | .sorted => .builtin "sorted"
  | .int => .type "int" | .divmod => .builtin "divmod" | .tuple => .type "tuple" | .list => .type "list" | .repr => .builtin "repr" | .tupRng => .type "tuple"
def tyB (G : GE) (S : SCx) (t : String) : Expr → Bool
  | .Name x _ => decide (x = Str.ofString t) && decide (t ∈ tyTs) && glB G S x
  | _ => false
def tysB (G : GE) (S : SCx) : List String → List Expr → Bool
  | [], [] => true
  | t :: ts, e :: es => tyB G S t e && tysB G S ts es
  | _, _ => false
mutual
def tgSlots : CTg → List Nat
  | .name i => [i]
  | .tup ts => tgsSlots ts
  | .sub _ _ => []
def tgsSlots : CTs → List Nat
  | .nil => []
  | .cons t r => tgSlots t ++ tgsSlots r
end
mutual
def nameTg : CTg → Bool
  | .name _ => true
  | .tup ts => nameTs ts
  | .sub _ _ => false
def nameTs : CTs → Bool
  | .nil => true
  | .cons t r => nameTg t && nameTs r
end
def CK.keys : CK → List Str
  | .nil => []
  | .cons k _ r => k :: r.keys
def isTupT : Expr → Bool
  | .Tuple _ _ _ => true
  | _ => false
def oneB (G : GE) (S : SCx) : List String → Expr → Bool
  | [t], e => tyB G S t e
  | _, _ => false
mutual
def chkE (G : GE) (S : SCx) : CE → Expr → Bool
  | .var i, .Name x _ => nmB S i x
  | .mv i, .Name x _ => nmB S i x
  | .cst v, .Constant c _ _ => cstB v c
  | .glo x v, .Name y _ => decide (x = y) && isGlob (S.look x) && !(x == ("__debug__" : Str)) && G.con.any fun p => decide (p.1 = x) && sclB p.2 v
  | .tup es, .Tuple as _ _ => chkA G S es as && decide (as.length ≤ 1000)
  | .lst _ es, .List as _ => chkA G S es as && decide (as.length ≤ 1000)
  | .dct0, .Dict [] [] _ => true
  | .bin op _ a b, .BinOp a' op' b' _ => decide (op = op') && opsB op && chkE G S a a' && chkE G S b b'
  | .neg a, .UnaryOp .USub a' _ => chkE G S a a'
  | .cmp op a b, .Compare a' [op'] [b'] _ => decide (op = op') && chkE G S a a' && chkE G S b b' && !(behindInMarks op b')
  | .chain op op1 a b c, .Compare a' [op', op1'] [b', c'] _ => decide (op = op') && decide (op1 = op1') && chkE G S a a' && chkE G S b b' && chkE G S c c' && !(lastMarks [op, op1] [b', c'])
  | .and a b, .BoolOp .And (a' :: b' :: []) _ => chkE G S a a' && notIf a' && chkE G S b b' && notIf b'
  | .and a b, .BoolOp .And (a' :: b' :: c' :: r') p => chkE G S a a' && notIf a' && chkE G S b (.BoolOp .And (b' :: c' :: r') p)
  | .or a b, .BoolOp .Or (a' :: b' :: []) _ => chkE G S a a' && notIf a' && chkE G S b b' && notIf b'
  | .or a b, .BoolOp .Or (a' :: b' :: c' :: r') p => chkE G S a a' && notIf a' && chkE G S b (.BoolOp .Or (b' :: c' :: r') p)
  | .not a, .UnaryOp .Not a' _ => chkE G S a a' && notIf a'
  | .ite t a b, .IfExp t' a' b' _ => chkE G S t t' && notIf t' && chkE G S a a' && chkE G S b b'
  | .idx a i, .Subscript a' i' _ => chkE G S a a' && chkE G S i i' && plainIx i'
  | .slc _ a lo hi, .Subscript a' (.Slice lo' hi' none _) _ => chkE G S a a' && chkO G S lo lo' && chkO G S hi hi'
  | .rev _ a, .Subscript a' (.Slice none none (some (.UnaryOp .USub (.Constant (.int i) _ _) _)) _) _ => decide (i = 1) && chkE G S a a'
  | .blt f _ es, .Call (.Name x _) (a' :: as) [] _ => decide (f ≠ .tupRng) && decide (x = blName f) && glB G S x && chkA G S es (a' :: as)
  | .isi a tys many, .Call (.Name x _) [a', .Tuple ts _ _] [] _ => many && decide (x = ("isinstance" : Str)) && glB G S x && chkE G S a a' && notStar a' && tysB G S tys ts && decide (ts.length ≤ 1000)
  | .isi a tys many, .Call (.Name x _) [a', t'] [] _ => !many && decide (x = ("isinstance" : Str)) && glB G S x && chkE G S a a' && notStar a' && oneB G S tys t'
  | .call j pm es ks, .Call (.Name x _) as kws _ => (match G.D[j]? with
      | some f => decide (f.name = x) && decide ((as.length, ks.keys, pm) ∈ f.bd)
      | none => false) && isGlob (S.look x) && !(x == ("__debug__" : Str)) && chkA G S es as && chkK G S ks kws
  | .comp _ elt tg it cond own, .ListComp elt' [⟨tg', it', ifs', ac⟩] scope _ => decide (ac = 0) && blkB S scope own && chkI G S it tg' it' && notSet it' && nameTg tg && decide (∀ i ∈ tgSlots tg, i ∈ own.map (·.2)) &&
      chkTg G (S.blk scope) tg tg' && chkC G (S.blk scope) cond ifs' && chkE G (S.blk scope) elt elt'
  | _, _ => false
def chkA (G : GE) (S : SCx) : CA → List Expr → Bool
  | .nil, [] => true
  | .cons e r, a :: as => chkE G S e a && notStar a && chkA G S r as
  | _, _ => false
def chkK (G : GE) (S : SCx) : CK → List Keyword → Bool
  | .nil, [] => true
  | .cons k e r, ⟨some k', e', _⟩ :: kws => decide (k = k') && chkE G S e e' && chkK G S r kws
  | _, _ => false
def chkO (G : GE) (S : SCx) : CO → Option Expr → Bool
  | .none, none => true
  | .some e, some e' => chkE G S e e'
  | _, _ => false
def chkC (G : GE) (S : SCx) : CO → List Expr → Bool
  | .none, [] => true
  | .some e, [e'] => chkE G S e e' && notIf e'
  | _, _ => false
def chkI (G : GE) (S : SCx) : CI → Expr → Expr → Bool
  | .seq e, _, e' => chkE G S e e'
  | .rng (.cons a .nil), _, .Call (.Name x _) [a'] [] _ => decide (x = ("range" : Str)) && glB G S x && chkE G S a a' && notStar a'
  | .rng (.cons a (.cons b .nil)), _, .Call (.Name x _) [a', b'] [] _ => decide (x = ("range" : Str)) && glB G S x && chkE G S a a' && notStar a' && chkE G S b b' && notStar b'
  | .enm e, tg, .Call (.Name x _) [a'] [] _ => isTupT tg && decide (x = ("enumerate" : Str)) && glB G S x && chkE G S e a' && notStar a'
  | .zip a b, tg, .Call (.Name x _) [a', b'] [] _ => isTupT tg && decide (x = ("zip" : Str)) && glB G S x && chkE G S a a' && notStar a' && chkE G S b b' && notStar b'
  | _, _, _ => false
def chkTg (G : GE) (S : SCx) : CTg → Expr → Bool
  | .name i, .Name x _ => stB S i x
  | .tup ts, .Tuple es _ _ => chkTs G S ts es
  | .sub o i, .Subscript o' i' _ => chkE G S o o' && chkE G S i i' && plainIx i'
  | _, _ => false
def chkTs (G : GE) (S : SCx) : CTs → List Expr → Bool
  | .nil, [] => true
  | .cons t r, e :: es => chkTg G S t e && notStar e && chkTs G S r es
  | _, _ => false
end
/-- names that are stored the other way about -/
def swapN (S : SCx) (line : Nat) (ts : List Expr) : List Str := ts.filterMap fun
  | .Name id pos => if S.look id == some .local && pos.line == line then some id else none
  | _ => none
def lineOf (ts : List Expr) : Nat := (ts.head?.map (·.pos.line)).getD 0
def noSwap (S : SCx) (ts vs : List Expr) : Bool := !(decide (ts.length = 2) || decide (ts.length = 3)) || !(decide ((swapN S (lineOf ts) ts).length = ts.length)) || vs.all (foldedForSure 8)
def swapB (S : SCx) : Expr → Expr → Bool
  | .Tuple ts _ _, .Tuple vs _ _ => noSwap S ts vs
  | .List _ _, _ => false
  | .Name _ _, _ => true
  | .Tuple _ _ _, _ => true
  | .Subscript _ _ _, _ => true
  | _, _ => false
/-- a comprehension stored at its end (its value goes to a local name on one line) -/
def lcB (S : SCx) : Expr → Expr → Option Bool
  | .Name t p, .ListComp _ _ scope pos => some (isLocal (S.look t) && p.line == pos.line && !(scope.names.any fun y => y.1 == t && (y.2 == .local || y.2 == .cell)))
  | .Name _ _, .SetComp _ _ _ _ => none
  | .Name _ _, .DictComp _ _ _ _ _ => none
  | _, _ => some false
def noComp : Expr → Bool
  | .ListComp _ _ _ _ => false
  | .SetComp _ _ _ _ => false
  | .DictComp _ _ _ _ _ => false
  | _ => true
def isNm : Expr → Bool
  | .Name _ _ => true
  | _ => false
def parB (G : GE) (S : SCx) (i j : Nat) (a b : CE) : Expr → Expr → Bool
  | .Tuple [.Name x px, .Name y py] _ _, .Tuple [a', b'] _ _ => decide (i ≠ j) && stB S i x && isLocal (S.look x) && stB S j y && isLocal (S.look y) && chkE G S a a' && notStar a' && chkE G S b b' && notStar b' &&
      decide (S.sc.kind = .function) && px.line == py.line && !(decide (x = y)) && !([a', b'].all (foldedForSure 8)) && !([a', b'].all (constantsAlone 8))
  | _, _ => false
mutual
def chkS (G : GE) (S : SCx) : CS → Stmt → Bool
  | .never, _ => true
  | .asg t e, .Assign [t'] e' _ => chkTg G S t t' && chkE G S e e' && swapB S t' e' && (lcB S t' e').isSome && (decide (S.sc.kind = .function) || decide (lcB S t' e' = some false))
  | .par i j a b, .Assign [t'] e' _ => parB G S i j a b t' e'
  | .app o e, .Expr (.Call (.Attribute o' m apos) [e'] [] cpos) _ => decide (m = ("append" : Str)) && baseB o' && (apos.endLine == cpos.line) && chkE G S o o' && chkE G S e e' && notStar e'
  | .ext o e, .Expr (.Call (.Attribute o' m apos) [e'] [] cpos) _ => decide (m = ("extend" : Str)) && baseB o' && (apos.endLine == cpos.line) && chkE G S o o' && chkE G S e e' && notStar e'
  | .pass, .Expr (.Constant (.str _) _ _) _ => true
  | .pass, .Pass _ => true
  | .drop e, .Expr e' _ => chkE G S e e' && noComp e'
  | .ite t a b, .If t' a' b' _ => chkE G S t t' && notIf t' && chkB G S a a' && chkB G S b b'
  | .loop t it body, .For t' it' body' [] _ => chkTg G S t t' && nameTg t && chkI G S it t' it' && notSet it' && chkB G S body body'
  | .while t body, .While t' body' [] _ => chkE G S t t' && notIf t' && chkB G S body body'
  | .ret e, .Return (some e') _ => chkE G S e e'
  | .retN, .Return none _ => true
  | .brk, .Break _ => true
  | .cnt, .Continue _ => true
  | _, _ => false
def chkB (G : GE) (S : SCx) : CB → List Stmt → Bool
  | .nil, [] => true
  | .cons s r, st :: sts => chkS G S s st && chkB G S r sts
  | _, _ => false
end
end Ev
end

section
set_option maxHeartbeats 4000000
/-! what a piece of code is to reach, by the evaluator -/
namespace Ev
open PySem L2 PyProof.Rows
abbrev EvΦ := Nat → List PV → Cs → Option (PV × Cs)
section
variable (K : PySem.W.Frag) (Φ : EvΦ)
def TEr (e : CE) : TE := fun σ H Q => ∃ M sl cs v cs', CelR K H M cs ∧ SloR K H M sl σ ∧ evE Φ e sl cs = some (v, cs') ∧ ∀ H' M' x, Ex H M H' M' → CelR K H' M' cs' → VR K H' M' v x → Q x H'
def TTr (e : CE) : TT := fun σ H Q => ∃ M sl cs b cs', CelR K H M cs ∧ SloR K H M sl σ ∧ evE Φ e sl cs = some (.bl b, cs') ∧ ∀ H' M', Ex H M H' M' → CelR K H' M' cs' → Q b H'
def TAr (es : CA) : TA := fun σ H Q => ∃ M sl cs vs cs', CelR K H M cs ∧ SloR K H M sl σ ∧ evA Φ es sl cs = some (vs, cs') ∧ ∀ H' M' xs, Ex H M H' M' → CelR K H' M' cs' → VRs K H' M' vs xs → Q xs H'
def TKr (ks : CK) : TA := fun σ H Q => ∃ M sl cs vs cs', CelR K H M cs ∧ SloR K H M sl σ ∧ evK Φ ks sl cs = some (vs, cs') ∧ ∀ H' M' xs, Ex H M H' M' → CelR K H' M' cs' → VRs K H' M' vs xs → Q xs H'
def TOr (o : CO) : TO := fun σ H Q => ∃ M sl cs r cs' i, CelR K H M cs ∧ SloR K H M sl σ ∧ evO Φ o sl cs = some (r, cs') ∧ oInt r = some i ∧ ∀ H' M', Ex H M H' M' → CelR K H' M' cs' → Q i H'
/-- an iterator that gives these values -/
def JR (J : It) (vs : List PV) (H : Hp) (M : Mp) : Prop := vs.length ≤ LIM ∧ ∀ H' M' cs, Ew H M H' M' → CelR K H' M' cs →
  (∀ i, i < vs.length → J.go i H') ∧ (∀ i, vs.length ≤ i → J.stop i H') ∧ ∀ i v x H'', vs[i]? = some v → J.yld i H' x H'' → Ex H' M' H'' M' ∧ CelR K H'' M' cs ∧ VR K H'' M' v x
def TIr (it : CI) : TI := fun σ H R => ∃ M sl cs vs cs', CelR K H M cs ∧ SloR K H M sl σ ∧ evI Φ it sl cs = some (vs, cs') ∧ ∀ H' M' J, Ex H M H' M' → CelR K H' M' cs' → JR K J vs H' M' → R J H'
def TGr (t : CTg) : TG := fun x σ H Q => ∃ M sl cs v sl' cs', CelR K H M cs ∧ SloR K H M sl σ ∧ VR K H M v x ∧ evTg Φ t v sl cs = some (sl', cs') ∧
  ∀ σ' H' M', Ex H M H' M' → CelR K H' M' cs' → SloR K H' M' sl' σ' → σ'.length = σ.length → (∀ i, i ∉ tgSlots t → σ'[i]? = σ[i]?) → Q σ' H'
def TGsr (ts : CTs) : TGs := fun xs σ H Q => ∃ M sl cs vs sl' cs', CelR K H M cs ∧ SloR K H M sl σ ∧ VRs K H M vs xs ∧ vs.length = ts.len ∧ evTs Φ ts vs sl cs = some (sl', cs') ∧
  ∀ σ' H' M', Ex H M H' M' → CelR K H' M' cs' → SloR K H' M' sl' σ' → σ'.length = σ.length → (∀ i, i ∉ tgsSlots ts → σ'[i]? = σ[i]?) → Q σ' H'
def PoE (D : Ends) (o : Out) (σ : L2.St) (H : Hp) (M : Mp) : Prop :=
  match o with
  | .nx => D.nx σ H
  | .bk => D.bk σ H
  | .ct => D.ct σ H
  | .rt v => ∀ x, VR K H M v x → D.rt x H
variable (W : Nat)
def TSr (s : CS) : TS := fun D σ H => ∃ M sl cs o sl' cs', CelR K H M cs ∧ SloR K H M sl σ ∧ evS Φ W s sl cs = some (o, sl', cs') ∧ ∀ σ' H' M', Ex H M H' M' → CelR K H' M' cs' → SloR K H' M' sl' σ' → PoE K D o σ' H' M'
def TBr (b : CB) : TS := fun D σ H => ∃ M sl cs o sl' cs', CelR K H M cs ∧ SloR K H M sl σ ∧ evB Φ W b sl cs = some (o, sl', cs') ∧ ∀ σ' H' M', Ex H M H' M' → CelR K H' M' cs' → SloR K H' M' sl' σ' → PoE K D o σ' H' M'
/-- a def's promise -/
def spG (j n : Nat) : SpG := fun xs H Q => ∃ M cs args v cs', CelR K H M cs ∧ VRs K H M args xs ∧ Φ j args cs = some (v, cs') ∧ args.length = n ∧ ∀ H' M' x, Ex H M H' M' → CelR K H' M' cs' → VR K H' M' v x → Q x H'
end
section
variable {X : Cx}
theorem PEm {e : Expr} {t t' : TE} (h : PE X e t) (m : ∀ σ H Q, t' σ H Q → t σ H Q) : PE X e t' := ⟨fun pins s σ H Q I q => h.run pins s σ H Q I (m _ _ _ q)⟩
theorem PTm {e : Expr} {t t' : TT} (h : PT X e t) (m : ∀ σ H Q, t' σ H Q → t σ H Q) : PT X e t' := ⟨fun pins s σ H Q I q => h.run pins s σ H Q I (m _ _ _ q)⟩
theorem PWm {e : Expr} {t t' : TT} (h : PW X e t) (m : ∀ σ H Q, t' σ H Q → t σ H Q) : PW X e t' := ⟨fun w pins s σ H Q I q => h.run w pins s σ H Q I (m _ _ _ q)⟩
theorem PAm {e : List Expr} {t t' : TA} (h : PA X e t) (m : ∀ σ H Q, t' σ H Q → t σ H Q) : PA X e t' := ⟨fun p pins s σ H Q I q => h.run p pins s σ H Q I (m _ _ _ q)⟩
theorem PKm {e : List Keyword} {t t' : TA} (h : PK X e t) (m : ∀ σ H Q, t' σ H Q → t σ H Q) : PK X e t' := ⟨fun p pins s σ H Q I q => h.run p pins s σ H Q I (m _ _ _ q)⟩
theorem POm {e : Option Expr} {t t' : TO} (h : PO X e t) (m : ∀ σ H Q, t' σ H Q → t σ H Q) : PO X e t' := ⟨fun pins s σ H Q I q => h.run pins s σ H Q I (m _ _ _ q)⟩
theorem PIm {tg e : Expr} {t t' : TI} (h : PI X tg e t) (m : ∀ σ H Q, t' σ H Q → t σ H Q) : PI X tg e t' := ⟨fun pins s σ H Q I q => h.run pins s σ H Q I (m _ _ _ q)⟩
theorem PGm {e : Expr} {t t' : TG} (h : PG X e t) (m : ∀ v σ H Q, t' v σ H Q → t v σ H Q) : PG X e t' := ⟨fun pins s σ H v u Q I r q => h.run pins s σ H v u Q I r (m _ _ _ _ q)⟩
theorem PGsm {e : List Expr} {t t' : TGs} (h : PGs X e t) (m : ∀ v σ H Q, t' v σ H Q → t v σ H Q) : PGs X e t' := ⟨fun pins s σ H v u Q I r q => h.run pins s σ H v u Q I r (m _ _ _ _ q)⟩
theorem PSm {e : Stmt} {t t' : TS} (h : PS X e t) (m : ∀ D σ H, t' D σ H → t D σ H) : PS X e t' := ⟨fun pins s σ H Q I q => h.run pins s σ H Q I (m _ _ _ q)⟩
theorem PSsm {e : List Stmt} {t t' : TS} (h : PSs X e t) (m : ∀ D σ H, t' D σ H → t D σ H) : PSs X e t' := ⟨fun pins s σ H Q I q => h.run pins s σ H Q I (m _ _ _ q)⟩
end
/-! ### the surroundings -/
structure GF (P : Program) (w : World) (K : PySem.W.Frag) (mg : Str → Option Value) (base : Heap) (G : GE) (Φ : EvΦ) (k : Nat) : Prop where
  fn : ∀ j f, G.D[j]? = some f → ∃ a fd, mg f.name = some (.ref a) ∧ PySem.W.keepIn K (.ref a) = true ∧ FnG P w K mg base k a fd f.ps (spG K Φ j f.ps.length) ∧ ∀ b ∈ f.bd, BindG K fd f.ps b.1 b.2.1 b.2.2
  ar : ∀ j f args cs r, G.D[j]? = some f → Φ j args cs = some r → args.length = f.ps.length
  con : ∀ x v, (x, v) ∈ G.con → ∃ u, mg x = some u ∧ ∃ y, RelV y u ∧ ∀ H M, VR K H M v y
  bl : ∀ x ∈ G.bl, mg x = none
  sm : ∃ mm, base.Ns sysModules mm
structure GX (G : GE) (Φ : EvΦ) (k : Nat) (S : SCx) (X : Cx) : Prop where
  gf : GF X.prog X.w X.K X.mg X.base G Φ k
  hN : X.N = S.N
  nd : S.N.Nodup
  sc : X.env.scope = S.sc
  fn : ∀ x, X.fn x = S.fn x
  calm : X.calm = true
  gd : X.A.guards = some []
  rm : Room k X.A
  ne : X.xe = fun _ _ => False
section
variable {G : GE} {Φ : EvΦ} {k : Nat} {S : SCx} {X : Cx}
theorem isLocal_iff {o : Option NameKind} : isLocal o = true ↔ o = some .local := by
  cases o with
  | none => simp [isLocal]
  | some k => cases k <;> simp [isLocal]
theorem isCell_iff {o : Option NameKind} : isCell o = true ↔ o = some .cell := by
  cases o with
  | none => simp [isCell]
  | some k => cases k <;> simp [isCell]
theorem isFree_iff {o : Option NameKind} : isFree o = true ↔ o = some .free := by
  cases o with
  | none => simp [isFree]
  | some k => cases k <;> simp [isFree]
theorem isGlob_iff {o : Option NameKind} : isGlob o = true ↔ o = some .globalImplicit := by
  cases o with
  | none => simp [isGlob]
  | some k => cases k <;> simp [isGlob]
theorem GX.hu (g : GX G Φ k S X) : X.A.units + 65 < cLine := by have := g.rm.un; omega
theorem GX.ND (g : GX G Φ k S X) : X.N.Nodup := by rw [g.hN]; exact g.nd
theorem GX.own (g : GX G Φ k S X) : PassesOwn (model X.prog X.w) X.A X.env X.xe := by rw [g.ne]; exact PassesOwn.never
theorem vis_of {x : Str} (g : GX G Φ k S X) (h : visB S x = true) : Vis X.env.scope x := by
  rw [g.sc]
  simp only [visB, Bool.or_eq_true, isLocal_iff, isCell_iff, isFree_iff] at h
  rcases h with (h | h) | h
  · exact .inl h
  · exact .inr (.inl h)
  · exact .inr (.inr h)
theorem nm_of {i : Nat} {x : Str} (g : GX G Φ k S X) (h : nmB S i x = true) : X.N[i]? = some x ∧ Vis X.env.scope x ∧ (x == ("__debug__" : Str)) = false ∧ (x == ("__classdict__" : Str)) = false := by
  simp only [nmB, Bool.and_eq_true, decide_eq_true_eq, Bool.not_eq_true'] at h
  obtain ⟨⟨⟨h1, h2⟩, h3⟩, h4⟩ := h
  exact ⟨by rw [g.hN]; exact h1, vis_of g h2, h3, h4⟩
theorem st_of {i : Nat} {x : Str} (g : GX G Φ k S X) (h : stB S i x = true) : X.N[i]? = some x ∧ Loc X.env.scope x ∧ (X.fn x = true ∨ X.env.scope.names.lookup x = some .local) := by
  simp only [stB, Bool.and_eq_true, Bool.or_eq_true, decide_eq_true_eq, isLocal_iff, isCell_iff] at h
  obtain ⟨h1, h2⟩ := h
  refine ⟨by rw [g.hN]; exact h1, ?_⟩
  rw [g.sc, g.fn]
  rcases h2 with h2 | ⟨h2, h3⟩
  · exact ⟨.inl h2, .inr h2⟩
  · exact ⟨.inr h2, .inl h3⟩
theorem gl_is {x : Str} (g : GX G Φ k S X) (h : isGlob (S.look x) = true) : Gl X x := by
  show X.env.scope.names.lookup x = some .globalImplicit
  rw [g.sc]
  exact isGlob_iff.mp h
theorem gl_of {x : Str} (g : GX G Φ k S X) (h : glB G S x = true) : Gl X x ∧ X.mg x = none := by
  simp only [glB, Bool.and_eq_true, decide_eq_true_eq] at h
  exact ⟨gl_is g h.1, g.gf.bl x h.2⟩
theorem blk_of {scope : Scope} {own : List (Str × Nat)} (g : GX G Φ k S X) (h : blkB S scope own = true) : BlkOk X.N X.env.scope scope own := by
  simp only [blkB, Bool.and_eq_true, decide_eq_true_eq, List.all_eq_true] at h
  obtain ⟨⟨⟨h1, h2⟩, h3⟩, h4⟩ := h
  refine ⟨h1, h2, fun p hp => by rw [g.hN]; exact h3 p hp, fun y hy e => ?_, fun y hy e => ?_⟩
  · have q := h4 y hy
    rw [e] at q
    simp only [Bool.or_eq_true, isCell_iff, isFree_iff] at q
    rw [g.sc]; exact q
  · have q := h4 y hy
    rw [g.hN]
    rcases e with e | e <;> rw [e] at q <;> simpa only [Bool.or_eq_true, decide_eq_true_eq] using q
theorem GX.blk (g : GX G Φ k S X) {scope : Scope} (s : Shared) (H : Hp) (C : Addr) (cl : List (Str × Addr)) (fp : List Addr) : GX G Φ k (S.blk scope) (X.blk s H scope (compEnvC scope cl C X.env) fp) := by
  refine ⟨g.gf, g.hN, g.nd, ?_, fun x => rfl, g.calm, g.gd, g.rm, rfl⟩
  show relS scope X.env.scope = relS scope S.sc
  rw [g.sc]
end
end Ev
end

section
set_option maxHeartbeats 4000000
/-! iterators, comprehensions, loops -/
namespace Ev
open PySem L2 PyProof.Rows
section
variable {K : PySem.W.Frag} {Φ : EvΦ} {H H' : Hp} {M M' : Mp} {cs : Cs} {vs : List PV} {xs : List V} {a b : Addr}
theorem Ex.ew (e : Ex H M H' M') : Ew H M H' M' := e.toEw
theorem JR.ew {J : It} (j : JR K J vs H M) (e : Ew H M H' M') : JR K J vs H' M' := ⟨j.1, fun H2 M2 cs x c => j.2 H2 M2 cs (e.trans x) c⟩
theorem get_lt {α : Type} {l : List α} {i : Nat} (h : i < l.length) : ∃ x, l[i]? = some x := ⟨_, List.getElem?_eq_getElem h⟩
theorem jr_list (hl : xs.length ≤ LIM) (h : FL K H M a xs) (r : VRs K H M vs xs) : JR K (Itl K a) vs H M := by
  have len := r.length
  refine ⟨by omega, fun H2 M2 cs e c => ⟨fun i hi => ?_, fun i hi => ⟨xs, (h.ew e).sq, by omega⟩, fun i v x H3 hv hy => ?_⟩⟩
  · obtain ⟨x, hx⟩ := get_lt (l := xs) (i := i) (by omega)
    exact ⟨xs, x, (h.ew e).sq, hx⟩
  · obtain ⟨rfl, q⟩ := hy
    obtain ⟨y, h1, h2⟩ := r.get hv
    rw [q xs (h.ew e).sq] at h1; cases h1
    exact ⟨Ex.refl, c, h2.ew e⟩
theorem jr_tup (hl : xs.length ≤ LIM) (h : SqT K H a xs) (r : VRs K H M vs xs) : JR K (Itt K a) vs H M := by
  have len := r.length
  refine ⟨by omega, fun H2 M2 cs e c => ⟨fun i hi => ?_, fun i hi => ⟨xs, SqT.ew e h, by omega⟩, fun i v x H3 hv hy => ?_⟩⟩
  · obtain ⟨x, hx⟩ := get_lt (l := xs) (i := i) (by omega)
    exact ⟨xs, x, SqT.ew e h, hx⟩
  · obtain ⟨rfl, q⟩ := hy
    obtain ⟨y, h1, h2⟩ := r.get hv
    rw [q xs (SqT.ew e h)] at h1; cases h1
    exact ⟨Ex.refl, c, h2.ew e⟩
theorem jr_rng {lo : Int} {n : Nat} (hn : n ≤ LIM) : JR K (Itr lo n) ((List.range n).map fun (i : Nat) => .int (lo + i)) H M := by
  refine ⟨by simpa using hn, fun H2 M2 cs e c => ⟨fun i hi => (by simpa using hi : i < n), fun i hi => (by simpa using hi : n ≤ i), fun i v x H3 hv hy => ?_⟩⟩
  obtain ⟨rfl, rfl⟩ := hy
  refine ⟨Ex.refl, c, ?_⟩
  simp only [List.getElem?_map, Option.map_eq_some_iff] at hv
  obtain ⟨j, hj, rfl⟩ := hv
  have : j = i := by
    rw [List.getElem?_range] at hj
    · exact (Option.some.inj hj).symm
    · have := (List.getElem?_eq_some_iff.mp hj).1
      simpa using this
  rw [this]
  exact vr_int
theorem enum_len : ∀ (vs : List PV) (n : Nat), (enumO n vs).length = vs.length
  | [], _ => rfl
  | _ :: vs, n => by simp [enumO, enum_len vs]
theorem enum_get : ∀ {vs : List PV} {n i : Nat} {v : PV}, (enumO n vs)[i]? = some v → ∃ u, vs[i]? = some u ∧ v = .tup [.int ((n + i : Nat) : Int), u]
  | [], _, _, _, h => by simp [enumO] at h
  | u :: vs, n, 0, v, h => by
    simp [enumO] at h
    exact ⟨u, rfl, h.symm⟩
  | u :: vs, n, i + 1, v, h => by
    obtain ⟨w, h1, h2⟩ := enum_get (vs := vs) (n := n + 1) (i := i) (by simpa [enumO] using h)
    have : n + 1 + i = n + (i + 1) := by omega
    rw [this] at h2
    exact ⟨w, by simpa using h1, h2⟩
theorem jr_enum (hl : xs.length ≤ LIM) (h : FL K H M a xs) (r : VRs K H M vs xs) : JR K (Ite K a) (enumO 0 vs) H M := by
  have len := r.length
  refine ⟨by rw [enum_len]; omega, fun H2 M2 cs e c => ⟨fun i hi => ?_, fun i hi => ⟨xs, (h.ew e).sq, by rw [enum_len] at hi; omega⟩, fun i v x H3 hv hy => ?_⟩⟩
  · rw [enum_len] at hi
    obtain ⟨x, hx⟩ := get_lt (l := xs) (i := i) (by omega)
    exact ⟨xs, x, (h.ew e).sq, hx⟩
  · obtain ⟨T, y, rfl, hT, rfl, q⟩ := hy
    obtain ⟨u, hu, rfl⟩ := enum_get hv
    obtain ⟨z, h1, h2⟩ := r.get hu
    rw [q xs (h.ew e).sq] at h1; cases h1
    refine new_tup c hT ?_ (by show 2 ≤ LIM; decide)
    simp only [VRs]
    exact ⟨_, _, rfl, by rw [Nat.zero_add]; exact vr_int, _, _, rfl, h2.ew e, rfl⟩
theorem zip_len : ∀ (vs ws : List PV), (zipO vs ws).length = min vs.length ws.length
  | [], _ => by simp [zipO]
  | _ :: _, [] => by simp [zipO]
  | _ :: vs, _ :: ws => by simp only [zipO, List.length_cons, zip_len vs ws]; omega
theorem zip_get : ∀ {vs ws : List PV} {i : Nat} {v : PV}, (zipO vs ws)[i]? = some v → ∃ u w, vs[i]? = some u ∧ ws[i]? = some w ∧ v = .tup [u, w]
  | [], _, _, _, h => by simp [zipO] at h
  | _ :: _, [], _, _, h => by simp [zipO] at h
  | u :: vs, w :: ws, 0, v, h => by
    simp [zipO] at h
    exact ⟨u, w, rfl, rfl, h.symm⟩
  | u :: vs, w :: ws, i + 1, v, h => by
    obtain ⟨x, y, h1, h2, h3⟩ := zip_get (vs := vs) (ws := ws) (i := i) (by simpa [zipO] using h)
    exact ⟨x, y, by simpa using h1, by simpa using h2, h3⟩
theorem jr_zip {ws : List PV} {ys : List V} (hl : xs.length ≤ LIM) (h : FL K H M a xs) (r : VRs K H M vs xs) (h' : FL K H M b ys) (r' : VRs K H M ws ys) : JR K (Itz K a b) (zipO vs ws) H M := by
  have len := r.length
  have len' := r'.length
  refine ⟨by rw [zip_len]; omega, fun H2 M2 cs e c => ⟨fun i hi => ?_, fun i hi => ⟨xs, ys, (h.ew e).sq, (h'.ew e).sq, by rw [zip_len] at hi; omega⟩, fun i v x H3 hv hy => ?_⟩⟩
  · rw [zip_len] at hi
    obtain ⟨x, hx⟩ := get_lt (l := xs) (i := i) (by omega)
    obtain ⟨y, hy⟩ := get_lt (l := ys) (i := i) (by omega)
    exact ⟨xs, ys, x, y, (h.ew e).sq, (h'.ew e).sq, hx, hy⟩
  · obtain ⟨T, y, y', rfl, hT, rfl, q, q'⟩ := hy
    obtain ⟨u, w, hu, hw, rfl⟩ := zip_get hv
    obtain ⟨z, h1, h2⟩ := r.get hu
    obtain ⟨z', h1', h2'⟩ := r'.get hw
    rw [q xs (h.ew e).sq] at h1; cases h1
    rw [q' ys (h'.ew e).sq] at h1'; cases h1'
    refine new_tup c hT ?_ (by show 2 ≤ LIM; decide)
    simp only [VRs]
    exact ⟨_, _, rfl, h2.ew e, _, _, rfl, h2'.ew e, rfl⟩
theorem jr_zipT {ws : List PV} {ys : List V} (hl : xs.length ≤ LIM) (h : SqT K H a xs) (r : VRs K H M vs xs) (h' : SqT K H b ys) (r' : VRs K H M ws ys) : JR K (RZ.ItzT K a b) (zipO vs ws) H M := by
  have len := r.length
  have len' := r'.length
  refine ⟨by rw [zip_len]; omega, fun H2 M2 cs e c => ⟨fun i hi => ?_, fun i hi => ⟨xs, ys, SqT.ew e h, SqT.ew e h', by rw [zip_len] at hi; omega⟩, fun i v x H3 hv hy => ?_⟩⟩
  · rw [zip_len] at hi
    obtain ⟨x, hx⟩ := get_lt (l := xs) (i := i) (by omega)
    obtain ⟨y, hy⟩ := get_lt (l := ys) (i := i) (by omega)
    exact ⟨xs, ys, x, y, SqT.ew e h, SqT.ew e h', hx, hy⟩
  · obtain ⟨T, y, y', rfl, hT, rfl, q, q'⟩ := hy
    obtain ⟨u, w, hu, hw, rfl⟩ := zip_get hv
    obtain ⟨z, h1, h2⟩ := r.get hu
    obtain ⟨z', h1', h2'⟩ := r'.get hw
    rw [q xs (SqT.ew e h)] at h1; cases h1
    rw [q' ys (SqT.ew e h')] at h1'; cases h1'
    refine new_tup c hT ?_ (by show 2 ≤ LIM; decide)
    simp only [VRs]
    exact ⟨_, _, rfl, h2.ew e, _, _, rfl, h2'.ew e, rfl⟩
end
/-! ### a settled value, walked -/
/-- the items behind a value that can be walked -/
inductive Wk (K : PySem.W.Frag) (H : Hp) (M : Mp) (x : V) (vs : List PV) : Prop where
  | l (a : Addr) (xs : List V) (e : x = .ref a) (h : FL K H M a xs) (z : xs.length ≤ LIM) (r : VRs K H M vs xs)
  | t (a : Addr) (xs : List V) (e : x = .ref a) (h : SqT K H a xs) (z : xs.length ≤ LIM) (r : VRs K H M vs xs)
theorem walk_ok {K : PySem.W.Frag} {H : Hp} {M : Mp} {cs cs' : Cs} {v : PV} {x : V} {vs : List PV} (c : CelR K H M cs) (h : VR K H M v x) (e : walk v cs = some (vs, cs')) : ∃ M', Ex H M H M' ∧ CelR K H M' cs' ∧ Wk K H M' x vs := by
  simp only [walk, Option.bind_eq_some_iff] at e
  obtain ⟨⟨w, c1⟩, e1, e2⟩ := e
  obtain ⟨M', x1, d1, r1⟩ := frz_ok c h e1
  cases w with
  | lst ws =>
    simp only [Option.some.injEq, Prod.mk.injEq] at e2
    obtain ⟨rfl, rfl⟩ := e2
    simp only [VR] at r1
    obtain ⟨a, xs, rfl, q1, q2, q3⟩ := r1
    exact ⟨M', x1, d1, .l a xs rfl (.inl ⟨q1.1, .inl q1.2⟩) q2 q3⟩
  | par ws =>
    simp only [Option.some.injEq, Prod.mk.injEq] at e2
    obtain ⟨rfl, rfl⟩ := e2
    simp only [VR] at r1
    obtain ⟨a, xs, rfl, q1, q2, q3⟩ := r1
    exact ⟨M', x1, d1, .l a xs rfl q1 q2 q3⟩
  | tup ws =>
    simp only [Option.some.injEq, Prod.mk.injEq] at e2
    obtain ⟨rfl, rfl⟩ := e2
    simp only [VR] at r1
    obtain ⟨a, xs, rfl, q1, q2, q3⟩ := r1
    exact ⟨M', x1, d1, .t a xs rfl q1 q2 q3⟩
  | _ => simp at e2
/-- a list or a tuple, walked -/
def iAny (K : PySem.W.Frag) (tl : TE) : TI := fun σ H R => tl σ H fun x H1 => ∃ a, x = .ref a ∧ (((∃ xs, SqL K H1 a xs) ∧ R (Itl K a) H1) ∨ ((∃ xs, SqT K H1 a xs) ∧ R (Itt K a) H1))
theorem pi_anyE {X : Cx} {tg l : Expr} {tl : TE} (hl : PE X l tl) : PI X tg l (iAny X.K tl) := by
  refine ⟨fun pins s σ H R I h => thn (hl.run pins s σ H _ I h) fun v s1 ⟨x, H1, I1, r1, a, e, q⟩ => ?_⟩
  subst e
  cases r1
  have young : ∀ b ∈ [s1.heap.objs.size], FpOk X pins H1 b := fun b hb => by
    cases List.mem_singleton.mp hb
    exact I1.fpOk (Nat.le_refl _) (I1.hok.fresh (Nat.le_refl _))
  rcases q with ⟨⟨xs, hq⟩, q⟩ | ⟨⟨xs, hq⟩, q⟩
  · obtain ⟨_, _, p, _⟩ := I1.list hq
    exact wpAny_pyIter_list p.isList ⟨_, _, _, _, H1, rfl, I1.kept (t' := s1.toks) (fun b o z => Heap.get?_push_of_some _ z), turn_list a _, ⟨_, Heap.get?_push_size _ rfl, rfl, rfl⟩, young, q⟩
  · obtain ⟨its, _, p, _⟩ := I1.tuple hq
    exact wpAny_pyIter_tuple (show s1.heap.IsTuple a its.toArray from p) ⟨_, _, _, _, H1, rfl, I1.kept (t' := s1.toks) (fun b o z => Heap.get?_push_of_some _ z), turn_tuple a _, ⟨_, Heap.get?_push_size _ rfl, rfl, rfl⟩, young, q⟩

/-! ### the new list of a comprehension -/
theorem wipe_get {σ : L2.St} {i : Nat} : ∀ {vs : List Nat}, i ∉ vs → (wipe σ vs)[i]? = σ[i]?
  | [], _ => rfl
  | v :: vs, h => by
    unfold wipe
    rw [List.getElem?_set_ne (fun e => h (by rw [e]; exact List.mem_cons_self)), wipe_get fun q => h (List.mem_cons_of_mem _ q)]
theorem wipe_in {σ : L2.St} {i : Nat} : ∀ {vs : List Nat}, i ∈ vs → i < σ.length → (wipe σ vs)[i]? = some none
  | v :: vs, h, hi => by
    unfold wipe
    by_cases e : v = i
    · subst e
      rw [List.getElem?_set_self (by rw [wipe_length]; exact hi)]
    · rw [List.getElem?_set_ne e]
      exact wipe_in ((List.mem_cons.mp h).resolve_left fun q => e q.symm) hi
theorem wipe_eq {σ τ : L2.St} {vs ts : List Nat} (len : τ.length = (wipe σ vs).length) (keep : ∀ i, i ∉ ts → τ[i]? = (wipe σ vs)[i]?) (sub : ∀ i ∈ ts, i ∈ vs) : wipe τ vs = wipe σ vs := by
  rw [wipe_length] at len
  refine List.ext_getElem? fun i => ?_
  by_cases hi : i < σ.length
  · by_cases h : i ∈ vs
    · rw [wipe_in h hi, wipe_in h (by omega)]
    · rw [wipe_get h, keep i fun q => h (sub i q)]
  · rw [List.getElem?_eq_none (by rw [wipe_length]; omega), List.getElem?_eq_none (by rw [wipe_length]; omega)]
theorem wipeS_some {sl : Sl} {i : Nat} {v : PV} : ∀ {vs : List Nat}, lk (wipeS sl vs) i = some v → lk sl i = some v ∧ i ∉ vs
  | [], h => ⟨h, by simp⟩
  | w :: vs, h => by
    unfold wipeS lk at h
    by_cases e : w = i
    · subst e
      by_cases hv : w < (wipeS sl vs).length
      · rw [List.getElem?_set_self hv] at h; cases h
      · rw [List.getElem?_eq_none (by simpa using hv)] at h; cases h
    · rw [List.getElem?_set_ne e] at h
      obtain ⟨h1, h2⟩ := wipeS_some (vs := vs) (show lk (wipeS sl vs) i = some v from h)
      exact ⟨h1, by simp only [List.mem_cons, not_or]; exact ⟨fun q => e q.symm, h2⟩⟩
theorem wipeS_length (sl : Sl) : ∀ vs : List Nat, (wipeS sl vs).length = sl.length
  | [] => rfl
  | v :: vs => by unfold wipeS; rw [List.length_set, wipeS_length sl vs]
theorem SloR.wipe {K : PySem.W.Frag} {H : Hp} {M : Mp} {sl : Sl} {σ : L2.St} (s : SloR K H M sl σ) (vs : List Nat) : SloR K H M (wipeS sl vs) (wipe σ vs) := by
  refine ⟨by rw [wipeS_length, wipe_length]; exact s.len, fun i v h => ?_⟩
  obtain ⟨h1, h2⟩ := wipeS_some h
  obtain ⟨x, q1, q2⟩ := s.at' i v h1
  exact ⟨x, by rw [wipe_get h2]; exact q1, q2⟩
theorem evComp_len {f : PV → Cs → Option (Option PV × Cs)} : ∀ {vs : List PV} {cs cs' : Cs} {ys : List PV}, evComp f vs cs = some (ys, cs') → ys.length ≤ vs.length
  | [], cs, cs', ys, h => by simp [evComp] at h; obtain ⟨rfl, _⟩ := h; simp
  | v :: vs, cs, cs', ys, h => by
    simp only [evComp, Option.bind_eq_some_iff, Option.map_eq_some_iff, Prod.mk.injEq] at h
    obtain ⟨p, _, q, h2, h3, _⟩ := h
    have := evComp_len h2
    cases e : p.1 with
    | none => rw [e] at h3; subst h3; simp; omega
    | some y => rw [e] at h3; subst h3; simp; omega
/-- a test of a comprehension, if there is one -/
def TTo (K : PySem.W.Frag) (Φ : EvΦ) : CO → TT
  | .none => tYes
  | .some c => TTr K Φ c
theorem imp_lc {K : PySem.W.Frag} {Φ : EvΦ} {c : Bool} {elt : CE} {tg : CTg} {it : CI} {cond : CO} {own : List (Str × Nat)} (sub : ∀ i ∈ tgSlots tg, i ∈ own.map (·.2)) {σ : L2.St} {H : Hp} {Q : VK}
    (h : TEr K Φ (.comp c elt tg it cond own) σ H Q) : tLc (TIr K Φ it) (TGr K Φ tg) (TTo K Φ cond) (TEr K Φ elt) (own.map (·.2)) σ H Q := by
  obtain ⟨M, sl, cs, v, cs', cr, sr, e, q⟩ := h
  simp only [evE, Option.bind_eq_some_iff, Option.map_eq_some_iff] at e
  obtain ⟨⟨vals, c1⟩, e1, ⟨res, c2⟩, e2, e3⟩ := e
  refine ⟨M, sl, cs, vals, c1, cr, sr, e1, fun H1 M1 J x1 d1 jr D hD => ?_⟩
  obtain ⟨hlim, jr⟩ := jr
  simp only at e2 e3
  generalize hf : (fun v cs => (evTg Φ tg v (wipeS sl (own.map (·.2))) cs).bind fun q => (evO Φ cond q.1 q.2).bind fun r => match r.1 with
        | none => (evE Φ elt q.1 r.2).map fun s => (some s.1, s.2)
        | some (.bl true) => (evE Φ elt q.1 r.2).map fun s => (some s.1, s.2)
        | some (.bl false) => some (none, r.2)
        | _ => none) = f at e2
  let Pv : Nat → Hp → Prop := fun i Hh => ∃ Mh ch acc av rest, Ex H1 M1 Hh Mh ∧ CelR K Hh Mh ch ∧ D ∉ Mh.ρ ∧ ¬ Mh.F D ∧ Hh D = some (.lst av) ∧ VRs K Hh Mh acc av ∧ evComp f (vals.drop i) ch = some (rest, c2) ∧ acc ++ rest = res ∧ i ≤ vals.length ∧ av.length ≤ i
  refine ⟨fun i m Hh => m = vals.length - i ∧ Pv i Hh, ⟨vals.length, by simp, ?_⟩, ?_⟩
  · refine ⟨M1, c1, [], [], res, Ex.new d1 hD M1.F (fun _ h => h) (fun _ h _ => h), CelR.new d1 hD M1.F (fun _ h => h) (fun _ h _ => h), d1.nmem hD, d1.nF hD, upd_same, rfl, by simpa using e2, rfl, Nat.zero_le _, by simp⟩
  · rintro i m Hh ⟨rfl, Mh, ch, acc, av, rest, ex, dh, nr, nF, hDh, ra, ev, er, hi, hav⟩
    have hz := evComp_len ev
    rw [List.length_drop] at hz
    obtain ⟨jgo, jst, jy⟩ := jr Hh Mh ch ex.toEw dh
    by_cases hlt : i < vals.length
    · refine .inr ⟨jgo i hlt, Pv (i + 1), fun H' p => ⟨vals.length - (i + 1), by omega, rfl, p⟩, fun x H' hy => ?_⟩
      obtain ⟨v1, hv1⟩ := get_lt hlt
      have hdrop : vals.drop i = v1 :: vals.drop (i + 1) := by
        rw [List.drop_eq_getElem_cons hlt]
        congr 1
        rw [List.getElem?_eq_getElem hlt] at hv1
        exact Option.some.inj hv1
      rw [hdrop] at ev
      simp only [evComp, Option.bind_eq_some_iff, Option.map_eq_some_iff, Prod.mk.injEq] at ev
      obtain ⟨⟨py, c3⟩, f1, ⟨ys, c4⟩, f2, f3, f4⟩ := ev
      simp only at f2 f3 f4
      subst f4
      obtain ⟨y1, y2, y3⟩ := jy i v1 x H' hv1 hy
      rw [← hf] at f1
      simp only [Option.bind_eq_some_iff] at f1
      obtain ⟨⟨sl2, c5⟩, g1, ⟨tr, c6⟩, g2, g3⟩ := f1
      have s0 : SloR K H' Mh (wipeS sl (own.map (·.2))) (wipe σ (own.map (·.2))) := (sr.ew ((x1.toEw.trans ex.toEw).trans y1.toEw)).wipe _
      refine ⟨Mh, _, ch, v1, sl2, c5, y2, s0, y3, g1, fun σ2 H2 M2 z2 d2 s2 len keep => ⟨wipe_eq len keep sub, ?_⟩⟩
      -- the test
      have go : ∀ (b : Bool) (H3 : Hp) (M3 : Mp), Ex H2 M2 H3 M3 → CelR K H3 M3 c6 → (if b = true then (evE Φ elt sl2 c6).map (fun s => ((some s.1, s.2) : Option PV × Cs)) else some (none, c6)) = some (py, c3) →
          if b = true then TEr K Φ elt σ2 H3 fun y H4 => ∃ acc, H4 D = some (.lst acc) ∧ acc.length < sizeLine ∧ Pv (i + 1) (upd H4 D (.lst (acc ++ [y]))) else Pv (i + 1) H3 := by
        intro b H3 M3 z3 d3 g4
        have E3 := (y1.trans z2).trans z3
        have D3 : D ∉ M3.ρ ∧ ¬ M3.F D := ⟨fun h => (E3.nw D h).elim nr fun q => (by rw [hDh] at q; cases q), fun h => (E3.nF D h).elim nF fun q => q.elim nr fun q => (by rw [hDh] at q; cases q)⟩
        have H3D : H3 D = some (.lst av) := E3.oth D _ hDh nr
        cases b with
        | false =>
          simp only [Bool.false_eq_true, if_false, Option.some.injEq, Prod.mk.injEq] at g4 ⊢
          obtain ⟨rfl, rfl⟩ := g4
          exact ⟨M3, c6, acc, av, rest, ex.trans E3, d3, D3.1, D3.2, H3D, VRs.ex E3 ra, by rw [f2, ← f3], er, hlt, by omega⟩
        | true =>
          simp only [if_true, Option.map_eq_some_iff, Prod.mk.injEq] at g4 ⊢
          obtain ⟨⟨w, c7⟩, g5, rfl, rfl⟩ := g4
          refine ⟨M3, sl2, c6, w, c7, d3, s2.ex z3, g5, fun H4 M4 y z4 d4 r4 => ⟨av, (E3.trans z4).oth D _ hDh nr, by rw [← LIM_eq]; omega, ?_⟩⟩
          have E4 := E3.trans z4
          have D4 : D ∉ M4.ρ ∧ ¬ M4.F D := ⟨fun h => (E4.nw D h).elim nr fun q => (by rw [hDh] at q; cases q), fun h => (E4.nF D h).elim nF fun q => q.elim nr fun q => (by rw [hDh] at q; cases q)⟩
          have H4D : H4 D = some (.lst av) := E4.oth D _ hDh nr
          have w4 : Ew H4 M4 (upd H4 D (.lst (av ++ [y]))) M4 := Ew.updD H4D D4.2
          refine ⟨M4, c7, acc ++ [w], av ++ [y], ys, (ex.trans E4).updD hD, d4.updD H4D D4.2 D4.1, D4.1, D4.2, upd_same, VRs.app (VRs.ew w4 (VRs.ex E4 ra)) (VRs.one (r4.ew w4)), f2, ?_, hlt, by rw [List.length_append, List.length_singleton]; omega⟩
          rw [← er, ← f3]
          simp
      cases cond with
      | none =>
        simp only [evO, Option.some.injEq, Prod.mk.injEq] at g2
        obtain ⟨rfl, rfl⟩ := g2
        exact go true H2 M2 Ex.refl d2 (by simpa using g3)
      | some cd =>
        simp only [evO, Option.map_eq_some_iff, Prod.mk.injEq] at g2
        obtain ⟨⟨bv, c8⟩, g5, rfl, rfl⟩ := g2
        cases bv with
        | bl b => exact ⟨M2, sl2, c5, b, c8, d2, s2, g5, fun H3 M3 z3 d3 => go b H3 M3 z3 d3 (by cases b <;> simpa using g3)⟩
        | _ => simp at g3
    · have hE : i = vals.length := by omega
      subst hE
      rw [List.drop_length] at ev
      simp only [evComp, Option.some.injEq, Prod.mk.injEq] at ev
      obtain ⟨rfl, rfl⟩ := ev
      rw [List.append_nil] at er
      subst er
      obtain ⟨M', x', d', r'⟩ := end_alc c ex hD dh hDh nF nr ra (by omega)
      refine .inl ⟨jst _ (Nat.le_refl _), q Hh M' _ (x1.trans x') ?_ ?_⟩
      · rw [e3] at d'; exact d'
      · rw [e3] at r'; exact r'

/-! ### for, while -/
theorem imp_for {K : PySem.W.Frag} {Φ : EvΦ} {W : Nat} {t : CTg} {it : CI} {body : CB} {D : Ends} {σ : L2.St} {H : Hp} (h : TSr K Φ W (.loop t it body) D σ H) : tFor (TIr K Φ it) (TGr K Φ t) (TBr K Φ W body) D σ H := by
  obtain ⟨M, sl, cs, o, sl', cs', cr, sr, e, q⟩ := h
  simp only [evS, Option.bind_eq_some_iff] at e
  obtain ⟨⟨vals, c1⟩, e1, e2⟩ := e
  refine ⟨M, sl, cs, vals, c1, cr, sr, e1, fun H1 M1 J x1 d1 jr => ?_⟩
  obtain ⟨hlim, jr⟩ := jr
  simp only at e2
  generalize hf : (fun (v : PV) (sl : Sl) (cs : Cs) => (evTg Φ t v sl cs).bind fun q => evB Φ W body q.1 q.2) = f at e2
  let Pv : Nat → L2.St → Hp → Prop := fun i σh Hh => ∃ Mh slh ch, Ex H1 M1 Hh Mh ∧ CelR K Hh Mh ch ∧ SloR K Hh Mh slh σh ∧ evFor f (vals.drop i) slh ch = some (o, sl', cs') ∧ i ≤ vals.length
  refine ⟨fun i m σh Hh => m = vals.length - i ∧ Pv i σh Hh, ⟨vals.length, by simp, M1, sl, c1, Ex.refl, d1, sr.ex x1, by simpa using e2, Nat.zero_le _⟩, ?_⟩
  rintro i m σh Hh ⟨rfl, Mh, slh, ch, ex, dh, sh, ev, hi⟩
  obtain ⟨jgo, jst, jy⟩ := jr Hh Mh ch ex.toEw dh
  by_cases hlt : i < vals.length
  · refine .inr ⟨jgo i hlt, Pv (i + 1), fun σ' H' p => ⟨vals.length - (i + 1), by omega, rfl, p⟩, fun x H' hy => ?_⟩
    obtain ⟨v1, hv1⟩ := get_lt hlt
    have hdrop : vals.drop i = v1 :: vals.drop (i + 1) := by
      rw [List.drop_eq_getElem_cons hlt]
      congr 1
      rw [List.getElem?_eq_getElem hlt] at hv1
      exact Option.some.inj hv1
    rw [hdrop] at ev
    simp only [evFor, Option.bind_eq_some_iff] at ev
    obtain ⟨⟨o1, sl3, c3⟩, f1, f2⟩ := ev
    obtain ⟨y1, y2, y3⟩ := jy i v1 x H' hv1 hy
    rw [← hf] at f1
    simp only [Option.bind_eq_some_iff] at f1
    obtain ⟨⟨sl2, c2⟩, g1, g2⟩ := f1
    refine ⟨Mh, slh, ch, v1, sl2, c2, y2, sh.ex y1, y3, g1, fun σ2 H2 M2 z2 d2 s2 _ _ => ⟨M2, sl2, c2, o1, sl3, c3, d2, s2, g2, fun σ3 H3 M3 z3 d3 s3 => ?_⟩⟩
    have E := ((ex.trans y1).trans z2).trans z3
    cases o1 with
    | nx => exact ⟨M3, sl3, c3, E, d3, s3, f2, hlt⟩
    | ct => exact ⟨M3, sl3, c3, E, d3, s3, f2, hlt⟩
    | bk =>
      simp only [Option.some.injEq, Prod.mk.injEq] at f2
      obtain ⟨rfl, rfl, rfl⟩ := f2
      exact q σ3 H3 M3 (x1.trans E) d3 s3
    | rt u =>
      simp only [Option.some.injEq, Prod.mk.injEq] at f2
      obtain ⟨rfl, rfl, rfl⟩ := f2
      exact q σ3 H3 M3 (x1.trans E) d3 s3
  · have hE : i = vals.length := by omega
    subst hE
    rw [List.drop_length] at ev
    simp only [evFor, Option.some.injEq, Prod.mk.injEq] at ev
    obtain ⟨rfl, rfl, rfl⟩ := ev
    exact .inl ⟨jst _ (Nat.le_refl _), q σh Hh Mh (x1.trans ex) dh sh⟩
theorem imp_while {K : PySem.W.Frag} {Φ : EvΦ} {W : Nat} {t : CE} {body : CB} {D : Ends} {σ : L2.St} {H : Hp} (h : TSr K Φ W (.while t body) D σ H) : tWhile (TTr K Φ t) (TBr K Φ W body) D σ H := by
  obtain ⟨M, sl, cs, o, sl', cs', cr, sr, e, q⟩ := h
  simp only [evS] at e
  refine ⟨fun m σh Hh => ∃ Mh slh ch, Ex H M Hh Mh ∧ CelR K Hh Mh ch ∧ SloR K Hh Mh slh σh ∧ evWhile (fun sl cs => evE Φ t sl cs) (fun sl cs => evB Φ W body sl cs) m slh ch = some (o, sl', cs'), ⟨W, M, sl, cs, Ex.refl, cr, sr, e⟩, ?_⟩
  rintro m σh Hh ⟨Mh, slh, ch, ex, dh, sh, ev⟩
  cases m with
  | zero => simp [evWhile] at ev
  | succ m =>
    simp only [evWhile, Option.bind_eq_some_iff] at ev
    obtain ⟨⟨bv, c1⟩, f1, f2⟩ := ev
    cases bv with
    | bl b =>
      refine ⟨Mh, slh, ch, b, c1, dh, sh, f1, fun H1 M1 x1 d1 => ?_⟩
      cases b with
      | false =>
        simp only [Option.some.injEq, Prod.mk.injEq] at f2
        obtain ⟨rfl, rfl, rfl⟩ := f2
        rw [if_neg Bool.false_ne_true]
        exact q σh H1 M1 (ex.trans x1) d1 (sh.ex x1)
      | true =>
        simp only [Option.bind_eq_some_iff] at f2
        obtain ⟨⟨o1, sl3, c3⟩, g1, g2⟩ := f2
        rw [if_pos rfl]
        refine ⟨fun σ' H' => ∃ Mh slh ch, Ex H M H' Mh ∧ CelR K H' Mh ch ∧ SloR K H' Mh slh σ' ∧ evWhile (fun sl cs => evE Φ t sl cs) (fun sl cs => evB Φ W body sl cs) m slh ch = some (o, sl', cs'), fun σ' H' p => ⟨m, Nat.lt_succ_self m, p⟩,
          M1, slh, c1, o1, sl3, c3, d1, sh.ex x1, g1, fun σ3 H3 M3 z3 d3 s3 => ?_⟩
        have E := (ex.trans x1).trans z3
        cases o1 with
        | nx => exact ⟨M3, sl3, c3, E, d3, s3, g2⟩
        | ct => exact ⟨M3, sl3, c3, E, d3, s3, g2⟩
        | bk =>
          simp only [Option.some.injEq, Prod.mk.injEq] at g2
          obtain ⟨rfl, rfl, rfl⟩ := g2
          exact q σ3 H3 M3 E d3 s3
        | rt u =>
          simp only [Option.some.injEq, Prod.mk.injEq] at g2
          obtain ⟨rfl, rfl, rfl⟩ := g2
          exact q σ3 H3 M3 E d3 s3
    | _ => simp at f2
end Ev
end

section
set_option maxHeartbeats 4000000
/-! enumerate(tuple) -/
namespace EvT
open PySem PySem.Spec PyProof.Rows L2 Ev
set_option maxHeartbeats 1000000 in
theorem new_one {v : Value} {o : Obj} {H : Heap → Prop} (B : Begins v o H) :
    Meets (Builtin.«enumerate.__new__» ⟨[.type "enumerate", v], []⟩) (fun _ R s => H s.heap ∧
      R (.ok (.ret (.ref (s.heap.push o).objs.size))) { s with heap := (s.heap.push o).push { cls := .type "enumerate", data := .fields #[.none, .bool false, .ref s.heap.objs.size, rawInt 0, .none, .none] } }) :=
  .of_wp fun prog w A R s h => by
    obtain ⟨hp, g, d, tk, os⟩ := s; obtain ⟨h1, h⟩ := h
    have hsub := sub_enumerate
    have q1 : ∀ {A' : Around} {E : Value → Shared → Prop} {Q : Value → Shared → Prop}, Q (.ref hp.objs.size) ⟨hp.push o, g, d, tk, os⟩ → wpAny (model prog w) A' (pyIter v) Q E ⟨hp, g, d, tk, os⟩ :=
      fun q => B.iter prog w _ _ ⟨hp, g, d, tk, os⟩ _ h1 q
    wp_walk using q1
    refine wpAny_stack_any fun st => wpAny_pure ?_
    split
    · rename_i c _ _ _ _ _
      cases (c == Value.type "enumerate")
      · wp_walk using q1
        exact ⟨_, rfl, h⟩
      · wp_walk using q1
        exact ⟨_, rfl, h⟩
    · wp_walk using q1
      exact ⟨_, rfl, h⟩
section
variable {prog : Program} {w : World} {A : Around} {E : Value → Shared → Prop} {s : Shared}
theorem enum_one {v : Value} {o : Obj} {H : Heap → Prop} {Q : Value → Shared → Prop} (B : Begins v o H) (h1 : H s.heap)
    (h : ∀ h', IsEnum h' (s.heap.objs.size + 1) s.heap.objs.size 0 .none → h'.get? s.heap.objs.size = some o → h'.objs.size = s.heap.objs.size + 2 →
      (∀ b o, s.heap.get? b = some o → h'.get? b = some o) → Q (.ref (s.heap.objs.size + 1)) { s with heap := h' }) :
    wpAny (model prog w) A (call (.type "enumerate") [v]) Q E s := by
  refine callType_new F.called_enumerate (by decide) (F.typeCall_enumerate_1 _) (F.newCall_enumerate_1 _) (fun obj => F.args_object_init_2 obj _) F.entry_enumerate_new (new_one B) ⟨h1, ?_⟩
  have hz : (s.heap.push o).objs.size = s.heap.objs.size + 1 := Heap.size_push ..
  show _ ∧ _
  rw [hz]
  have he : IsEnum ((s.heap.push o).push { cls := .type "enumerate", data := .fields #[.none, .bool false, .ref s.heap.objs.size, rawInt 0, .none, .none] }) (s.heap.objs.size + 1) s.heap.objs.size 0 .none := by
    have := Heap.get?_push_size (s.heap.push o) (o := { cls := .type "enumerate", data := .fields #[.none, .bool false, .ref s.heap.objs.size, rawInt 0, .none, .none] }) rfl
    rw [hz] at this; exact this
  exact ⟨⟨_, he, rfl⟩, h _ he (Heap.get?_push_of_some _ (Heap.get?_push_size _ B.free)) (by rw [Heap.size_push, hz]) fun b o x => Heap.get?_push_of_some _ (Heap.get?_push_of_some _ x)⟩
end
/-- the tuple at a, its items in new pairs -/
def IteT (K : PySem.W.Frag) (a : Addr) : It :=
  ⟨fun i H => ∃ (xs : List V) (x : V), SqT K H a xs ∧ xs[i]? = some x,
    fun i H v H' => ∃ T x, v = .ref T ∧ H T = none ∧ H' = upd H T (.tup [.int (i : Nat), x]) ∧ ∀ xs, SqT K H a xs → xs[i]? = some x,
    fun i H => ∃ xs : List V, SqT K H a xs ∧ xs.length ≤ i⟩
theorem turn_enT {P : Program} {w : World} {K : PySem.W.Frag} {elts : List Expr} {kk : Nat} {tpos : Pos} (a e it : Addr) :
    Turn P w K (.Tuple elts kk tpos) (IteT K a) [e, it] e (fun i h => (∃ old, IsEnum h e it ((i : Nat) : Int) old) ∧ h.IsTupleIter it a i ∧ e ≠ it) where
  mem := by simp
  obj := fun i h st b hb => by
    obtain ⟨⟨old, he⟩, ⟨o, ho, _, hd⟩, _⟩ := st
    have e' : b = e ∨ b = it := by simpa using hb
    rcases e' with z | z
    · rw [z]; exact ⟨_, he, fun v q => nomatch q⟩
    · rw [z]; exact ⟨o, ho, fun v q => by rw [hd] at q; cases q⟩
  keep := fun i h h' st k => let ⟨⟨old, he⟩, hi, hne⟩ := st; ⟨⟨old, k e (by simp) _ he⟩, hi.at fun o q => k it (by simp) o q, hne⟩
  item := by
    intro X hP hw hK hc i pins s σ H E I hf st hg
    subst hP hw hK
    obtain ⟨⟨old, he⟩, hit, hne⟩ := st
    obtain ⟨xs, x, hq, hx⟩ := hg
    obtain ⟨its, rv, p, _⟩ := I.tuple hq
    obtain ⟨u, hu, ru⟩ := rv.get hx
    have hel : e < s.heap.objs.size := Heap.lt_size he
    obtain ⟨o1, e1, c1, d1⟩ := id hit
    obtain ⟨o2, e2, c2, d2⟩ := id p
    have n1 : a ≠ it := fun z => by rw [z, e1] at e2; cases e2; rw [c1] at c2; exact absurd c2 (by decide)
    have n2 : e ≠ a := fun z => by rw [← z, he] at e2; cases e2; exact absurd (show Value.type "enumerate" = Value.type "tuple" from c2) (by decide)
    have hil : it < s.heap.objs.size := Heap.lt_size e1
    have hlt : i < its.toArray.size := by
      have := (List.getElem?_eq_some_iff.mp hu).1
      simpa using this
    refine wpAny_pyNext_enum_itemC (Draws.tuple (A := X.A.in1) (I.ok.hd hc) it a n1 its.toArray) he ⟨hit, show s.heap.IsTuple a its.toArray from p⟩ hlt hne (by simp [hne, n2]) fun y h' tk hy ho hit' hT hsz hk => ?_
    have hyu : y = u := by
      have : its.toArray[i]? = some u := by simpa using hu
      rw [this] at hy; exact (Option.some.inj hy).symm
    subst hyu
    refine ⟨_, rfl, wpAny_letOwnedTupleGo_enum (s := { s with heap := h', toks := tk + 1 }) ho fun h'' he' sb => ?_⟩
    have hT2 : h''.get? s.heap.objs.size = some { cls := .type "tuple", data := .seq #[.int i tk, y] } := (sb.2 _ (Nat.ne_of_gt hel)).trans hT
    have new : ObjOk X.prog X.w (upd H s.heap.objs.size (.tup [.int (i : Nat), x])) h'' s.heap.objs.size (.tup [.int (i : Nat), x]) :=
      ⟨by show 2 ≤ sizeLine; decide, [.int i tk, y], .cons ⟨_, rfl⟩ (.cons ru .nil), ⟨_, hT2, rfl, _, rfl⟩⟩
    have I1 : Inv X pins σ (upd H s.heap.objs.size (.tup [.int (i : Nat), x])) { s with heap := h'', toks := tk + 1 } :=
      I.turnedNew (ch := [e, it]) (fun b ob hb q => (sb.2 b (fun z => hb (by simp [z]))).trans (hk b ob (fun z => hb (by simp [z])) (fun z => hb (by simp [z])) q)) hf (Nat.le_refl _) new
    refine ⟨.ref s.heap.objs.size, _, I1, rfl, ⟨_, x, rfl, I.hok.fresh (Nat.le_refl _), rfl, fun ys hy => by rw [I.tuple_inj hy hq]; exact hx⟩, ⟨⟨y, ?_⟩, hit'.1.at fun o q => (sb.2 it (Ne.symm hne)).trans q, hne⟩, fun b hb => ?_⟩
    · have e1 : ((i + 1 : Nat) : Int) = (i : Int) + 1 := by omega
      rw [e1]; exact he'
    · have hb' : b < s.heap.objs.size := by
        have e' : b = e ∨ b = it := by simpa using hb
        rcases e' with z | z
        · rw [z]; exact hel
        · rw [z]; exact hil
      rw [upd_ne (Nat.ne_of_lt hb')]
      exact (hf b hb).1
  done := by
    intro X hP hw hK hc i pins s σ H E I hf st hg
    subst hP hw hK
    obtain ⟨⟨old, he⟩, hit, hne⟩ := st
    obtain ⟨xs, hq, hx⟩ := hg
    obtain ⟨its, rv, p, _⟩ := I.tuple hq
    obtain ⟨f0, f1, f2, f3, f4, f5⟩ := hf it (by simp)
    have hl := rv.length
    have hT : s.TypeIs (.ref e) "enumerate" := ⟨_, he, rfl⟩
    unfold pyNext
    refine wpAny_bind (wpAny_attempt (wpAny_callSpecial?_slot (name := Str.ofString "__next__") hT F.slot_enumerate_next (wpAny_call_entry F.slot_enumerate_next hT F.entry_enumerate_next ?_ (F.args_enumerate_next_1 _))))
    show wpAny _ _ (field (.ref e) 2 >>= _) _ _ _
    refine wpAny_bind (wpAny_field he rfl (x := .ref it) rfl ?_)
    refine wpAny_bind (wpAny_nextOf_tuple_end (I.ok.hd hc) hit (show s.heap.IsTuple a its.toArray from p) (by simp; omega) fun h' x he' hx' => ?_)
    obtain ⟨o, ho, hcl⟩ := hx'
    refine wpAny_bind (wpAny_isInstance (T := "StopIteration") (b := true) ⟨o, ho, hcl⟩ isSubtype_stop ?_)
    exact wpAny_pure ⟨rfl, I.turned (t' := s.toks) (fun b o hb q => he' b o hb q) f0 f1 f3 f4 f5⟩
  self := fun A i s Q E st h => let ⟨⟨_, he⟩, _⟩ := st; wpAny_pyIter_enum he h
def iEnT (K : PySem.W.Frag) (ta : TA) : TI := fun σ H R => ta σ H fun vs H1 => ∃ a xs, vs = [.ref a] ∧ ((SqL K H1 a xs ∧ R (Ite K a) H1) ∨ (SqT K H1 a xs ∧ R (IteT K a) H1))
theorem pi_enT {X : Cx} {e : Expr} {ta : TA} {p pos tpos : Pos} {elts : List Expr} {kk : Nat} (hg : Gl X "enumerate") (hm : X.mg "enumerate" = none) (ha : PA X [e] ta) (hs : starEach [e] X.env = [(false, eval e X.env)] := by rfl) :
    PI X (.Tuple elts kk tpos) (.Call (.Name "enumerate" p) [e] [] pos) (iEnT X.K ta) := by
  refine ⟨fun pins s σ H R I h => ?_⟩
  refine Call_ (ld_blt I hg hm boot_enumerate (PyProof.Rows.callWith_type1 (thn (ha.run pos pins s σ H _ I h) fun us s1 ⟨vs, H1, I1, r1, q1⟩ => ?_) hs rfl))
  obtain ⟨a, xs, ex, q⟩ := q1
  subst ex
  cases r1 with
  | cons r rr =>
    cases rr
    cases r
    have fresh : ∀ b ∈ [s1.heap.objs.size + 1, s1.heap.objs.size], FpOk X pins H1 b := fun b hb => by
      have e' : b = s1.heap.objs.size + 1 ∨ b = s1.heap.objs.size := by simpa using hb
      have hle : s1.heap.objs.size ≤ b := by
        rcases e' with z | z
        · rw [z]; exact Nat.le_add_right _ _
        · rw [z]; exact Nat.le_refl _
      exact I1.fpOk hle (I1.hok.fresh hle)
    rcases q with ⟨hq, q⟩ | ⟨hq, q⟩
    · obtain ⟨its, rv, p', hz⟩ := I1.list hq
      refine call_enumerate_list p'.isList fun h' he hit hsz hk => wpAny_pyIter_enum he ?_
      have I2 : Inv X pins σ H1 { s1 with heap := h' } := I1.kept (t' := s1.toks) hk
      exact ⟨s1.heap.objs.size + 1, [s1.heap.objs.size + 1, s1.heap.objs.size], _, _, H1, rfl, I2, turn_enum a (s1.heap.objs.size + 1) s1.heap.objs.size, ⟨⟨.none, he⟩, hit, Nat.succ_ne_self _⟩, fresh, q⟩
    · obtain ⟨its, rv, p', _⟩ := I1.tuple hq
      refine enum_one (begins_tuple a its.toArray) (show s1.heap.IsTuple a its.toArray from p') fun h' he hit hsz hk => wpAny_pyIter_enum he ?_
      have I2 : Inv X pins σ H1 { s1 with heap := h' } := I1.kept (t' := s1.toks) hk
      exact ⟨s1.heap.objs.size + 1, [s1.heap.objs.size + 1, s1.heap.objs.size], _, _, H1, rfl, I2, turn_enT a (s1.heap.objs.size + 1) s1.heap.objs.size, ⟨⟨.none, he⟩, ⟨_, hit, rfl, rfl⟩, Nat.succ_ne_self _⟩, fresh, q⟩
theorem jr_enT {K : PySem.W.Frag} {vs : List PV} {xs : List V} {H : Hp} {M : Mp} {a : Addr} (hl : xs.length ≤ LIM) (h : SqT K H a xs) (r : VRs K H M vs xs) : JR K (IteT K a) (enumO 0 vs) H M := by
  have len := r.length
  refine ⟨by rw [enum_len]; omega, fun H2 M2 cs e c => ⟨fun i hi => ?_, fun i hi => ⟨xs, SqT.ew e h, by rw [enum_len] at hi; omega⟩, fun i v x H3 hv hy => ?_⟩⟩
  · rw [enum_len] at hi
    obtain ⟨x, hx⟩ := get_lt (l := xs) (i := i) (by omega)
    exact ⟨xs, x, SqT.ew e h, hx⟩
  · obtain ⟨T, y, rfl, hT, rfl, q⟩ := hy
    obtain ⟨u, hu, rfl⟩ := enum_get hv
    obtain ⟨z, h1, h2⟩ := r.get hu
    rw [q xs (SqT.ew e h)] at h1; cases h1
    refine new_tup c hT ?_ (by show 2 ≤ LIM; decide)
    simp only [VRs]
    exact ⟨_, _, rfl, by rw [Nat.zero_add]; exact vr_int, _, _, rfl, h2.ew e, rfl⟩
end EvT
end

section
set_option maxHeartbeats 4000000
/-! soundness: the parts -/
namespace Ev
open PySem L2 PyProof.Rows
section
variable {G : GE} {Φ : EvΦ} {k : Nat} {S : SCx} {X : Cx}
theorem bl_boot : ∀ f : Bl, f ≠ .tupRng → bootBuiltins (blName f) = some (blVal f)
  | .abs, _ => boot_abs | .len, _ => boot_len | .max2, _ => boot_max | .min2, _ => boot_min | .maxL, _ => boot_max | .minL, _ => boot_min | .sum, _ => boot_sum | .any, _ => boot_any
  | .all, _ => boot_all | .sorted, _ => boot_sorted | .int, _ => boot_int | .divmod, _ => boot_divmod | .tuple, _ => boot_tuple | .list, _ => boot_list | .repr, _ => boot_repr
  | .tupRng, h => absurd rfl h
theorem bl_call (g : GX G Φ k S X) {c : Bool} : ∀ f : Bl, f ≠ .tupRng → CallR X (blVal f) (rF X.K f c)
  | .abs, _ => blt_abs | .len, _ => blt_len | .max2, _ => blt_max2 g.calm | .min2, _ => blt_min2 g.calm | .maxL, _ => blt_maxL g.calm | .minL, _ => blt_minL g.calm
  | .sum, _ => blt_sum g.calm | .any, _ => blt_any g.calm | .all, _ => blt_all g.calm | .sorted, _ => blt_sorted g.hu
  | .int, _ => blt_int | .divmod, _ => blt_divmod | .tuple, _ => blt_tuple | .list, _ => blt_list
  | .repr, _ => let ⟨_, sm⟩ := g.gf.sm; blt_repr sm g.gd g.hu
  | .tupRng, h => absurd rfl h
theorem pe_blt (g : GX G Φ k S X) {c : Bool} {e : Expr} {es : List Expr} {t : TA} {p pos : Pos} (f : Bl) (hf : f ≠ .tupRng) (hg : Gl X (blName f)) (hm : X.mg (blName f) = none) (ha : PA X (e :: es) t) (hs : (e :: es).all notStar = true) :
    PE X (.Call (.Name (blName f) p) (e :: es) [] pos) (tCB (rF X.K f c) t) := by
  rw [List.all_cons, Bool.and_eq_true] at hs
  have h1 := star_cons (es := es) (env := X.env) hs.1
  have h2 := star_all (env := X.env) (pos := pos) hs.2
  have hc := bl_call g (c := c) f hf
  have hv := bl_boot f hf
  cases f <;> first
    | exact pe_callB hc hg hm hv ha (by decide) (by decide) h1 h2
    | exact pe_callTy hc hg hm hv ha (by decide) (by decide) h1 h2
    | exact absurd rfl hf
structure SE (Φ : EvΦ) (X : Cx) (e : CE) (ast : Expr) : Prop where
  pe : PE X ast (TEr X.K Φ e)
  pt : notIf ast = true → PT X ast (TTr X.K Φ e)
  pw : (∃ op vs p, ast = .BoolOp op vs p) → PW X ast (TTr X.K Φ e)
theorem tt_of {K : PySem.W.Frag} {e : CE} {σ : L2.St} {H : Hp} {Q : Bool → Hp → Prop} (h : TTr K Φ e σ H Q) : tB (TEr K Φ e) σ H Q := by
  obtain ⟨M, sl, cs, b, cs', c, s, ev, q⟩ := h
  exact ⟨M, sl, cs, .bl b, cs', c, s, ev, fun H' M' x ex d r => ⟨b, pv_bl r, q H' M' ex d⟩⟩
theorem tt_of' {K : PySem.W.Frag} {e : CE} {σ : L2.St} {H : Hp} {Q : Bool → Hp → Prop} (h : TTr K Φ e σ H Q) : tTest (TEr K Φ e) σ H Q := by
  obtain ⟨M, sl, cs, b, cs', c, s, ev, q⟩ := h
  exact ⟨M, sl, cs, .bl b, cs', c, s, ev, fun H' M' x ex d r => ⟨b, pv_bl r, q H' M' ex d⟩⟩
theorem SE.val {e : CE} {ast : Expr} (h : PE X ast (TEr X.K Φ e)) (nb : ∀ op vs p, ast ≠ .BoolOp op vs p) (he : ∀ whole, isTrue ast X.env whole = (do let v ← whole; standAt ast.pos; holding [v] (truthy v))) : SE Φ X e ast :=
  ⟨h, fun _ => PTm (pt_val h he) fun _ _ _ q => tt_of q, fun ⟨op, vs, p, e⟩ => absurd e (nb op vs p)⟩

/-! ### names, constants -/
theorem s_name {K : PySem.W.Frag} {i : Nat} {σ : L2.St} {H : Hp} {Q : VK} (h : TEr K Φ (.var i) σ H Q) : tVar i σ H Q := by
  obtain ⟨M, sl, cs, v, cs', c, s, e, q⟩ := h
  simp only [evE, Option.map_eq_some_iff, Prod.mk.injEq] at e
  obtain ⟨w, e1, rfl, rfl⟩ := e
  obtain ⟨x, h1, h2⟩ := s.at' i w e1
  exact ⟨x, h1, q H M x Ex.refl c h2⟩
theorem s_mv {K : PySem.W.Frag} {i : Nat} {σ : L2.St} {H : Hp} {Q : VK} (h : TEr K Φ (.mv i) σ H Q) : tVar i σ H Q := by
  obtain ⟨M, sl, cs, v, cs', c, s, e, q⟩ := h
  simp only [evE, Option.bind_eq_some_iff] at e
  obtain ⟨w, e1, e2⟩ := e
  obtain ⟨x, h1, h2⟩ := s.at' i w e1
  obtain ⟨M', ex, d, r⟩ := frz_ok c h2 e2
  exact ⟨x, h1, q H M' x ex d r⟩
theorem s_cst {K : PySem.W.Frag} {v : PV} {x : V} {σ : L2.St} {H : Hp} {Q : VK} (r : ∀ H M, VR K H M v x) (h : TEr K Φ (.cst v) σ H Q) : tC x σ H Q := by
  obtain ⟨M, sl, cs, w, cs', c, s, e, q⟩ := h
  simp only [evE, Option.some.injEq, Prod.mk.injEq] at e
  obtain ⟨rfl, rfl⟩ := e
  exact q H M x Ex.refl c (r H M)
theorem s_glo {K : PySem.W.Frag} {v : PV} {n : Str} {x : V} {σ : L2.St} {H : Hp} {Q : VK} (r : ∀ H M, VR K H M v x) (h : TEr K Φ (.glo n v) σ H Q) : tC x σ H Q := by
  obtain ⟨M, sl, cs, w, cs', c, s, e, q⟩ := h
  simp only [evE, Option.some.injEq, Prod.mk.injEq] at e
  obtain ⟨rfl, rfl⟩ := e
  exact q H M x Ex.refl c (r H M)
theorem pe_const {v : PV} {c : Const} {j : Nat} {pos : Pos} (h : cstB v c = true) : PE X (.Constant c j pos) (TEr X.K Φ (.cst v)) := by
  cases v <;> cases c <;> try (simp [cstB] at h; done)
  · exact PEm pe_non fun _ _ _ q => s_cst (fun _ _ => vr_non) q
  · simp only [cstB, beq_iff_eq] at h
    subst h
    exact PEm pe_bl fun _ _ _ q => s_cst (fun _ _ => vr_bl) q
  · simp only [cstB, decide_eq_true_eq] at h
    subst h
    exact PEm pe_int fun _ _ _ q => s_cst (fun _ _ => vr_int) q
  · simp only [cstB, decide_eq_true_eq] at h
    subst h
    exact PEm pe_str fun _ _ _ q => s_cst (fun _ _ => vr_str) q
theorem scl_eq {v w : PV} (h : sclB v w = true) : v = w := by
  cases v <;> cases w <;> first | rfl | (simp [sclB] at h; done) | (simp only [sclB, beq_iff_eq, decide_eq_true_eq] at h; subst h; rfl)

/-! ### one step over parts that are known -/
section
variable {K : PySem.W.Frag} {σ : L2.St} {H : Hp} {Q : VK}
theorem s_bin {op : Operator} {c : Bool} {a b : CE} (h : TEr K Φ (.bin op c a b) σ H Q) : tOp (rB K (opB op c)) (TEr K Φ a) (TEr K Φ b) σ H Q := by
  obtain ⟨M, sl, cs, v, cs', cr, s, e, q⟩ := h
  simp only [evE, Option.bind_eq_some_iff] at e
  obtain ⟨⟨va, c1⟩, e1, ⟨vb, c2⟩, e2, e3⟩ := e
  exact ⟨M, sl, cs, va, c1, cr, s, e1, fun H1 M1 x x1 d1 r1 => ⟨M1, sl, c1, vb, c2, d1, s.ex x1, e2, fun H2 M2 y x2 d2 r2 =>
    ⟨M2, c2, va, vb, v, cs', d2, r1.ex x2, r2, e3, fun H' M' u x3 d3 r3 => q H' M' u ((x1.trans x2).trans x3) d3 r3⟩⟩⟩
theorem s_neg {a : CE} (h : TEr K Φ (.neg a) σ H Q) : tUn (rU fun i => .int (-i)) (TEr K Φ a) σ H Q := by
  obtain ⟨M, sl, cs, v, cs', cr, s, e, q⟩ := h
  simp only [evE, Option.bind_eq_some_iff] at e
  obtain ⟨⟨va, c1⟩, e1, e2⟩ := e
  cases va with
  | int i =>
    simp only [Option.some.injEq, Prod.mk.injEq] at e2
    obtain ⟨rfl, rfl⟩ := e2
    exact ⟨M, sl, cs, .int i, c1, cr, s, e1, fun H1 M1 x x1 d1 r1 => ⟨i, pv_int r1, q H1 M1 _ x1 d1 vr_int⟩⟩
  | _ => simp at e2
theorem s_cmp {op : CmpOp} {a b : CE} (h : TEr K Φ (.cmp op a b) σ H Q) : tOp (rC K (cmpO op)) (TEr K Φ a) (TEr K Φ b) σ H Q := by
  obtain ⟨M, sl, cs, v, cs', cr, s, e, q⟩ := h
  simp only [evE, Option.bind_eq_some_iff, Option.map_eq_some_iff, Prod.mk.injEq] at e
  obtain ⟨⟨va, c1⟩, e1, ⟨vb, c2⟩, e2, b1, e3, rfl, rfl⟩ := e
  exact ⟨M, sl, cs, va, c1, cr, s, e1, fun H1 M1 x x1 d1 r1 => ⟨M1, sl, c1, vb, c2, d1, s.ex x1, e2, fun H2 M2 y x2 d2 r2 =>
    ⟨M2, c2, va, vb, b1, d2, r1.ex x2, r2, e3, q H2 M2 _ (x1.trans x2) d2 vr_bl⟩⟩⟩
theorem s_chain {op op' : CmpOp} {a b d : CE} (h : TEr K Φ (.chain op op' a b d) σ H Q) : tChain (rC K (cmpO op)) (rC K (cmpO op')) (TEr K Φ a) (TEr K Φ b) (TEr K Φ d) σ H Q := by
  obtain ⟨M, sl, cs, v, cs', cr, s, e, q⟩ := h
  simp only [evE, Option.bind_eq_some_iff] at e
  obtain ⟨⟨va, c1⟩, e1, ⟨vb, c2⟩, e2, b1, e3, e4⟩ := e
  refine ⟨M, sl, cs, va, c1, cr, s, e1, fun H1 M1 x x1 d1 r1 => ⟨M1, sl, c1, vb, c2, d1, s.ex x1, e2, fun H2 M2 y x2 d2 r2 => ⟨M2, c2, va, vb, b1, d2, r1.ex x2, r2, e3, b1, rfl, ?_⟩⟩⟩
  cases b1 with
  | false =>
    simp only [Bool.false_eq_true, if_false, Option.some.injEq, Prod.mk.injEq] at e4
    obtain ⟨rfl, rfl⟩ := e4
    rw [if_neg Bool.false_ne_true]
    exact q H2 M2 _ (x1.trans x2) d2 vr_bl
  | true =>
    simp only [if_true, Option.bind_eq_some_iff, Option.map_eq_some_iff, Prod.mk.injEq] at e4
    obtain ⟨⟨vc, c3⟩, e5, b2, e6, rfl, rfl⟩ := e4
    rw [if_pos rfl]
    exact ⟨M2, sl, c2, vc, c3, d2, s.ex (x1.trans x2), e5, fun H3 M3 z x3 d3 r3 => ⟨M3, c3, vb, vc, b2, d3, r2.ex x3, r3, e6, q H3 M3 _ ((x1.trans x2).trans x3) d3 vr_bl⟩⟩
theorem s_andV {a b : CE} (h : TEr K Φ (.and a b) σ H Q) : tAndV (TEr K Φ a) (TEr K Φ b) σ H Q := by
  obtain ⟨M, sl, cs, v, cs', cr, s, e, q⟩ := h
  simp only [evE, Option.bind_eq_some_iff] at e
  obtain ⟨⟨va, c1⟩, e1, e2⟩ := e
  refine ⟨M, sl, cs, va, c1, cr, s, e1, fun H1 M1 x x1 d1 r1 => ?_⟩
  cases va with
  | bl b0 =>
    refine ⟨b0, pv_bl r1, ?_⟩
    cases b0 with
    | true => exact ⟨M1, sl, c1, v, cs', d1, s.ex x1, e2, fun H2 M2 y x2 d2 r2 => q H2 M2 y (x1.trans x2) d2 r2⟩
    | false =>
      simp only [Option.some.injEq, Prod.mk.injEq] at e2
      obtain ⟨rfl, rfl⟩ := e2
      exact q H1 M1 _ x1 d1 vr_bl
  | _ => simp at e2
theorem s_orV {a b : CE} (h : TEr K Φ (.or a b) σ H Q) : tOrV (TEr K Φ a) (TEr K Φ b) σ H Q := by
  obtain ⟨M, sl, cs, v, cs', cr, s, e, q⟩ := h
  simp only [evE, Option.bind_eq_some_iff] at e
  obtain ⟨⟨va, c1⟩, e1, e2⟩ := e
  refine ⟨M, sl, cs, va, c1, cr, s, e1, fun H1 M1 x x1 d1 r1 => ?_⟩
  cases va with
  | bl b0 =>
    refine ⟨b0, pv_bl r1, ?_⟩
    cases b0 with
    | false => exact ⟨M1, sl, c1, v, cs', d1, s.ex x1, e2, fun H2 M2 y x2 d2 r2 => q H2 M2 y (x1.trans x2) d2 r2⟩
    | true =>
      simp only [Option.some.injEq, Prod.mk.injEq] at e2
      obtain ⟨rfl, rfl⟩ := e2
      exact q H1 M1 _ x1 d1 vr_bl
  | _ => simp at e2
theorem s_and {a b : CE} {Q : Bool → Hp → Prop} (h : TTr K Φ (.and a b) σ H Q) : tAnd (TTr K Φ a) (TTr K Φ b) σ H Q := by
  obtain ⟨M, sl, cs, v, cs', cr, s, e, q⟩ := h
  simp only [evE, Option.bind_eq_some_iff] at e
  obtain ⟨⟨va, c1⟩, e1, e2⟩ := e
  cases va with
  | bl b0 =>
    refine ⟨M, sl, cs, b0, c1, cr, s, e1, fun H1 M1 x1 d1 => ?_⟩
    cases b0 with
    | true => exact ⟨M1, sl, c1, v, cs', d1, s.ex x1, e2, fun H2 M2 x2 d2 => q H2 M2 (x1.trans x2) d2⟩
    | false =>
      simp only [Option.some.injEq, Prod.mk.injEq, PV.bl.injEq] at e2
      obtain ⟨rfl, rfl⟩ := e2
      exact q H1 M1 x1 d1
  | _ => simp at e2
theorem s_or {a b : CE} {Q : Bool → Hp → Prop} (h : TTr K Φ (.or a b) σ H Q) : tOr (TTr K Φ a) (TTr K Φ b) σ H Q := by
  obtain ⟨M, sl, cs, v, cs', cr, s, e, q⟩ := h
  simp only [evE, Option.bind_eq_some_iff] at e
  obtain ⟨⟨va, c1⟩, e1, e2⟩ := e
  cases va with
  | bl b0 =>
    refine ⟨M, sl, cs, b0, c1, cr, s, e1, fun H1 M1 x1 d1 => ?_⟩
    cases b0 with
    | false => exact ⟨M1, sl, c1, v, cs', d1, s.ex x1, e2, fun H2 M2 x2 d2 => q H2 M2 (x1.trans x2) d2⟩
    | true =>
      simp only [Option.some.injEq, Prod.mk.injEq, PV.bl.injEq] at e2
      obtain ⟨rfl, rfl⟩ := e2
      exact q H1 M1 x1 d1
  | _ => simp at e2
theorem s_notV {a : CE} (h : TEr K Φ (.not a) σ H Q) : tNotV (TEr K Φ a) σ H Q := by
  obtain ⟨M, sl, cs, v, cs', cr, s, e, q⟩ := h
  simp only [evE, Option.bind_eq_some_iff] at e
  obtain ⟨⟨va, c1⟩, e1, e2⟩ := e
  cases va with
  | bl b0 =>
    simp only [Option.some.injEq, Prod.mk.injEq] at e2
    obtain ⟨rfl, rfl⟩ := e2
    exact ⟨M, sl, cs, .bl b0, c1, cr, s, e1, fun H1 M1 x x1 d1 r1 => ⟨b0, pv_bl r1, q H1 M1 _ x1 d1 vr_bl⟩⟩
  | _ => simp at e2
theorem s_not {a : CE} {Q : Bool → Hp → Prop} (h : TTr K Φ (.not a) σ H Q) : tNot (TTr K Φ a) σ H Q := by
  obtain ⟨M, sl, cs, v, cs', cr, s, e, q⟩ := h
  simp only [evE, Option.bind_eq_some_iff] at e
  obtain ⟨⟨va, c1⟩, e1, e2⟩ := e
  cases va with
  | bl b0 =>
    simp only [Option.some.injEq, Prod.mk.injEq, PV.bl.injEq] at e2
    obtain ⟨rfl, rfl⟩ := e2
    exact ⟨M, sl, cs, b0, c1, cr, s, e1, fun H1 M1 x1 d1 => q H1 M1 x1 d1⟩
  | _ => simp at e2
theorem s_ite {t a b : CE} (h : TEr K Φ (.ite t a b) σ H Q) : tIf (TTr K Φ t) (TEr K Φ a) (TEr K Φ b) σ H Q := by
  obtain ⟨M, sl, cs, v, cs', cr, s, e, q⟩ := h
  simp only [evE, Option.bind_eq_some_iff] at e
  obtain ⟨⟨va, c1⟩, e1, e2⟩ := e
  cases va with
  | bl b0 =>
    refine ⟨M, sl, cs, b0, c1, cr, s, e1, fun H1 M1 x1 d1 => ?_⟩
    cases b0 with
    | true =>
      rw [if_pos rfl]
      exact ⟨M1, sl, c1, v, cs', d1, s.ex x1, e2, fun H2 M2 y x2 d2 r2 => q H2 M2 y (x1.trans x2) d2 r2⟩
    | false =>
      rw [if_neg Bool.false_ne_true]
      exact ⟨M1, sl, c1, v, cs', d1, s.ex x1, e2, fun H2 M2 y x2 d2 r2 => q H2 M2 y (x1.trans x2) d2 r2⟩
  | _ => simp at e2
theorem s_idx {a b : CE} (h : TEr K Φ (.idx a b) σ H Q) : tOp (rI K) (TEr K Φ a) (TEr K Φ b) σ H Q := by
  obtain ⟨M, sl, cs, v, cs', cr, s, e, q⟩ := h
  simp only [evE, Option.bind_eq_some_iff, Option.map_eq_some_iff, Prod.mk.injEq] at e
  obtain ⟨⟨va, c1⟩, e1, ⟨vb, c2⟩, e2, w, e3, rfl, rfl⟩ := e
  exact ⟨M, sl, cs, va, c1, cr, s, e1, fun H1 M1 x x1 d1 r1 => ⟨M1, sl, c1, vb, c2, d1, s.ex x1, e2, fun H2 M2 y x2 d2 r2 =>
    ⟨M2, c2, va, vb, w, d2, r1.ex x2, r2, e3, fun u r3 => q H2 M2 u (x1.trans x2) d2 r3⟩⟩⟩
theorem s_slc {c : Bool} {a : CE} {lo hi : CO} (h : TEr K Φ (.slc c a lo hi) σ H Q) : tSl (rS K c) (TEr K Φ a) (TOr K Φ lo) (TOr K Φ hi) σ H Q := by
  obtain ⟨M, sl, cs, v, cs', cr, s, e, q⟩ := h
  simp only [evE, slcO, Option.bind_eq_some_iff] at e
  obtain ⟨⟨va, c1⟩, e1, ⟨vl, c2⟩, e2, ⟨vh, c3⟩, e3, il, e4, ih, e5, e6⟩ := e
  refine ⟨M, sl, cs, va, c1, cr, s, e1, fun H1 M1 x x1 d1 r1 => ⟨M1, sl, c1, vl, c2, il, d1, s.ex x1, e2, e4, fun H2 M2 x2 d2 => ⟨M2, sl, c2, vh, c3, ih, d2, s.ex (x1.trans x2), e3, e5, fun H3 M3 x3 d3 => ?_⟩⟩⟩
  exact ⟨M3, c3, va, v, cs', d3, r1.ex (x2.trans x3), (by cases va <;> exact e6), fun H' M' u x4 d4 r4 => q H' M' u (((x1.trans x2).trans x3).trans x4) d4 r4⟩
theorem s_rev {c : Bool} {a : CE} (h : TEr K Φ (.rev c a) σ H Q) : tRevA K (TEr K Φ a) σ H Q := by
  obtain ⟨M, sl, cs, v, cs', cr, s, e, q⟩ := h
  simp only [evE, Option.bind_eq_some_iff] at e
  obtain ⟨⟨va, c1⟩, e1, e2⟩ := e
  refine ⟨M, sl, cs, va, c1, cr, s, e1, fun H1 M1 x x1 d1 r1 => ?_⟩
  have lists : (asR c1 va).map (fun vs => alc c vs.reverse c1) = some (v, cs') → ∃ a xs, x = .ref a ∧ ((SqL K H1 a xs ∧ ∀ p, H1 p = none → Q (.ref p) (upd H1 p (.lst xs.reverse))) ∨ (SqT K H1 a xs ∧ ∀ p, H1 p = none → Q (.ref p) (upd H1 p (.tup xs.reverse)))) := fun e0 => by
    simp only [Option.map_eq_some_iff] at e0
    obtain ⟨vs, e3, e4⟩ := e0
    obtain ⟨a, xs, rfl, h1, h2, h3⟩ := asR_ok d1 r1 e3
    refine ⟨a, xs, rfl, .inl ⟨h1, fun p hp => ?_⟩⟩
    obtain ⟨M2, x2, d2, r2⟩ := new_alc c d1 hp h3.rev (by rw [List.length_reverse]; exact h2)
    rw [e4] at d2 r2
    exact q _ M2 _ (x1.trans x2) d2 r2
  cases va with
  | tup vs =>
    simp only [revO, Option.some.injEq, Prod.mk.injEq] at e2
    obtain ⟨rfl, rfl⟩ := e2
    simp only [VR] at r1
    obtain ⟨a, xs, rfl, h1, h2, h3⟩ := r1
    refine ⟨a, xs, rfl, .inr ⟨h1, fun p hp => ?_⟩⟩
    obtain ⟨x2, d2, r2⟩ := new_tup d1 hp h3.rev (by rw [List.length_reverse]; exact h2)
    exact q _ M1 _ (x1.trans x2) d2 r2
  | _ => exact lists (by simpa only [revO] using e2)
theorem s_blt {f : Bl} {c : Bool} {es : CA} (h : TEr K Φ (.blt f c es) σ H Q) : tCB (rF K f c) (TAr K Φ es) σ H Q := by
  obtain ⟨M, sl, cs, v, cs', cr, s, e, q⟩ := h
  simp only [evE, Option.bind_eq_some_iff] at e
  obtain ⟨⟨vs, c1⟩, e1, e2⟩ := e
  exact ⟨M, sl, cs, vs, c1, cr, s, e1, fun H1 M1 xs x1 d1 r1 => ⟨M1, c1, vs, v, cs', d1, r1, e2, fun H' M' u x2 d2 r2 => q H' M' u (x1.trans x2) d2 r2⟩⟩
theorem s_tup {es : CA} (hz : es.len ≤ 1000) (len : ∀ sl cs vs cs', evA Φ es sl cs = some (vs, cs') → vs.length = es.len) (h : TEr K Φ (.tup es) σ H Q) : tTup (TAr K Φ es) σ H Q := by
  obtain ⟨M, sl, cs, v, cs', cr, s, e, q⟩ := h
  simp only [evE, Option.map_eq_some_iff, Prod.mk.injEq] at e
  obtain ⟨⟨vs, c1⟩, e1, rfl, rfl⟩ := e
  refine ⟨M, sl, cs, vs, c1, cr, s, e1, fun H1 M1 xs x1 d1 r1 => ?_⟩
  have hl : xs.length ≤ 1000 := by rw [← r1.length, len _ _ _ _ e1]; exact hz
  refine ⟨Nat.le_trans hl (by decide), fun p hp => ?_⟩
  obtain ⟨x2, d2, r2⟩ := new_tup d1 hp r1 (Nat.le_trans hl (by decide))
  exact q _ M1 _ (x1.trans x2) d2 r2
theorem s_lst {c : Bool} {es : CA} (hz : es.len ≤ 1000) (len : ∀ sl cs vs cs', evA Φ es sl cs = some (vs, cs') → vs.length = es.len) (h : TEr K Φ (.lst c es) σ H Q) : tLst (TAr K Φ es) σ H Q := by
  obtain ⟨M, sl, cs, v, cs', cr, s, e, q⟩ := h
  simp only [evE, Option.map_eq_some_iff] at e
  obtain ⟨⟨vs, c1⟩, e1, e2⟩ := e
  refine ⟨M, sl, cs, vs, c1, cr, s, e1, fun H1 M1 xs x1 d1 r1 => ?_⟩
  have hl : xs.length ≤ 1000 := by rw [← r1.length, len _ _ _ _ e1]; exact hz
  refine ⟨Nat.le_trans hl (by decide), fun p hp => ?_⟩
  obtain ⟨M2, x2, d2, r2⟩ := new_alc c d1 hp r1 (Nat.le_trans hl (by decide))
  rw [e2] at d2 r2
  exact q _ M2 _ (x1.trans x2) d2 r2
theorem evA_len : ∀ (es : CA) (sl : Sl) (cs : Cs) (vs : List PV) (cs' : Cs), evA Φ es sl cs = some (vs, cs') → vs.length = es.len
  | .nil, sl, cs, vs, cs', h => by simp [evA] at h; obtain ⟨rfl, _⟩ := h; rfl
  | .cons e r, sl, cs, vs, cs', h => by
    simp only [evA, Option.bind_eq_some_iff, Option.map_eq_some_iff, Prod.mk.injEq] at h
    obtain ⟨p, _, q, h2, rfl, _⟩ := h
    simp [CA.len, evA_len r _ _ _ _ h2]
theorem evK_len : ∀ (es : CK) (sl : Sl) (cs : Cs) (vs : List PV) (cs' : Cs), evK Φ es sl cs = some (vs, cs') → vs.length = es.keys.length
  | .nil, sl, cs, vs, cs', h => by simp [evK] at h; obtain ⟨rfl, _⟩ := h; rfl
  | .cons _ e r, sl, cs, vs, cs', h => by
    simp only [evK, Option.bind_eq_some_iff, Option.map_eq_some_iff, Prod.mk.injEq] at h
    obtain ⟨p, _, q, h2, rfl, _⟩ := h
    simp [CK.keys, evK_len r _ _ _ _ h2]
theorem pick_ok {M : Mp} {H : Hp} {l : List PV} {xs : List V} : ∀ {pm : List Nat} {r : List PV}, VRs K H M l xs → (pm.mapM fun i => l[i]?) = some r → VRs K H M r (pick .non pm xs)
  | [], r, h, e => by simp at e; subst e; rfl
  | i :: pm, r, h, e => by
    simp only [List.mapM_cons, Option.bind_eq_bind, Option.bind_eq_some_iff, Option.pure_def, Option.some.injEq] at e
    obtain ⟨v, e1, rs, e2, rfl⟩ := e
    obtain ⟨x, e3, r3⟩ := h.get e1
    show VRs K H M (v :: rs) (xs.getD i .non :: pick .non pm xs)
    simp only [VRs]
    exact ⟨_, _, rfl, by rw [List.getD, e3]; exact r3, pick_ok h e2⟩
theorem s_call {j n : Nat} {pm : List Nat} {es : CA} {ks : CK} (ar : ∀ args cs r, Φ j args cs = some r → args.length = n) (h : TEr K Φ (.call j pm es ks) σ H Q) : tCallG (spG K Φ j n) es.len ks.keys.length pm (TAr K Φ es) (TKr K Φ ks) σ H Q := by
  obtain ⟨M, sl, cs, v, cs', cr, s, e, q⟩ := h
  simp only [evE, Option.bind_eq_some_iff] at e
  obtain ⟨⟨vs, c1⟩, e1, ⟨ws, c2⟩, e2, args, e3, e4⟩ := e
  refine ⟨M, sl, cs, vs, c1, cr, s, e1, fun H1 M1 xs x1 d1 r1 => ⟨by rw [← r1.length]; exact evA_len _ _ _ _ _ e1, M1, sl, c1, ws, c2, d1, s.ex x1, e2, fun H2 M2 ys x2 d2 r2 => ⟨by rw [← r2.length]; exact evK_len _ _ _ _ _ e2, ?_⟩⟩⟩
  exact ⟨M2, c2, args, v, cs', d2, pick_ok (VRs.app (r1.ex x2) r2) e3, e4, ar _ _ _ e4, fun H' M' x x3 d3 r3 => q H' M' x ((x1.trans x2).trans x3) d3 r3⟩
end
end
end Ev
end

section
set_option maxHeartbeats 4000000
/-! soundness: isinstance, iterators, targets, stores -/
namespace Ev
open PySem L2 PyProof.Rows
section
variable {G : GE} {Φ : EvΦ} {k : Nat} {S : SCx} {X : Cx}
/-! ### isinstance -/
def tTys : List String → TA
  | [] => tNil
  | t :: r => tCons (tC (.ty t)) (tTys r)
theorem tTys_of {σ : L2.St} {H : Hp} : ∀ {ts : List String} {Q : List V → Hp → Prop}, Q (ts.map .ty) H → tTys ts σ H Q
  | [], _, h => h
  | t :: r, Q, h => tTys_of (ts := r) (Q := fun xs H2 => Q (V.ty t :: xs) H2) h
theorem pe_ty (g : GX G Φ k S X) {t : String} {e : Expr} (h : tyB G S t e = true) : PE X e (tC (.ty t)) := by
  cases e <;> try (simp [tyB] at h; done)
  simp only [tyB, Bool.and_eq_true, decide_eq_true_eq] at h
  obtain ⟨⟨rfl, h2⟩, h3⟩ := h
  obtain ⟨hg, hm⟩ := gl_of g h3
  simp only [tyTs, List.mem_cons, List.not_mem_nil, or_false] at h2
  rcases h2 with rfl | rfl | rfl | rfl | rfl | rfl
  · exact pe_bltn hg hm boot_int rfl (by decide) (by decide)
  · exact pe_bltn hg hm boot_bool rfl (by decide) (by decide)
  · exact pe_bltn hg hm boot_str rfl (by decide) (by decide)
  · exact pe_bltn hg hm boot_tuple rfl (by decide) (by decide)
  · exact pe_bltn hg hm boot_list rfl (by decide) (by decide)
  · exact pe_bltn hg hm boot_dict rfl (by decide) (by decide)
theorem ty_in {t : String} {e : Expr} (h : tyB G S t e = true) : t ∈ tyTs := by
  cases e <;> try (simp [tyB] at h; done)
  simp only [tyB, Bool.and_eq_true, decide_eq_true_eq] at h
  exact h.1.2
theorem ty_star {t : String} {e : Expr} (h : tyB G S t e = true) : notStar e = true := by
  cases e <;> first | rfl | (simp [tyB] at h; done)
theorem pa_tys (g : GX G Φ k S X) : ∀ {ts : List String} {es : List Expr}, tysB G S ts es = true → PA X es (tTys ts)
  | [], [], _ => pa_nil
  | [], _ :: _, h => by simp [tysB] at h
  | _ :: _, [], h => by simp [tysB] at h
  | t :: ts, e :: es, h => by
    simp only [tysB, Bool.and_eq_true] at h
    exact pa_cons (pe_ty g h.1) (pa_tys g h.2) (star_cons (ty_star h.1))
theorem tys_in : ∀ {ts : List String} {es : List Expr}, tysB G S ts es = true → (∀ t ∈ ts, t ∈ tyTs) ∧ ts.length = es.length
  | [], [], _ => ⟨fun _ h => absurd h (by simp), rfl⟩
  | [], _ :: _, h => by simp [tysB] at h
  | _ :: _, [], h => by simp [tysB] at h
  | t :: ts, e :: es, h => by
    simp only [tysB, Bool.and_eq_true] at h
    obtain ⟨h1, h2⟩ := tys_in h.2
    exact ⟨fun u hu => (List.mem_cons.mp hu).elim (fun z => by rw [z]; exact ty_in h.1) (h1 u), by simp [h2]⟩
theorem cls_all : ∀ ts : List String, Paired ClsV (ts.map V.ty) (ts.map Value.type)
  | [] => .nil
  | t :: ts => .cons (.ty t) (cls_all ts)
section
variable {K : PySem.W.Frag} {σ : L2.St} {H : Hp} {Q : VK}
theorem s_isi1 {a : CE} {t : String} {m : Bool} (ht : t ∈ tyTs) (h : TEr K Φ (.isi a [t] m) σ H Q) : tCB (rIsi K) (tCons (TEr K Φ a) (tCons (tC (.ty t)) tNil)) σ H Q := by
  obtain ⟨M, sl, cs, v, cs', cr, s, e, q⟩ := h
  simp only [evE, Option.map_eq_some_iff, Prod.mk.injEq] at e
  obtain ⟨⟨va, c1⟩, e1, rfl, rfl⟩ := e
  refine ⟨M, sl, cs, va, c1, cr, s, e1, fun H1 M1 x x1 d1 r1 => ⟨x, .ty t, _, _, tyIs va t, rfl, .ty t, tyX_of d1 r1, kit_ty (kitB_ok ht), ?_⟩⟩
  have := q H1 M1 _ x1 d1 vr_bl
  simpa using this
theorem s_isiT {a : CE} {ts : List String} {m : Bool} (hz : ts.length ≤ 1000) (ht : ∀ t ∈ ts, t ∈ tyTs) (h : TEr K Φ (.isi a ts m) σ H Q) : tCB (rIsiT K) (tCons (TEr K Φ a) (tCons (tTup (tTys ts)) tNil)) σ H Q := by
  obtain ⟨M, sl, cs, v, cs', cr, s, e, q⟩ := h
  simp only [evE, Option.map_eq_some_iff, Prod.mk.injEq] at e
  obtain ⟨⟨va, c1⟩, e1, rfl, rfl⟩ := e
  refine ⟨M, sl, cs, va, c1, cr, s, e1, fun H1 M1 x x1 d1 r1 => tTys_of ⟨by rw [List.length_map]; exact Nat.le_trans hz (by decide), fun p hp => ?_⟩⟩
  have x2 : Ex H1 M1 (upd H1 p (.tup (ts.map .ty))) M1 := Ex.new d1 hp M1.F (fun _ h => h) fun _ h _ => h
  have d2 : CelR K (upd H1 p (.tup (ts.map .ty))) M1 c1 := CelR.new d1 hp M1.F (fun _ h => h) fun _ h _ => h
  exact ⟨x, p, ts.map .ty, _, ts.map .type, ts.any (tyIs va), rfl, upd_same, cls_all ts, tyX_of d2 (r1.ex x2), kitAny_ok ht, q _ M1 _ (x1.trans x2) d2 vr_bl⟩
end
/-! ### iterators -/
section
variable {K : PySem.W.Frag} {σ : L2.St} {H : Hp} {R : It → Hp → Prop}
theorem s_seq {e : CE} (h : TIr K Φ (.seq e) σ H R) : iAny K (TEr K Φ e) σ H R := by
  obtain ⟨M, sl, cs, vs, cs', cr, s, ev, q⟩ := h
  simp only [evI, Option.bind_eq_some_iff] at ev
  obtain ⟨⟨v, c1⟩, e1, e2⟩ := ev
  refine ⟨M, sl, cs, v, c1, cr, s, e1, fun H1 M1 x x1 d1 r1 => ?_⟩
  obtain ⟨M2, x2, d2, w⟩ := walk_ok d1 r1 e2
  cases w with
  | l a xs ex hf hz hr => exact ⟨a, ex, .inl ⟨⟨xs, hf.sq⟩, q H1 M2 _ (x1.trans x2) d2 (jr_list hz hf hr)⟩⟩
  | t a xs ex hf hz hr => exact ⟨a, ex, .inr ⟨⟨xs, hf⟩, q H1 M2 _ (x1.trans x2) d2 (jr_tup hz hf hr)⟩⟩
theorem s_rng1 {a : CE} (h : TIr K Φ (.rng (.cons a .nil)) σ H R) : iRng1 (tCons (TEr K Φ a) tNil) σ H R := by
  obtain ⟨M, sl, cs, vs, cs', cr, s, ev, q⟩ := h
  simp only [evI, evA, Option.bind_eq_some_iff, Option.map_eq_some_iff, Option.some.injEq, Prod.mk.injEq] at ev
  obtain ⟨p, ⟨⟨v, c1⟩, e1, _, rfl, rfl⟩, ws, e2, rfl, rfl⟩ := ev
  cases v with
  | int j =>
    simp only [rngO, Option.ite_none_right_eq_some, Option.some.injEq] at e2
    obtain ⟨⟨l1, l2⟩, rfl⟩ := e2
    refine ⟨M, sl, cs, .int j, c1, cr, s, e1, fun H1 M1 x x1 d1 r1 => ⟨j, by rw [pv_int r1], ?_, ?_, q H1 M1 _ x1 d1 ?_⟩⟩
    · simp only [LIM] at l1; omega
    · simp only [LIM] at l2; omega
    · have := jr_rng (K := K) (H := H1) (M := M1) (lo := 0) (n := j.toNat) (by simp only [LIM] at l2 ⊢; omega)
      simpa using this
  | _ => simp [rngO] at e2
theorem s_rng2 {a b : CE} (h : TIr K Φ (.rng (.cons a (.cons b .nil))) σ H R) : iRng2 (tCons (TEr K Φ a) (tCons (TEr K Φ b) tNil)) σ H R := by
  obtain ⟨M, sl, cs, vs, cs', cr, s, ev, q⟩ := h
  simp only [evI, evA, Option.bind_eq_some_iff, Option.map_eq_some_iff, Option.some.injEq, Prod.mk.injEq] at ev
  obtain ⟨p, ⟨⟨v, c1⟩, e1, _, ⟨⟨w, c2⟩, e2, _, rfl, rfl⟩, rfl⟩, ws, e3, rfl, rfl⟩ := ev
  cases v with
  | int i =>
    cases w with
    | int j =>
      simp only [rngO, Option.ite_none_right_eq_some, Option.some.injEq] at e3
      obtain ⟨⟨l1, l2, l3, l4, l5⟩, rfl⟩ := e3
      refine ⟨M, sl, cs, .int i, c1, cr, s, e1, fun H1 M1 x x1 d1 r1 => ⟨M1, sl, c1, .int j, c2, d1, s.ex x1, e2, fun H2 M2 y x2 d2 r2 => ⟨i, j, by rw [pv_int r1, pv_int r2], ⟨?_, ?_, ?_, ?_⟩, q H2 M2 _ (x1.trans x2) d2 (jr_rng ?_)⟩⟩⟩ <;> (simp only [LIM] at l1 l2 l3 l4 l5 ⊢; omega)
    | _ => simp [rngO] at e3
  | _ => simp [rngO] at e3
theorem s_enm {e : CE} (h : TIr K Φ (.enm e) σ H R) : EvT.iEnT K (tCons (TEr K Φ e) tNil) σ H R := by
  obtain ⟨M, sl, cs, vs, cs', cr, s, ev, q⟩ := h
  simp only [evI, Option.bind_eq_some_iff, Option.map_eq_some_iff, Prod.mk.injEq] at ev
  obtain ⟨⟨v, c1⟩, e1, ⟨ws, c2⟩, e3, rfl, rfl⟩ := ev
  refine ⟨M, sl, cs, v, c1, cr, s, e1, fun H1 M1 x x1 d1 r1 => ?_⟩
  obtain ⟨M2, x2, d2, w⟩ := walk_ok d1 r1 e3
  cases w with
  | l a xs ex hf hz hr => exact ⟨a, xs, by rw [ex], .inl ⟨hf.sq, q H1 M2 _ (x1.trans x2) d2 (jr_enum hz hf hr)⟩⟩
  | t a xs ex hf hz hr => exact ⟨a, xs, by rw [ex], .inr ⟨hf, q H1 M2 _ (x1.trans x2) d2 (EvT.jr_enT hz hf hr)⟩⟩
theorem walk_tup {cs : Cs} {v : PV} {vs : List PV} {cs' : Cs} {M M' : Mp} {x : V} (h : isTupV v = true) (e : walk v cs = some (vs, cs')) : v = .tup vs ∧ cs' = cs := by
  cases v with
  | tup us =>
    simp only [walk, frz, Option.bind_some, Option.some.injEq, Prod.mk.injEq] at e
    exact ⟨by rw [e.1], e.2.symm⟩
  | _ => simp [isTupV] at h
theorem walk_list {cs : Cs} {v : PV} {vs : List PV} {cs' : Cs} {M : Mp} {x : V} (c : CelR K H M cs) (r : VR K H M v x) (h : isTupV v = false) (e : walk v cs = some (vs, cs')) : ∃ M', Ex H M H M' ∧ CelR K H M' cs' ∧ ∃ a xs, x = .ref a ∧ FL K H M' a xs ∧ xs.length ≤ LIM ∧ VRs K H M' vs xs := by
  cases v with
  | tup _ => simp [isTupV] at h
  | _ =>
    obtain ⟨⟨w, c1⟩, e1, e2⟩ := Option.bind_eq_some_iff.mp (show (frz _ cs).bind _ = some _ from e)
    obtain ⟨M2, x2, d2, r2⟩ := frz_ok c r e1
    have hw : isTupV w = false := by
      simp only [frz] at e1
      first
        | (simp only [Option.some.injEq, Prod.mk.injEq] at e1; rw [← e1.1]; rfl)
        | (split at e1
           · simp only [Option.some.injEq, Prod.mk.injEq] at e1; rw [← e1.1]; rfl
           · cases e1)
    cases w with
    | tup _ => simp [isTupV] at hw
    | lst us =>
      simp only [Option.some.injEq, Prod.mk.injEq] at e2
      obtain ⟨rfl, rfl⟩ := e2
      simp only [VR] at r2
      obtain ⟨a, xs, rfl, h1, h2, h3⟩ := r2
      exact ⟨M2, x2, d2, a, xs, rfl, .inl ⟨h1.1, .inl h1.2⟩, h2, h3⟩
    | par us =>
      simp only [Option.some.injEq, Prod.mk.injEq] at e2
      obtain ⟨rfl, rfl⟩ := e2
      simp only [VR] at r2
      obtain ⟨a, xs, rfl, h1, h2, h3⟩ := r2
      exact ⟨M2, x2, d2, a, xs, rfl, h1, h2, h3⟩
    | _ => simp at e2
theorem FL.ex' {H' : Hp} {M M' : Mp} {a : Addr} {xs : List V} (h : FL K H M a xs) (e : Ex H M H' M') : FL K H' M' a xs := h.ew e.toEw
theorem s_zip {a b : CE} (h : TIr K Φ (.zip a b) σ H R) : RZ.iZipA K (tCons (TEr K Φ a) (tCons (TEr K Φ b) tNil)) σ H R := by
  obtain ⟨M, sl, cs, vs, cs', cr, s, ev, q⟩ := h
  simp only [evI, Option.bind_eq_some_iff] at ev
  obtain ⟨⟨v, c1⟩, e1, ⟨w, c2⟩, e2, e3⟩ := ev
  refine ⟨M, sl, cs, v, c1, cr, s, e1, fun H1 M1 x x1 d1 r1 => ⟨M1, sl, c1, w, c2, d1, s.ex x1, e2, fun H2 M2 y x2 d2 r2 => ?_⟩⟩
  have r1' := r1.ex x2
  cases hv : isTupV v with
  | true =>
    cases hw : isTupV w with
    | false => simp [hv, hw] at e3
    | true =>
      simp only [hv, hw, beq_self_eq_true, if_true, Option.bind_eq_some_iff, Option.map_eq_some_iff, Prod.mk.injEq] at e3
      obtain ⟨⟨us, c3⟩, e4, ⟨ws, c4⟩, e5, rfl, rfl⟩ := e3
      obtain ⟨rfl, rfl⟩ := walk_tup (M := M) (M' := M) (x := x) hv e4
      obtain ⟨rfl, rfl⟩ := walk_tup (M := M) (M' := M) (x := x) hw e5
      simp only [VR] at r1' r2
      obtain ⟨p, xs, rfl, h1, h2, h3⟩ := r1'
      obtain ⟨p', ys, rfl, h1', h2', h3'⟩ := r2
      exact ⟨p, p', xs, ys, rfl, .inr ⟨h1, h1', q H2 M2 _ (x1.trans x2) d2 (jr_zipT h2 h1 h3 h1' h3')⟩⟩
  | false =>
    cases hw : isTupV w with
    | true => simp [hv, hw] at e3
    | false =>
      simp only [hv, hw, beq_self_eq_true, if_true, Option.bind_eq_some_iff, Option.map_eq_some_iff, Prod.mk.injEq] at e3
      obtain ⟨⟨us, c3⟩, e4, ⟨ws, c4⟩, e5, rfl, rfl⟩ := e3
      obtain ⟨M3, x3, d3, p, xs, rfl, h1, h2, h3⟩ := walk_list d2 r1' hv e4
      obtain ⟨M4, x4, d4, p', ys, rfl, h1', h2', h3'⟩ := walk_list d3 (r2.ex x3) hw e5
      exact ⟨p, p', xs, ys, rfl, .inl ⟨(h1.ex' x4).sq, h1'.sq, q H2 M4 _ (((x1.trans x2).trans x3).trans x4) d4 (jr_zip h2 (h1.ex' x4) (h3.ex x4) h1' h3')⟩⟩
end
/-! ### targets -/
theorem assign_cons {e : Expr} {es : List Expr} {env : Env} (h : notStar e = true) : assignEach (e :: es) env = (false, assign e env) :: assignEach es env := by
  cases e <;> first | rfl | (simp [notStar] at h)
theorem SloR.set {K : PySem.W.Frag} {H : Hp} {M : Mp} {sl : Sl} {σ : L2.St} (s : SloR K H M sl σ) {v : PV} {x : V} (r : VR K H M v x) (i : Nat) : SloR K H M (sl.set i (some v)) (σ.set i (some x)) := by
  refine ⟨by rw [List.length_set, List.length_set]; exact s.len, fun j w h => ?_⟩
  by_cases hij : i = j
  · subst hij
    unfold lk at h
    by_cases hi : i < sl.length
    · rw [List.getElem?_set_self hi] at h
      cases h
      exact ⟨x, List.getElem?_set_self (by rw [← s.len]; exact hi), r⟩
    · rw [List.getElem?_eq_none (by rw [List.length_set]; omega)] at h; cases h
  · unfold lk at h
    rw [List.getElem?_set_ne hij] at h
    obtain ⟨y, h1, h2⟩ := s.at' j w h
    exact ⟨y, by rw [List.getElem?_set_ne hij]; exact h1, h2⟩
section
variable {K : PySem.W.Frag} {σ : L2.St} {H : Hp} {Q : L2.St → Hp → Prop} {x : V} {xs : List V}
theorem g_name {i : Nat} (h : TGr K Φ (.name i) x σ H Q) : gName i x σ H Q := by
  obtain ⟨M, sl, cs, v, sl', cs', cr, s, r, e, q⟩ := h
  simp only [evTg, Option.some.injEq, Prod.mk.injEq] at e
  obtain ⟨rfl, rfl⟩ := e
  exact q _ H M Ex.refl cr (s.set r i) (by rw [List.length_set]) fun j hj => List.getElem?_set_ne (fun z => hj (by rw [z]; exact List.mem_singleton.mpr rfl))
theorem g_tup {ts : CTs} (h : TGr K Φ (.tup ts) x σ H Q) : gTup K ts.len (TGsr K Φ ts) x σ H Q := by
  obtain ⟨M, sl, cs, v, sl', cs', cr, s, r, e, q⟩ := h
  cases v with
  | tup vs =>
    simp only [evTg, Option.ite_none_right_eq_some] at e
    obtain ⟨len, e⟩ := e
    simp only [VR] at r
    obtain ⟨a, ys, rfl, h1, h2, h3⟩ := r
    exact ⟨a, ys, rfl, h1, by rw [← h3.length]; exact len, M, sl, cs, vs, sl', cs', cr, s, h3, len, e, q⟩
  | _ => simp [evTg] at e
theorem g_sub {o i : CE} (h : TGr K Φ (.sub o i) x σ H Q) : gSub (TEr K Φ o) (TEr K Φ i) rSetL x σ H Q := by
  obtain ⟨M, sl, cs, v, sl', cs', cr, s, r, e, q⟩ := h
  simp only [evTg, Option.bind_eq_some_iff, Option.map_eq_some_iff, Prod.mk.injEq] at e
  obtain ⟨⟨vo, c1⟩, e1, ⟨vi, c2⟩, e2, c3, e3, rfl, rfl⟩ := e
  refine ⟨M, sl, cs, vo, c1, cr, s, e1, fun H1 M1 y x1 d1 r1 => ⟨M1, sl, c1, vi, c2, d1, s.ex x1, e2, fun H2 M2 z x2 d2 r2 => ?_⟩⟩
  obtain ⟨p, ys, kk, j, rfl, rfl, h1, h2, x3, d3⟩ := setO_ok d2 (r1.ex x2) r2 (r.ex (x1.trans x2)) e3
  have X3 := (x1.trans x2).trans x3
  exact ⟨p, ys, kk, j, rfl, rfl, h1, h2, q σ _ M2 X3 d3 (s.ex X3) rfl fun _ _ => rfl⟩
theorem g_nil (h : TGsr K Φ .nil xs σ H Q) : gNil xs σ H Q := by
  obtain ⟨M, sl, cs, vs, sl', cs', cr, s, r, len, e, q⟩ := h
  have : vs = [] := List.eq_nil_of_length_eq_zero len
  subst this
  simp only [evTs, Option.some.injEq, Prod.mk.injEq] at e
  obtain ⟨rfl, rfl⟩ := e
  exact ⟨r, q σ H M Ex.refl cr s rfl fun _ _ => rfl⟩
theorem g_cons {t : CTg} {r : CTs} (h : TGsr K Φ (.cons t r) xs σ H Q) : gCons (TGr K Φ t) (TGsr K Φ r) xs σ H Q := by
  obtain ⟨M, sl, cs, vs, sl', cs', cr, s, rv, len, e, q⟩ := h
  cases vs with
  | nil => simp [CTs.len] at len
  | cons v vs =>
    simp only [evTs, Option.bind_eq_some_iff] at e
    obtain ⟨⟨sl1, c1⟩, e1, e2⟩ := e
    simp only [VRs] at rv
    obtain ⟨x, ys, rfl, r1, r2⟩ := rv
    refine ⟨x, ys, rfl, M, sl, cs, v, sl1, c1, cr, s, r1, e1, fun σ1 H1 M1 x1 d1 s1 l1 k1 => ⟨M1, sl1, c1, vs, sl', cs', d1, s1, r2.ex x1, by simpa [CTs.len] using len, e2, fun σ2 H2 M2 x2 d2 s2 l2 k2 => ?_⟩⟩
    refine q σ2 H2 M2 (x1.trans x2) d2 s2 (l2.trans l1) fun i hi => ?_
    simp only [tgsSlots, List.mem_append, not_or] at hi
    rw [k2 i hi.2, k1 i hi.1]
end
end
end Ev
end

section
set_option maxHeartbeats 4000000
/-! soundness of the evaluator, expressions -/
namespace Ev
open PySem L2 PyProof.Rows
section
variable {G : GE} {Φ : EvΦ} {k : Nat}
theorem po_of {X : Cx} {o : CO} {ast : Option Expr} : ∀ (h : (o = .none ∧ ast = none) ∨ ∃ e a, o = .some e ∧ ast = some a ∧ PE X a (TEr X.K Φ e)), PO X ast (TOr X.K Φ o) := by
  rintro (⟨rfl, rfl⟩ | ⟨e, a, rfl, rfl, h⟩)
  · refine POm po_none fun σ H Q h => ?_
    obtain ⟨M, sl, cs, r, cs', i, c, s, ev, oi, q⟩ := h
    simp only [evO, Option.some.injEq, Prod.mk.injEq] at ev
    obtain ⟨rfl, rfl⟩ := ev
    simp only [oInt, Option.some.injEq] at oi
    subst oi
    exact q H M Ex.refl c
  · refine POm (po_some h) fun σ H Q h => ?_
    obtain ⟨M, sl, cs, r, cs', i, c, s, ev, oi, q⟩ := h
    simp only [evO, Option.map_eq_some_iff, Prod.mk.injEq] at ev
    obtain ⟨⟨v, c1⟩, e1, rfl, rfl⟩ := ev
    cases v with
    | int j =>
      simp only [oInt, Option.some.injEq] at oi
      subst oi
      exact ⟨M, sl, cs, .int j, c1, c, s, e1, fun H1 M1 x x1 d1 r1 => ⟨j, pv_int r1, q H1 M1 x1 d1⟩⟩
    | _ => simp [oInt] at oi
theorem plain_ix {b : Expr} (h : plainIx b = true) : PlainIx b := by
  cases b <;> first | (intro o i; rfl) | (simp [plainIx] at h)
theorem sub_assign {X : Cx} {o i : Expr} {pos : Pos} (h : plainIx i = true) : ∀ v, assign (.Subscript o i pos) X.env v = (do
      let ov ← holding [v] (eval o X.env)
      let iv ← holding [v, ov] (eval i X.env)
      standAt pos
      holding [v, ov, iv] (setItem ov iv v)
      release [v, ov, iv] []) := by
  cases i <;> first | (intro v; rfl) | (simp [plainIx] at h)
theorem folded_ok {X : Cx} {e : Expr} (h : notSet e = true) : ∀ x, foldedSetIterable e X.env x = pure x := by
  cases e <;> first | (intro x; rfl) | (simp [notSet] at h)
theorem ca_len : ∀ {es : CA} {as : List Expr} {S : SCx}, chkA G S es as = true → es.len = as.length
  | .nil, [], _, _ => rfl
  | .nil, _ :: _, _, h => by simp [chkA] at h
  | .cons _ _, [], _, h => by simp [chkA] at h
  | .cons e r, a :: as, S, h => by
    simp only [chkA, Bool.and_eq_true] at h
    simp [CA.len, ca_len h.2]
theorem ca_star : ∀ {es : CA} {as : List Expr} {S : SCx}, chkA G S es as = true → as.all notStar = true
  | .nil, [], _, _ => rfl
  | .nil, _ :: _, _, h => by simp [chkA] at h
  | .cons _ _, [], _, h => by simp [chkA] at h
  | .cons e r, a :: as, S, h => by
    simp only [chkA, Bool.and_eq_true] at h
    rw [List.all_cons, h.1.2, ca_star h.2]; rfl
theorem ck_keys : ∀ {ks : CK} {kws : List Keyword} {S : SCx}, chkK G S ks kws = true → kws.map (·.arg) = ks.keys.map some
  | .nil, [], _, _ => rfl
  | .nil, _ :: _, _, h => by simp [chkK] at h
  | .cons _ _ _, [], _, h => by simp [chkK] at h
  | .cons k e r, ⟨none, e', p⟩ :: kws, S, h => by simp [chkK] at h
  | .cons k e r, ⟨some k', e', p⟩ :: kws, S, h => by
    simp only [chkK, Bool.and_eq_true, decide_eq_true_eq] at h
    simp [CK.keys, ck_keys h.2, h.1.1]
theorem ts_fact : ∀ {ts : CTs} {es : List Expr} {S : SCx} {env : Env}, chkTs G S ts es = true → (assignEach es env).length = ts.len ∧ (assignEach es env).findIdx? (·.1) = none
  | .nil, [], _, _, _ => ⟨rfl, rfl⟩
  | .nil, _ :: _, _, _, h => by simp [chkTs] at h
  | .cons _ _, [], _, _, h => by simp [chkTs] at h
  | .cons t r, e :: es, S, env, h => by
    simp only [chkTs, Bool.and_eq_true] at h
    obtain ⟨h1, h2⟩ := ts_fact (env := env) h.2
    rw [assign_cons h.1.2]
    refine ⟨by simp [CTs.len, h1], ?_⟩
    rw [List.findIdx?_cons]
    simp [h2]
mutual
theorem sE : ∀ (e : CE) {S : SCx} {X : Cx} {ast : Expr}, GX G Φ k S X → chkE G S e ast = true → SE Φ X e ast
  | .var i, S, X, ast, g, h => by
    cases ast <;> try (exact Bool.noConfusion (show false = true from h))
    simp only [chkE] at h
    obtain ⟨h1, h2, h3, h4⟩ := nm_of g h
    exact SE.val (PEm (pe_var h1 h2 h3 h4) fun _ _ _ q => s_name q) (fun _ _ _ q => nomatch q) fun _ => rfl
  | .mv i, S, X, ast, g, h => by
    cases ast <;> try (exact Bool.noConfusion (show false = true from h))
    simp only [chkE] at h
    obtain ⟨h1, h2, h3, h4⟩ := nm_of g h
    exact SE.val (PEm (pe_var h1 h2 h3 h4) fun _ _ _ q => s_mv q) (fun _ _ _ q => nomatch q) fun _ => rfl
  | .cst v, S, X, ast, g, h => by
    cases ast <;> try (exact Bool.noConfusion (show false = true from h))
    simp only [chkE] at h
    exact SE.val (pe_const h) (fun _ _ _ q => nomatch q) fun _ => rfl
  | .glo x v, S, X, ast, g, h => by
    cases ast <;> try (exact Bool.noConfusion (show false = true from h))
    simp only [chkE, Bool.and_eq_true, decide_eq_true_eq, Bool.not_eq_true', List.any_eq_true] at h
    obtain ⟨⟨⟨rfl, h2⟩, h3⟩, ⟨y, w⟩, h4, h5, h6⟩ := h
    simp only at h5 h6
    subst h5
    have := scl_eq h6
    subst this
    obtain ⟨u, e1, z, e2, e3⟩ := g.gf.con _ _ h4
    exact SE.val (PEm (pe_glob (gl_is g h2) e1 e2 h3) fun _ _ _ q => s_glo e3 q) (fun _ _ _ q => nomatch q) fun _ => rfl
  | .tup es, S, X, ast, g, h => by
    cases ast <;> try (exact Bool.noConfusion (show false = true from h))
    simp only [chkE, Bool.and_eq_true, decide_eq_true_eq] at h
    exact SE.val (PEm (pe_tup (sA es g h.1)) fun _ _ _ q => s_tup (by rw [ca_len h.1]; exact h.2) (fun _ _ _ _ => evA_len _ _ _ _ _) q) (fun _ _ _ q => nomatch q) fun _ => rfl
  | .lst c es, S, X, ast, g, h => by
    cases ast <;> try (exact Bool.noConfusion (show false = true from h))
    simp only [chkE, Bool.and_eq_true, decide_eq_true_eq] at h
    exact SE.val (PEm (pe_lst (sA es g h.1)) fun _ _ _ q => s_lst (by rw [ca_len h.1]; exact h.2) (fun _ _ _ _ => evA_len _ _ _ _ _) q) (fun _ _ _ q => nomatch q) fun _ => rfl
  | .dct0, S, X, ast, g, h => by
    cases ast <;> try (exact Bool.noConfusion (show false = true from h))
    rename_i keys values pos
    cases keys <;> cases values <;> try (exact Bool.noConfusion (show false = true from h))
    refine SE.val (PEm pe_dnewK fun σ H Q q => ?_) (fun _ _ _ q => nomatch q) fun _ => rfl
    obtain ⟨M, sl, cs, v, cs', c, s, e, q⟩ := q
    simp only [evE, Option.some.injEq, Prod.mk.injEq] at e
    obtain ⟨rfl, rfl⟩ := e
    intro p hp
    obtain ⟨x1, d1, r1⟩ := new_dct0 c hp
    exact q _ _ _ x1 d1 r1
  | .bin op c a b, S, X, ast, g, h => by
    cases ast <;> try (exact Bool.noConfusion (show false = true from h))
    simp only [chkE, Bool.and_eq_true, decide_eq_true_eq] at h
    obtain ⟨⟨⟨rfl, h2⟩, h3⟩, h4⟩ := h
    have ha := (sE a g h3).pe
    have hb := (sE b g h4).pe
    refine SE.val ?_ (fun _ _ _ q => nomatch q) fun _ => rfl
    cases op <;> try (simp [opsB] at h2; done)
    · exact PEm (pe_op (op_addE (c := c)) ha hb) fun _ _ _ q => s_bin q
    · exact PEm (pe_op (op_subE (c := c)) ha hb) fun _ _ _ q => s_bin q
    · exact PEm (pe_op (op_mulE (c := c)) ha hb) fun _ _ _ q => s_bin q
    · exact PEm (pe_op (op_modE (c := c)) ha hb) fun _ _ _ q => s_bin q
    · exact PEm (pe_op (op_powE (c := c)) ha hb) fun _ _ _ q => s_bin q
    · exact PEm (pe_op (op_fdivE (c := c)) ha hb) fun _ _ _ q => s_bin q
  | .neg a, S, X, ast, g, h => by
    cases ast <;> try (exact Bool.noConfusion (show false = true from h))
    rename_i op operand pos
    cases op <;> try (exact Bool.noConfusion (show false = true from h))
    simp only [chkE] at h
    exact SE.val (PEm (pe_un un_neg (sE a g h).pe) fun _ _ _ q => s_neg q) (fun _ _ _ q => nomatch q) fun _ => rfl
  | .cmp op a b, S, X, ast, g, h => by
    cases ast <;> try (exact Bool.noConfusion (show false = true from h))
    rename_i left ops comps pos
    rcases ops with _ | ⟨o1, _ | ⟨o2, ops⟩⟩ <;> rcases comps with _ | ⟨b1, _ | ⟨b2, comps⟩⟩ <;> try (exact Bool.noConfusion (show false = true from h))
    simp only [chkE, Bool.and_eq_true, decide_eq_true_eq, Bool.not_eq_true'] at h
    obtain ⟨⟨⟨rfl, h2⟩, h3⟩, h4⟩ := h
    have ha := (sE a g h2).pe
    have hb := (sE b g h3).pe
    obtain ⟨mm, sm⟩ := g.gf.sm
    refine ⟨PEm (pe_cmpR (cmpO_ok sm g.hu op) ha hb h4) fun _ _ _ q => s_cmp q, fun _ => PTm (pt_cmpR (cmpO_ok sm g.hu op) ha hb h4) fun σ H Q q => ?_, fun ⟨_, _, _, z⟩ => nomatch z⟩
    exact s_cmp (tt_of' q)
  | .chain op op' a b c, S, X, ast, g, h => by
    cases ast <;> try (exact Bool.noConfusion (show false = true from h))
    rename_i left ops comps pos
    rcases ops with _ | ⟨o1, _ | ⟨o2, _ | ⟨o3, ops⟩⟩⟩ <;> rcases comps with _ | ⟨b1, _ | ⟨b2, _ | ⟨b3, comps⟩⟩⟩ <;> try (exact Bool.noConfusion (show false = true from h))
    simp only [chkE, Bool.and_eq_true, decide_eq_true_eq, Bool.not_eq_true'] at h
    obtain ⟨⟨⟨⟨⟨rfl, rfl⟩, h2⟩, h3⟩, h4⟩, h5⟩ := h
    have ha := (sE a g h2).pe
    have hb := (sE b g h3).pe
    have hc := (sE c g h4).pe
    obtain ⟨mm, sm⟩ := g.gf.sm
    refine ⟨PEm (pe_chain (cmpO_ok sm g.hu op) (cmpO_ok sm g.hu op') ha hb hc h5) fun _ _ _ q => s_chain q, fun _ => PTm (pt_chain (cmpO_ok sm g.hu op) (cmpO_ok sm g.hu op') ha hb hc h5) fun σ H Q q => ?_, fun ⟨_, _, _, z⟩ => nomatch z⟩
    exact s_chain (tt_of' q)
  | .and a b, S, X, ast, g, h => by
    cases ast <;> try (exact Bool.noConfusion (show false = true from h))
    rename_i op vs pos
    cases op <;> try (exact Bool.noConfusion (show false = true from h))
    rcases vs with _ | ⟨a', _ | ⟨b', _ | ⟨c', r'⟩⟩⟩ <;> try (exact Bool.noConfusion (show false = true from h))
    · simp only [chkE, Bool.and_eq_true] at h
      obtain ⟨⟨⟨h1, h2⟩, h3⟩, h4⟩ := h
      have ha := sE a g h1
      have hb := sE b g h3
      have w := PWm (pw_and (pos := pos) (ha.pt h2) (pw_and1 (pos := pos) (hb.pt h4))) fun _ _ _ q => s_and (a := a) (b := b) q
      exact ⟨PEm (pe_and ha.pe (pe_one hb.pe)) fun _ _ _ q => s_andV q, fun _ => w.pt, fun _ => w⟩
    · simp only [chkE, Bool.and_eq_true] at h
      obtain ⟨⟨h1, h2⟩, h3⟩ := h
      have ha := sE a g h1
      have hb := sE b g h3
      have w := PWm (pw_and (ha.pt h2) (hb.pw ⟨_, _, _, rfl⟩)) fun _ _ _ q => s_and (a := a) (b := b) q
      exact ⟨PEm (pe_and ha.pe hb.pe) fun _ _ _ q => s_andV q, fun _ => w.pt, fun _ => w⟩
  | .or a b, S, X, ast, g, h => by
    cases ast <;> try (exact Bool.noConfusion (show false = true from h))
    rename_i op vs pos
    cases op <;> try (exact Bool.noConfusion (show false = true from h))
    rcases vs with _ | ⟨a', _ | ⟨b', _ | ⟨c', r'⟩⟩⟩ <;> try (exact Bool.noConfusion (show false = true from h))
    · simp only [chkE, Bool.and_eq_true] at h
      obtain ⟨⟨⟨h1, h2⟩, h3⟩, h4⟩ := h
      have ha := sE a g h1
      have hb := sE b g h3
      have w := PWm (pw_or (pos := pos) (ha.pt h2) (pw_or1 (pos := pos) (hb.pt h4))) fun _ _ _ q => s_or (a := a) (b := b) q
      exact ⟨PEm (pe_or ha.pe (pe_one hb.pe)) fun _ _ _ q => s_orV q, fun _ => w.pt, fun _ => w⟩
    · simp only [chkE, Bool.and_eq_true] at h
      obtain ⟨⟨h1, h2⟩, h3⟩ := h
      have ha := sE a g h1
      have hb := sE b g h3
      have w := PWm (pw_or (ha.pt h2) (hb.pw ⟨_, _, _, rfl⟩)) fun _ _ _ q => s_or (a := a) (b := b) q
      exact ⟨PEm (pe_or ha.pe hb.pe) fun _ _ _ q => s_orV q, fun _ => w.pt, fun _ => w⟩
  | .not a, S, X, ast, g, h => by
    cases ast <;> try (exact Bool.noConfusion (show false = true from h))
    rename_i op operand pos
    cases op <;> try (exact Bool.noConfusion (show false = true from h))
    simp only [chkE, Bool.and_eq_true] at h
    have ha := sE a g h.1
    exact ⟨PEm (pe_not ha.pe) fun _ _ _ q => s_notV q, fun _ => PTm (pt_not (ha.pt h.2)) fun _ _ _ q => s_not q, fun ⟨_, _, _, z⟩ => nomatch z⟩
  | .ite t a b, S, X, ast, g, h => by
    cases ast <;> try (exact Bool.noConfusion (show false = true from h))
    simp only [chkE, Bool.and_eq_true] at h
    obtain ⟨⟨⟨h1, h2⟩, h3⟩, h4⟩ := h
    exact ⟨PEm (pe_ifExp ((sE t g h1).pt h2) (sE a g h3).pe (sE b g h4).pe) fun _ _ _ q => s_ite q, fun z => Bool.noConfusion (show false = true from z), fun ⟨_, _, _, z⟩ => nomatch z⟩
  | .idx a i, S, X, ast, g, h => by
    cases ast <;> try (exact Bool.noConfusion (show false = true from h))
    simp only [chkE, Bool.and_eq_true] at h
    exact SE.val (PEm (pe_ix ixO_ok (sE a g h.1.1).pe (sE i g h.1.2).pe (plain_ix h.2)) fun _ _ _ q => s_idx q) (fun _ _ _ q => nomatch q) fun _ => rfl
  | .slc c a lo hi, S, X, ast, g, h => by
    cases ast <;> try (exact Bool.noConfusion (show false = true from h))
    rename_i value slice pos
    cases slice <;> try (exact Bool.noConfusion (show false = true from h))
    rename_i lower upper step p2
    cases step <;> try (exact Bool.noConfusion (show false = true from h))
    simp only [chkE, Bool.and_eq_true] at h
    exact SE.val (PEm (pe_slice (slcO_ok (c := c)) (sE a g h.1.1).pe (sO lo g h.1.2) (sO hi g h.2)) fun _ _ _ q => s_slc q) (fun _ _ _ q => nomatch q) fun _ => rfl
  | .rev c a, S, X, ast, g, h => by
    cases ast <;> try (exact Bool.noConfusion (show false = true from h))
    rename_i value slice pos
    cases slice <;> try (exact Bool.noConfusion (show false = true from h))
    rename_i lower upper step p2
    rcases lower with _ | lower <;> try (exact Bool.noConfusion (show false = true from h))
    rcases upper with _ | upper <;> try (exact Bool.noConfusion (show false = true from h))
    rcases step with _ | step <;> try (exact Bool.noConfusion (show false = true from h))
    cases step <;> try (exact Bool.noConfusion (show false = true from h))
    rename_i op operand p3
    cases op <;> try (exact Bool.noConfusion (show false = true from h))
    cases operand <;> try (exact Bool.noConfusion (show false = true from h))
    rename_i cv ck p4
    cases cv <;> try (exact Bool.noConfusion (show false = true from h))
    replace h : (decide (_ = (1 : Int)) && chkE G S a _) = true := h
    simp only [Bool.and_eq_true, decide_eq_true_eq] at h
    obtain ⟨rfl, h⟩ := h
    exact SE.val (PEm (pe_revA (sE a g h).pe) fun _ _ _ q => s_rev q) (fun _ _ _ q => nomatch q) fun _ => rfl
  | .blt f c es, S, X, ast, g, h => by
    cases ast <;> try (exact Bool.noConfusion (show false = true from h))
    rename_i fn args kws pos
    cases fn <;> try (exact Bool.noConfusion (show false = true from h))
    rcases args with _ | ⟨a', as⟩ <;> rcases kws with _ | ⟨kw, kws⟩ <;> try (exact Bool.noConfusion (show false = true from h))
    simp only [chkE, Bool.and_eq_true, decide_eq_true_eq] at h
    obtain ⟨⟨⟨h1, rfl⟩, h3⟩, h4⟩ := h
    obtain ⟨hg, hm⟩ := gl_of g h3
    exact SE.val (PEm (pe_blt g (c := c) f h1 hg hm (sA es g h4) (ca_star h4)) fun _ _ _ q => s_blt q) (fun _ _ _ q => nomatch q) fun _ => rfl
  | .isi a tys many, S, X, ast, g, h => by
    cases ast <;> try (exact Bool.noConfusion (show false = true from h))
    rename_i fn args kws pos
    cases fn <;> try (exact Bool.noConfusion (show false = true from h))
    rename_i x p
    rcases args with _ | ⟨a', _ | ⟨t', _ | ⟨u', as⟩⟩⟩ <;> rcases kws with _ | ⟨kw, kws⟩ <;> try (first | exact Bool.noConfusion (show false = true from h) | (cases t' <;> exact Bool.noConfusion (show false = true from h)))
    have one : (!many && decide (x = ("isinstance" : Str)) && glB G S x && chkE G S a a' && notStar a' && oneB G S tys t') = true → SE Φ X (.isi a tys many) (.Call (.Name x p) [a', t'] [] pos) := fun h => by
      simp only [Bool.and_eq_true, decide_eq_true_eq] at h
      obtain ⟨⟨⟨⟨⟨_, rfl⟩, h3⟩, h4⟩, h5⟩, h6⟩ := h
      obtain ⟨hg, hm⟩ := gl_of g h3
      rcases tys with _ | ⟨t, _ | ⟨t2, tys⟩⟩ <;> simp only [oneB, Bool.false_eq_true] at h6
      have st := ty_star h6
      exact SE.val (PEm (pe_callB call_isi hg hm boot_isinstance (pa_cons (sE a g h4).pe (pa_cons (pe_ty g h6) pa_nil (star_cons st)) (star_cons h5)) (by decide) (by decide) (star_cons h5) (by rw [star_cons st]; rfl)) fun _ _ _ q => s_isi1 (ty_in h6) q)
        (fun _ _ _ q => nomatch q) fun _ => rfl
    cases t' with
    | Tuple ts n p3 =>
      simp only [chkE, Bool.and_eq_true, decide_eq_true_eq] at h
      obtain ⟨⟨⟨⟨⟨⟨_, rfl⟩, h3⟩, h4⟩, h5⟩, h6⟩, h7⟩ := h
      obtain ⟨hg, hm⟩ := gl_of g h3
      obtain ⟨z1, z2⟩ := tys_in h6
      exact SE.val (PEm (pe_callB call_isiT hg hm boot_isinstance (pa_cons (sE a g h4).pe (pa_cons (pe_tup (pa_tys g h6)) pa_nil) (star_cons h5)) (by decide) (by decide) (star_cons h5)) fun _ _ _ q => s_isiT (by rw [z2]; exact h7) z1 q)
        (fun _ _ _ q => nomatch q) fun _ => rfl
    | _ => exact one h
  | .call j pm es ks, S, X, ast, g, h => by
    cases ast <;> try (exact Bool.noConfusion (show false = true from h))
    rename_i fn args kws pos
    cases fn <;> try (exact Bool.noConfusion (show false = true from h))
    rename_i x p
    simp only [chkE, Bool.and_eq_true, Bool.not_eq_true'] at h
    obtain ⟨⟨⟨⟨h1, h2⟩, h3⟩, h4⟩, h5⟩ := h
    cases hj : G.D[j]? with
    | none => rw [hj] at h1; simp at h1
    | some f =>
      rw [hj] at h1
      simp only [Bool.and_eq_true, decide_eq_true_eq] at h1
      obtain ⟨rfl, hbd⟩ := h1
      obtain ⟨a, fd, e1, e2, F, hb⟩ := g.gf.fn j f hj
      have hB := hb _ hbd
      simp only at hB
      have hst := ca_star h4
      have hlen := ca_len h4
      refine SE.val ?_ (fun _ _ _ q => nomatch q) fun _ => rfl
      cases args with
      | nil =>
        cases es with
        | nil =>
          refine PEm (pe_callG0 F g.rm g.gd (gl_is g h2) e1 e2 hB (sK ks g h5) (ck_keys h5) h3) fun σ H Q q => ?_
          obtain ⟨M, sl, cs, vs, cs', c, s, ev, q⟩ := s_call (fun args cs r => g.gf.ar j f args cs r hj) q
          simp only [evA, Option.some.injEq, Prod.mk.injEq] at ev
          obtain ⟨rfl, rfl⟩ := ev
          exact q _ M [] Ex.refl c rfl
        | cons _ _ => simp [chkA] at h4
      | cons a1 as =>
        refine PEm (pe_callG1 F g.rm g.gd (gl_is g h2) e1 e2 hB (sA es g h4) (sK ks g h5) hst (ck_keys h5) h3) fun σ H Q q => ?_
        rw [← hlen]
        exact s_call (fun args cs r => g.gf.ar j f args cs r hj) q
  | .comp c elt tg it cond own, S, X, ast, g, h => by
    cases ast <;> try (exact Bool.noConfusion (show false = true from h))
    rename_i elt' gens scope pos
    rcases gens with _ | ⟨⟨tg', it', ifs', ac⟩, _ | ⟨g2, gens⟩⟩ <;> try (exact Bool.noConfusion (show false = true from h))
    replace h : (decide (ac = 0) && blkB S scope own && chkI G S it tg' it' && notSet it' && nameTg tg && decide (∀ i ∈ tgSlots tg, i ∈ own.map (·.2)) && chkTg G (S.blk scope) tg tg' && chkC G (S.blk scope) cond ifs' && chkE G (S.blk scope) elt elt') = true := h
    simp only [Bool.and_eq_true, decide_eq_true_eq] at h
    obtain ⟨⟨⟨⟨⟨⟨⟨⟨rfl, h1⟩, h2⟩, h3⟩, h4⟩, h5⟩, h6⟩, h7⟩, h8⟩ := h
    exact SE.val (PEm (pe_lc g.calm g.ND (sI it g h2) (blk_of g h1) (fun s H C cl fp => sTg tg (g.blk s H C cl fp) h6) (fun s H C cl fp => sC cond (g.blk s H C cl fp) h7) (fun s H C cl fp => (sE elt (g.blk s H C cl fp) h8).pe) (folded_ok h3)) fun _ _ _ q => imp_lc h5 q) (fun _ _ _ q => nomatch q) fun _ => rfl
theorem sC : ∀ (o : CO) {S : SCx} {X : Cx} {ifs : List Expr}, GX G Φ k S X → chkC G S o ifs = true → PTs X ifs (TTo X.K Φ o)
  | .none, S, X, ifs, g, h => by
    rcases ifs with _ | ⟨i1, ifs⟩
    · exact pts_nil
    · exact Bool.noConfusion (show false = true from h)
  | .some cd, S, X, ifs, g, h => by
    rcases ifs with _ | ⟨i1, _ | ⟨i2, ifs⟩⟩
    · exact Bool.noConfusion (show false = true from h)
    · replace h : (chkE G S cd i1 && notIf i1) = true := h
      simp only [Bool.and_eq_true] at h
      exact pts_one ((sE cd g h.1).pt h.2)
    · exact Bool.noConfusion (show false = true from h)
theorem sA : ∀ (es : CA) {S : SCx} {X : Cx} {as : List Expr}, GX G Φ k S X → chkA G S es as = true → PA X as (TAr X.K Φ es)
  | .nil, S, X, as, g, h => by
    cases as with
    | cons _ _ => simp [chkA] at h
    | nil =>
      refine PAm pa_nil fun σ H Q q => ?_
      obtain ⟨M, sl, cs, vs, cs', c, s, e, q⟩ := q
      simp only [evA, Option.some.injEq, Prod.mk.injEq] at e
      obtain ⟨rfl, rfl⟩ := e
      exact q H M [] Ex.refl c rfl
  | .cons e r, S, X, as, g, h => by
    cases as with
    | nil => simp [chkA] at h
    | cons a as =>
      simp only [chkA, Bool.and_eq_true] at h
      refine PAm (pa_cons (sE e g h.1.1).pe (sA r g h.2) (star_cons h.1.2)) fun σ H Q q => ?_
      obtain ⟨M, sl, cs, vs, cs', c, s, ev, q⟩ := q
      simp only [evA, Option.bind_eq_some_iff, Option.map_eq_some_iff, Prod.mk.injEq] at ev
      obtain ⟨⟨v, c1⟩, e1, ⟨ws, c2⟩, e2, rfl, rfl⟩ := ev
      refine ⟨M, sl, cs, v, c1, c, s, e1, fun H1 M1 x x1 d1 r1 => ⟨M1, sl, c1, ws, c2, d1, s.ex x1, e2, fun H2 M2 xs x2 d2 r2 => q H2 M2 _ (x1.trans x2) d2 ?_⟩⟩
      simp only [VRs]
      exact ⟨x, xs, rfl, r1.ex x2, r2⟩
theorem sK : ∀ (ks : CK) {S : SCx} {X : Cx} {kws : List Keyword}, GX G Φ k S X → chkK G S ks kws = true → PK X kws (TKr X.K Φ ks)
  | .nil, S, X, kws, g, h => by
    cases kws with
    | cons _ _ => simp [chkK] at h
    | nil =>
      refine PKm pk_nil fun σ H Q q => ?_
      obtain ⟨M, sl, cs, vs, cs', c, s, e, q⟩ := q
      simp only [evK, Option.some.injEq, Prod.mk.injEq] at e
      obtain ⟨rfl, rfl⟩ := e
      exact q H M [] Ex.refl c rfl
  | .cons kk e r, S, X, kws, g, h => by
    rcases kws with _ | ⟨⟨nm, e', p⟩, kws⟩
    · simp [chkK] at h
    rcases nm with _ | nm
    · simp [chkK] at h
    simp only [chkK, Bool.and_eq_true, decide_eq_true_eq] at h
    refine PKm (pk_cons (sE e g h.1.2).pe (sK r g h.2)) fun σ H Q q => ?_
    obtain ⟨M, sl, cs, vs, cs', c, s, ev, q⟩ := q
    simp only [evK, Option.bind_eq_some_iff, Option.map_eq_some_iff, Prod.mk.injEq] at ev
    obtain ⟨⟨v, c1⟩, e1, ⟨ws, c2⟩, e2, rfl, rfl⟩ := ev
    refine ⟨M, sl, cs, v, c1, c, s, e1, fun H1 M1 x x1 d1 r1 => ⟨M1, sl, c1, ws, c2, d1, s.ex x1, e2, fun H2 M2 xs x2 d2 r2 => q H2 M2 _ (x1.trans x2) d2 ?_⟩⟩
    simp only [VRs]
    exact ⟨x, xs, rfl, r1.ex x2, r2⟩
theorem sO : ∀ (o : CO) {S : SCx} {X : Cx} {ast : Option Expr}, GX G Φ k S X → chkO G S o ast = true → PO X ast (TOr X.K Φ o)
  | .none, S, X, ast, g, h => by
    cases ast with
    | none => exact po_of (.inl ⟨rfl, rfl⟩)
    | some _ => simp [chkO] at h
  | .some e, S, X, ast, g, h => by
    cases ast with
    | none => simp [chkO] at h
    | some a =>
      simp only [chkO] at h
      exact po_of (.inr ⟨e, a, rfl, rfl, (sE e g h).pe⟩)
theorem sI : ∀ (it : CI) {S : SCx} {X : Cx} {tg ast : Expr}, GX G Φ k S X → chkI G S it tg ast = true → PI X tg ast (TIr X.K Φ it)
  | .seq e, S, X, tg, ast, g, h => by
    simp only [chkI] at h
    exact PIm (pi_anyE (sE e g h).pe) fun _ _ _ q => s_seq q
  | .rng .nil, S, X, tg, ast, g, h => by simp [chkI] at h
  | .rng (.cons a .nil), S, X, tg, ast, g, h => by
    cases ast <;> try (exact Bool.noConfusion (show false = true from h))
    rename_i fn args kws pos
    cases fn <;> try (exact Bool.noConfusion (show false = true from h))
    rcases args with _ | ⟨a', _ | ⟨b', as⟩⟩ <;> rcases kws with _ | ⟨kw, kws⟩ <;> try (exact Bool.noConfusion (show false = true from h))
    simp only [chkI, Bool.and_eq_true, decide_eq_true_eq] at h
    obtain ⟨⟨⟨rfl, h2⟩, h3⟩, h4⟩ := h
    obtain ⟨hg, hm⟩ := gl_of g h2
    exact PIm (pi_range1 hg hm (pa_cons (sE a g h3).pe pa_nil (star_cons h4)) (star_cons h4)) fun _ _ _ q => s_rng1 q
  | .rng (.cons a (.cons b .nil)), S, X, tg, ast, g, h => by
    cases ast <;> try (exact Bool.noConfusion (show false = true from h))
    rename_i fn args kws pos
    cases fn <;> try (exact Bool.noConfusion (show false = true from h))
    rcases args with _ | ⟨a', _ | ⟨b', _ | ⟨c', as⟩⟩⟩ <;> rcases kws with _ | ⟨kw, kws⟩ <;> try (exact Bool.noConfusion (show false = true from h))
    simp only [chkI, Bool.and_eq_true, decide_eq_true_eq] at h
    obtain ⟨⟨⟨⟨⟨rfl, h2⟩, h3⟩, h4⟩, h5⟩, h6⟩ := h
    obtain ⟨hg, hm⟩ := gl_of g h2
    exact PIm (pi_range2 hg hm (pa_cons (sE a g h3).pe (pa_cons (sE b g h5).pe pa_nil (star_cons h6)) (star_cons h4)) (by rw [star_cons h4, star_cons h6]; rfl) (by rw [star_cons h6]; rfl)) fun _ _ _ q => s_rng2 q
  | .rng (.cons a (.cons b (.cons c r))), S, X, tg, ast, g, h => by simp [chkI] at h
  | .enm e, S, X, tg, ast, g, h => by
    cases ast <;> try (exact Bool.noConfusion (show false = true from h))
    rename_i fn args kws pos
    cases fn <;> try (exact Bool.noConfusion (show false = true from h))
    rcases args with _ | ⟨a', _ | ⟨b', as⟩⟩ <;> rcases kws with _ | ⟨kw, kws⟩ <;> try (exact Bool.noConfusion (show false = true from h))
    cases tg <;> try (exact Bool.noConfusion (show false = true from h))
    simp only [chkI, Bool.and_eq_true, decide_eq_true_eq] at h
    obtain ⟨⟨⟨⟨_, rfl⟩, h2⟩, h3⟩, h4⟩ := h
    obtain ⟨hg, hm⟩ := gl_of g h2
    exact PIm (EvT.pi_enT hg hm (pa_cons (sE e g h3).pe pa_nil (star_cons h4)) (star_cons h4)) fun _ _ _ q => s_enm q
  | .zip a b, S, X, tg, ast, g, h => by
    cases ast <;> try (exact Bool.noConfusion (show false = true from h))
    rename_i fn args kws pos
    cases fn <;> try (exact Bool.noConfusion (show false = true from h))
    rcases args with _ | ⟨a', _ | ⟨b', _ | ⟨c', as⟩⟩⟩ <;> rcases kws with _ | ⟨kw, kws⟩ <;> try (exact Bool.noConfusion (show false = true from h))
    cases tg <;> try (exact Bool.noConfusion (show false = true from h))
    simp only [chkI, Bool.and_eq_true, decide_eq_true_eq] at h
    obtain ⟨⟨⟨⟨⟨⟨_, rfl⟩, h2⟩, h3⟩, h4⟩, h5⟩, h6⟩ := h
    obtain ⟨hg, hm⟩ := gl_of g h2
    exact PIm (RZ.pi_zipA hg hm (pa_cons (sE a g h3).pe (pa_cons (sE b g h5).pe pa_nil (star_cons h6)) (star_cons h4)) (star_cons h4) (by rw [star_cons h6]; rfl)) fun _ _ _ q => s_zip q
theorem sTg : ∀ (t : CTg) {S : SCx} {X : Cx} {ast : Expr}, GX G Φ k S X → chkTg G S t ast = true → PG X ast (TGr X.K Φ t)
  | .name i, S, X, ast, g, h => by
    cases ast <;> try (exact Bool.noConfusion (show false = true from h))
    simp only [chkTg] at h
    obtain ⟨h1, h2, h3⟩ := st_of g h
    exact PGm (pg_name g.ND h1 h2 h3) fun _ _ _ _ q => g_name q
  | .tup ts, S, X, ast, g, h => by
    cases ast <;> try (exact Bool.noConfusion (show false = true from h))
    simp only [chkTg] at h
    obtain ⟨h1, h2⟩ := ts_fact (env := X.env) h
    exact PGm (pg_tup g.calm (sTs ts g h) h1 h2) fun _ _ _ _ q => g_tup q
  | .sub o i, S, X, ast, g, h => by
    cases ast <;> try (exact Bool.noConfusion (show false = true from h))
    simp only [chkTg, Bool.and_eq_true] at h
    exact PGm (pg_sub (sE o g h.1.1).pe (sE i g h.1.2).pe set_list (sub_assign h.2)) fun _ _ _ _ q => g_sub q
theorem sTs : ∀ (ts : CTs) {S : SCx} {X : Cx} {es : List Expr}, GX G Φ k S X → chkTs G S ts es = true → PGs X es (TGsr X.K Φ ts)
  | .nil, S, X, es, g, h => by
    cases es with
    | cons _ _ => simp [chkTs] at h
    | nil => exact PGsm pgs_nil fun _ _ _ _ q => g_nil q
  | .cons t r, S, X, es, g, h => by
    cases es with
    | nil => simp [chkTs] at h
    | cons e es =>
      simp only [chkTs, Bool.and_eq_true] at h
      exact PGsm (pgs_cons (sTg t g h.1.1) (sTs r g h.2) (by rw [assign_cons h.1.2]; rfl)) fun _ _ _ _ q => g_cons q
end
end
end Ev
end

section
set_option maxHeartbeats 4000000
/-! soundness of the evaluator, statements -/
namespace Ev
open PySem L2 PyProof.Rows
section
variable {G : GE} {Φ : EvΦ} {k W : Nat} {S : SCx} {X : Cx}
theorem no_comp {e : Expr} {o : Option Expr} {l : Nat} {env : Env} (h : noComp e = true) : swapsWith e o l env = pure false := by
  cases e <;> first | rfl | (exact Bool.noConfusion (show false = true from h))
/-- the values of the comprehension are stored by the statement -/
theorem lc_false (g : GX G Φ k S X) {tg e : Expr} {l : Nat} (h : lcB S tg e = some false) : swapsWithSole [tg] e l X.env = pure false := by
  show swapsWith e (some tg) l X.env = pure false
  have hk : ∀ t, X.env.kindOf t = S.look t := fun t => by
    show X.env.scope.names.lookup t = S.sc.names.lookup t
    rw [g.sc]
  by_cases hn : noComp e = true
  · exact no_comp hn
  · cases tg with
    | Name t p =>
      cases e with
      | ListComp elt gens scope pos =>
        have h' : (isLocal (S.look t) && p.line == pos.line && !(scope.names.any fun y => y.1 == t && (y.2 == .local || y.2 == .cell))) = false := Option.some.inj h
        have hl : (X.env.kindOf t == some NameKind.local) = isLocal (S.look t) := by
          rw [hk]
          cases S.look t with
          | none => rfl
          | some z => cases z <;> rfl
        show (pure (X.env.blockKind == .function && X.env.kindOf t == some .local && p.line == pos.line && !(scope.names.any fun y => y.1 == t && (y.2 == .local || y.2 == .cell))) : Sem Bool) = pure false
        congr 1
        rw [hl, Bool.and_assoc, Bool.and_assoc, ← Bool.and_assoc (isLocal _), h', Bool.and_false]
      | SetComp _ _ _ _ => simp [lcB] at h
      | DictComp _ _ _ _ _ => simp [lcB] at h
      | _ => exact absurd rfl hn
    | _ => cases e <;> first | rfl | exact absurd rfl hn
theorem lc_true (g : GX G Φ k S X) {tg e : Expr} (h : lcB S tg e = some true) (hf : S.sc.kind = .function) :
    ∃ t p elt gens scope pos, tg = .Name t p ∧ e = .ListComp elt gens scope pos ∧ X.env.scope.names.lookup t = some .local ∧ ∀ l, swapsWith e (some tg) l X.env = pure true := by
  cases tg with
  | Name t p =>
    cases e with
    | ListComp elt gens scope pos =>
      have h' : (isLocal (S.look t) && p.line == pos.line && !(scope.names.any fun y => y.1 == t && (y.2 == .local || y.2 == .cell))) = true := Option.some.inj h
      simp only [Bool.and_eq_true, Bool.not_eq_true'] at h'
      obtain ⟨⟨h1, h2⟩, h3⟩ := h'
      have hy : X.env.scope.names.lookup t = some .local := by rw [g.sc]; exact isLocal_iff.mp h1
      exact ⟨t, p, elt, gens, scope, pos, rfl, rfl, hy, fun l => sw_true (by rw [g.sc]; exact hf) hy h2 h3⟩
    | SetComp _ _ _ _ => simp [lcB] at h
    | DictComp _ _ _ _ _ => simp [lcB] at h
    | _ => exact Bool.noConfusion (Option.some.inj h)
  | _ => exact Bool.noConfusion (Option.some.inj h)
theorem swapN_eq (g : GX G Φ k S X) (l : Nat) : ∀ ts : List Expr, (ts.filterMap fun
    | .Name id pos => if X.env.kindOf id == some .local && pos.line == l then some id else none
    | _ => none) = swapN S l ts := by
  have hk : ∀ t, X.env.kindOf t = S.look t := fun t => by
    show X.env.scope.names.lookup t = S.sc.names.lookup t
    rw [g.sc]
  intro ts
  unfold swapN
  congr 1
  funext e
  cases e <;> first | rfl | simp only [hk]
theorem swap_none (g : GX G Φ k S X) {tg e : Expr} (h : swapB S tg e = true) : swappedStores [tg] e X.env = pure none := by
  have other : ∀ {tg e : Expr}, (∀ ts a b, tg ≠ .Tuple ts a b ∨ ∀ vs c d, e ≠ .Tuple vs c d) → (∀ ts a, tg ≠ .List ts a) → swappedStores [tg] e X.env = pure none := fun {tg e} h1 h2 => by
    cases tg with
    | Tuple ts a b =>
      cases e with
      | Tuple vs c d => exact ((h1 ts a b).elim (fun q => absurd rfl q) fun q => absurd rfl (q vs c d))
      | _ => rfl
    | List ts a => exact absurd rfl (h2 ts a)
    | _ => rfl
  cases tg with
  | Tuple ts a b =>
    cases e with
    | Tuple vs c d =>
      replace h : noSwap S ts vs = true := h
      unfold swappedStores
      simp only []
      have e1 := swapN_eq g ((ts.head?.map (·.pos.line)).getD 0) ts
      split
      · rfl
      · rename_i c1
        split
        · rfl
        · split
          · rfl
          · rename_i c3
            split
            · rfl
            · rename_i c4
              exfalso
              unfold noSwap at h
              simp only [Bool.or_eq_true, Bool.not_eq_true', decide_eq_false_iff_not, decide_eq_true_eq, Bool.or_eq_false_iff] at h
              rcases h with (h | h) | h
              · simp only [Bool.or_eq_true, Bool.not_eq_true', Bool.or_eq_false_iff, beq_eq_false_iff_ne, not_or, not_and, Decidable.not_not] at c1
                exact h.2 (c1.1.1 h.1)
              · have c5 : ¬ (((swapN S (lineOf ts) ts).length != ts.length) = true) := fun q => by
                  rw [show swapN S (lineOf ts) ts = swapN S ((ts.head?.map (·.pos.line)).getD 0) ts from rfl, ← e1] at q
                  exact c3 (by rw [Bool.or_eq_true]; exact .inl q)
                simp only [bne_iff_ne, Decidable.not_not] at c5
                exact h c5
              · exact c4 h
    | _ => exact other (fun _ _ _ => .inr fun _ _ _ q => nomatch q) fun _ _ q => nomatch q
  | List ts a => exact Bool.noConfusion (show false = true from h)
  | _ => exact other (fun _ _ _ => .inl fun q => nomatch q) fun _ _ q => nomatch q
theorem tg_star {t : CTg} {e : Expr} (h : chkTg G S t e = true) : notStar e = true := by
  cases t <;> cases e <;> first | rfl | (exact Bool.noConfusion (show false = true from h))
/-- a, b = x, y, both names local -/
theorem swap_pair (g : GX G Φ k S X) {x y : Str} {px py p1 p2 : Pos} {k1 k2 : Nat} {a b : Expr} (hx : S.look x = some .local) (hy : S.look y = some .local) (hf : S.sc.kind = .function) (hl : (px.line == py.line) = true) (hne : x ≠ y)
    (ha : notStar a = true) (hb : notStar b = true) (h1 : [a, b].all (foldedForSure 8) = false) (h2 : [a, b].all (constantsAlone 8) = false) :
    swappedStores [.Tuple [.Name x px, .Name y py] k1 p1] (.Tuple [a, b] k2 p2) X.env = pure (some [x, y]) := by
  have hk : ∀ t, X.env.kindOf t = S.look t := fun t => by
    show X.env.scope.names.lookup t = S.sc.names.lookup t
    rw [g.sc]
  have hb1 : X.env.blockKind = .function := by unfold Env.blockKind; rw [g.sc, hf]; rfl
  have hp : (py.line == px.line) = true := by rw [beq_iff_eq] at hl ⊢; exact hl.symm
  have hq : (px.line == px.line) = true := beq_self_eq_true _
  have st : ([a, b].any fun | .Starred .. => true | _ => false) = false := by
    have s1 : ∀ e : Expr, notStar e = true → (match e with | .Starred .. => true | _ => false) = false := fun e h => by
      cases e <;> first | rfl | (exact Bool.noConfusion (show false = true from h))
    simp only [List.any_cons, List.any_nil, Bool.or_false]
    rw [s1 a ha, s1 b hb]
    rfl
  have nm : ([Expr.Name x px, Expr.Name y py].filterMap fun
    | .Name id pos => if X.env.kindOf id == some .local && pos.line == px.line then some id else none
    | _ => none) = [x, y] := by
    simp only [List.filterMap_cons, List.filterMap_nil, hk, hx, hy, hp, hq, beq_self_eq_true, Bool.and_self, Bool.true_and, if_true]
  have hne' : (y == x) = false := by rw [beq_eq_false_iff_ne]; exact fun q => hne q.symm
  have dup : [x, y].eraseDups.length = 2 := by
    rw [List.eraseDups_cons]
    simp only [List.filter_cons, hne', Bool.not_false, if_true, List.filter_nil, List.eraseDups_cons, List.eraseDups_nil, List.length_cons, List.length_nil]
  unfold swappedStores
  simp only []
  generalize hL : List.filterMap _ _ = L
  have eL : L = [x, y] := hL.symm.trans nm
  rw [eL]
  refine (if_neg ?_).trans ((if_neg ?_).trans ((if_neg ?_).trans ((if_neg ?_).trans ((if_neg ?_).trans rfl))))
  · rw [hb1]
    show ¬ ((!(2 == 2 || 2 == 3) || 2 != 2 || ScopeKind.function != ScopeKind.function) = true)
    decide
  · exact fun q => absurd (st.symm.trans q) (by decide)
  · rw [dup]; exact (by decide : ¬ ((2 != 2 || 2 != 2) = true))
  · rw [h1]; exact Bool.false_ne_true
  · rw [h2]; exact Bool.false_ne_true
/-! ### statements -/
theorem sS_asg (g : GX G Φ k S X) {t : CTg} {e : CE} {t' e' : Expr} {pos : Pos} (h1 : chkTg G S t t' = true) (h2 : chkE G S e e' = true) (h3 : swapB S t' e' = true) (h4 : (lcB S t' e').isSome = true) (h5 : S.sc.kind = .function ∨ lcB S t' e' = some false) :
    PS X (.Assign [t'] e' pos) (TSr X.K Φ W (.asg t e)) := by
  have imp : ∀ D σ H, TSr X.K Φ W (.asg t e) D σ H → tAsg (TEr X.K Φ e) (TGr X.K Φ t) D σ H := fun D σ H q => by
    obtain ⟨M, sl, cs, o, sl', cs', c, s, ev, q⟩ := q
    simp only [evS, Option.bind_eq_some_iff, Option.map_eq_some_iff, Prod.mk.injEq] at ev
    obtain ⟨⟨v, c1⟩, e1, ⟨sl2, c2⟩, e2, rfl, rfl, rfl⟩ := ev
    exact ⟨M, sl, cs, v, c1, c, s, e1, fun H1 M1 x x1 d1 r1 => ⟨M1, sl, c1, v, _, _, d1, s.ex x1, r1, e2, fun σ' H' M' x2 d2 s2 _ _ => q σ' H' M' (x1.trans x2) d2 s2⟩⟩
  have plain : lcB S t' e' = some false → PS X (.Assign [t'] e' pos) (TSr X.K Φ W (.asg t e)) := fun h =>
    PSm (ps_asg (sE e g h2).pe (sTg t g h1) (lc_false g h) (swap_none g h3) (by rw [assign_cons (tg_star h1)]; rfl)) imp
  cases hl : lcB S t' e' with
  | none => rw [hl] at h4; cases h4
  | some b =>
    cases b with
    | false => exact plain hl
    | true =>
      have hf : S.sc.kind = .function := h5.elim (fun q => q) fun q => by rw [hl] at q; cases q
      obtain ⟨y, py, elt', gens, scope, p2, rfl, rfl, hy, sw⟩ := lc_true g hl hf
      cases t with
      | name i =>
        obtain ⟨z1, z2, z3⟩ := st_of g (show stB S i y = true from h1)
        cases e <;> try (exact Bool.noConfusion (show false = true from h2))
        rename_i c elt tg it cond own
        rcases gens with _ | ⟨⟨tg', it', ifs', ac⟩, _ | ⟨g2, gens⟩⟩ <;> try (exact Bool.noConfusion (show false = true from h2))
        replace h2 : (decide (ac = 0) && blkB S scope own && chkI G S it tg' it' && notSet it' && nameTg tg && decide (∀ i ∈ tgSlots tg, i ∈ own.map (·.2)) && chkTg G (S.blk scope) tg tg' && chkC G (S.blk scope) cond ifs' && chkE G (S.blk scope) elt elt') = true := h2
        simp only [Bool.and_eq_true, decide_eq_true_eq] at h2
        obtain ⟨⟨⟨⟨⟨⟨⟨⟨rfl, w1⟩, w2⟩, w3⟩, w4⟩, w5⟩, w6⟩, w7⟩, w8⟩ := h2
        refine PSm (ps_setLc g.calm g.ND z1 hy (sw _) (sI it g w2) (blk_of g w1) (g := TGr X.K Φ tg) (fun s H C cl fp => sTg tg (g.blk s H C cl fp) w6) (tt := TTo X.K Φ cond) (fun s H C cl fp => sC cond (g.blk s H C cl fp) w7) (te := TEr X.K Φ elt) (fun s H C cl fp => (sE elt (g.blk s H C cl fp) w8).pe) (folded_ok w3)) fun D σ H q => ?_
        obtain ⟨M, sl, cs, v, cs', c0, s, ev, q⟩ := imp D σ H q
        exact imp_lc w5 ⟨M, sl, cs, v, cs', c0, s, ev, fun H1 M1 x x1 d1 r1 => g_name (q H1 M1 x x1 d1 r1)⟩
      | _ => exact Bool.noConfusion (show false = true from h1)
theorem sS_par (g : GX G Φ k S X) {i j : Nat} {a b : CE} {x y : Str} {px py p1 p2 pos : Pos} {k1 k2 : Nat} {a' b' : Expr} (h1 : i ≠ j) (h2 : stB S i x = true) (h3 : isLocal (S.look x) = true) (h4 : stB S j y = true) (h5 : isLocal (S.look y) = true)
    (h6 : chkE G S a a' = true) (h7 : notStar a' = true) (h8 : chkE G S b b' = true) (h9 : notStar b' = true) (hf : S.sc.kind = .function) (hl : (px.line == py.line) = true) (hne : x ≠ y) (hc1 : [a', b'].all (foldedForSure 8) = false) (hc2 : [a', b'].all (constantsAlone 8) = false) :
    PS X (.Assign [.Tuple [.Name x px, .Name y py] k1 p1] (.Tuple [a', b'] k2 p2) pos) (TSr X.K Φ W (.par i j a b)) := by
  obtain ⟨n1, _, _⟩ := st_of g h2
  obtain ⟨n2, _, _⟩ := st_of g h4
  have lx : X.env.scope.names.lookup x = some .local := by rw [g.sc]; exact isLocal_iff.mp h3
  have ly : X.env.scope.names.lookup y = some .local := by rw [g.sc]; exact isLocal_iff.mp h5
  refine PSm (ps_par g.calm g.ND n1 n2 h1 lx ly (pa_cons (sE a g h6).pe (pa_cons (sE b g h8).pe pa_nil (star_cons h9)) (star_cons h7)) (swap_pair g (isLocal_iff.mp h3) (isLocal_iff.mp h5) hf hl hne h7 h9 hc1 hc2)) fun D σ H q => ?_
  obtain ⟨M, sl, cs, o, sl', cs', c, s, ev, q⟩ := q
  simp only [evS, Option.bind_eq_some_iff, Option.map_eq_some_iff, Prod.mk.injEq] at ev
  obtain ⟨⟨v, c1⟩, e1, ⟨w, c2⟩, e2, rfl, rfl, rfl⟩ := ev
  exact ⟨M, sl, cs, v, c1, c, s, e1, fun H1 M1 x x1 d1 r1 => ⟨M1, sl, c1, w, c2, d1, s.ex x1, e2, fun H2 M2 y x2 d2 r2 => ⟨x, y, rfl, q _ H2 M2 (x1.trans x2) d2 (((s.ex (x1.trans x2)).set (r1.ex x2) i).set r2 j)⟩⟩⟩
theorem base_of {o : Expr} {m : Str} (h : baseB o = true) : attributeBase o m X.env (eval o X.env) = eval o X.env := by
  cases o with
  | Call f as kws p =>
    cases f with
    | Name x p2 =>
      cases as with
      | nil =>
        cases kws with
        | nil => exact Bool.noConfusion (show false = true from h)
        | cons _ _ => rfl
      | cons _ _ => rfl
    | _ => rfl
  | _ => rfl
theorem sS_app (g : GX G Φ k S X) {o e : CE} {o' e' : Expr} {apos cpos pos : Pos} (h1 : baseB o' = true) (h2 : (apos.endLine == cpos.line) = true) (h3 : chkE G S o o' = true) (h4 : chkE G S e e' = true) (h5 : notStar e' = true) :
    PS X (.Expr (.Call (.Attribute o' "append" apos) [e'] [] cpos) pos) (TSr X.K Φ W (.app o e)) := by
  refine PSm (ps_expr (pe_bm F.plainAttrs_list F.slot_list_append (by rfl) mt_append (sE o g h3).pe (pa_cons (sE e g h4).pe pa_nil (star_cons h5)) (base_of h1) ?_ h2 (star_cons h5) rfl) rfl) fun D σ H q => ?_
  · rw [star_cons h5]; rfl
  · obtain ⟨M, sl, cs, ou, sl', cs', c, s, ev, q⟩ := q
    simp only [evS, Option.bind_eq_some_iff, Option.map_eq_some_iff, Prod.mk.injEq] at ev
    obtain ⟨⟨v, c1⟩, e1, ⟨w, c2⟩, e2, c3, e3, rfl, rfl, rfl⟩ := ev
    refine ⟨M, sl, cs, v, c1, c, s, e1, fun H1 M1 x x1 d1 r1 => ⟨?_, M1, sl, c1, w, c2, d1, s.ex x1, e2, fun H2 M2 y x2 d2 r2 => ?_⟩⟩
    · cases v with
      | ref n =>
        simp only [VR] at r1
        obtain ⟨p, hp, rfl⟩ := r1
        have hn : n < c1.length := by rw [← d1.len]; exact (List.getElem?_eq_some_iff.mp hp).1
        obtain ⟨p', xs, z1, z2, _⟩ := d1.at' n _ (List.getElem?_eq_getElem hn)
        rw [hp] at z1; cases z1
        exact .inl ⟨rfl, xs, SqL.of z2⟩
      | _ => simp [appO] at e3
    · obtain ⟨p, xs, rfl, z2, z3, x3, d3⟩ := appO_ok d2 (r1.ex x2) r2 e3
      have X3 := (x1.trans x2).trans x3
      exact ⟨p, xs, y, rfl, rfl, z2, by rw [← LIM_eq]; exact z3, q σ _ M2 X3 d3 (s.ex X3)⟩
theorem sS_ext (g : GX G Φ k S X) {o e : CE} {o' e' : Expr} {apos cpos pos : Pos} (h1 : baseB o' = true) (h2 : (apos.endLine == cpos.line) = true) (h3 : chkE G S o o' = true) (h4 : chkE G S e e' = true) (h5 : notStar e' = true) :
    PS X (.Expr (.Call (.Attribute o' "extend" apos) [e'] [] cpos) pos) (TSr X.K Φ W (.ext o e)) := by
  refine PSm (ps_expr (pe_bm F.plainAttrs_list F.slot_list_extend (by rfl) mt_extend (sE o g h3).pe (pa_cons (sE e g h4).pe pa_nil (star_cons h5)) (base_of h1) ?_ h2 (star_cons h5) rfl) rfl) fun D σ H q => ?_
  · rw [star_cons h5]; rfl
  · obtain ⟨M, sl, cs, ou, sl', cs', c, s, ev, q⟩ := q
    simp only [evS, Option.bind_eq_some_iff, Option.map_eq_some_iff, Prod.mk.injEq] at ev
    obtain ⟨⟨v, c1⟩, e1, ⟨w, c2⟩, e2, ws, e3, c3, e4, rfl, rfl, rfl⟩ := ev
    refine ⟨M, sl, cs, v, c1, c, s, e1, fun H1 M1 x x1 d1 r1 => ⟨?_, M1, sl, c1, w, c2, d1, s.ex x1, e2, fun H2 M2 y x2 d2 r2 => ?_⟩⟩
    · cases v with
      | ref n =>
        simp only [VR] at r1
        obtain ⟨p, hp, rfl⟩ := r1
        have hn : n < c1.length := by rw [← d1.len]; exact (List.getElem?_eq_some_iff.mp hp).1
        obtain ⟨p', xs, z1, z2, _⟩ := d1.at' n _ (List.getElem?_eq_getElem hn)
        rw [hp] at z1; cases z1
        exact .inl ⟨rfl, xs, SqL.of z2⟩
      | _ => simp [extO] at e4
    · obtain ⟨p, b, xs, zs, rfl, rfl, z2, z3, z4, x3, d3⟩ := extO_ok d2 (r1.ex x2) r2 e3 e4
      have X3 := (x1.trans x2).trans x3
      exact ⟨p, b, xs, zs, rfl, rfl, z2, z3, by rw [← LIM_eq]; exact z4, q σ _ M2 X3 d3 (s.ex X3)⟩
mutual
theorem sS : ∀ (s : CS) {S : SCx} {X : Cx} {st : Stmt}, GX G Φ k S X → chkS G S s st = true → PS X st (TSr X.K Φ W s)
  | .never, S, X, st, g, h => PSm ps_never fun D σ H q => by
    obtain ⟨M, sl, cs, o, sl', cs', c, s, ev, q⟩ := q
    simp [evS] at ev
  | .asg t e, S, X, st, g, h => by
    cases st <;> try (exact Bool.noConfusion (show false = true from h))
    rename_i ts e' pos
    rcases ts with _ | ⟨t', _ | ⟨t2, ts⟩⟩ <;> try (exact Bool.noConfusion (show false = true from h))
    replace h : (chkTg G S t t' && chkE G S e e' && swapB S t' e' && (lcB S t' e').isSome && (decide (S.sc.kind = .function) || decide (lcB S t' e' = some false))) = true := h
    simp only [Bool.and_eq_true, Bool.or_eq_true, decide_eq_true_eq] at h
    obtain ⟨⟨⟨⟨h1, h2⟩, h3⟩, h4⟩, h5⟩ := h
    exact sS_asg g h1 h2 h3 h4 h5
  | .par i j a b, S, X, st, g, h => by
    cases st <;> try (exact Bool.noConfusion (show false = true from h))
    rename_i ts e' pos
    rcases ts with _ | ⟨t', _ | ⟨t2, ts⟩⟩ <;> try (exact Bool.noConfusion (show false = true from h))
    replace h : parB G S i j a b t' e' = true := h
    cases t' <;> try (exact Bool.noConfusion (show false = true from h))
    rename_i es k1 p1
    rcases es with _ | ⟨x, _ | ⟨y, _ | ⟨z, es⟩⟩⟩ <;> try (exact Bool.noConfusion (show false = true from h))
    · cases x <;> exact Bool.noConfusion (show false = true from h)
    · cases x <;> try (exact Bool.noConfusion (show false = true from h))
      cases y <;> try (exact Bool.noConfusion (show false = true from h))
      rename_i x px y py
      cases e' <;> try (exact Bool.noConfusion (show false = true from h))
      rename_i vs k2 p2
      rcases vs with _ | ⟨a', _ | ⟨b', _ | ⟨z, vs⟩⟩⟩ <;> try (exact Bool.noConfusion (show false = true from h))
      replace h : (decide (i ≠ j) && stB S i x && isLocal (S.look x) && stB S j y && isLocal (S.look y) && chkE G S a a' && notStar a' && chkE G S b b' && notStar b' &&
        decide (S.sc.kind = .function) && px.line == py.line && !(decide (x = y)) && !([a', b'].all (foldedForSure 8)) && !([a', b'].all (constantsAlone 8))) = true := h
      simp only [Bool.and_eq_true, decide_eq_true_eq, Bool.not_eq_true', decide_eq_false_iff_not] at h
      obtain ⟨⟨⟨⟨⟨⟨⟨⟨⟨⟨⟨⟨⟨h1, h2⟩, h3⟩, h4⟩, h5⟩, h6⟩, h7⟩, h8⟩, h9⟩, ha⟩, hb⟩, hc⟩, hd⟩, he⟩ := h
      exact sS_par g h1 h2 h3 h4 h5 h6 h7 h8 h9 ha hb hc hd he
    · cases x <;> try (exact Bool.noConfusion (show false = true from h))
      cases y <;> exact Bool.noConfusion (show false = true from h)
  | .app o e, S, X, st, g, h => by
    cases st <;> try (exact Bool.noConfusion (show false = true from h))
    rename_i v pos
    cases v <;> try (exact Bool.noConfusion (show false = true from h))
    rename_i fn as kws cpos
    cases fn <;> try (exact Bool.noConfusion (show false = true from h))
    rename_i o' m apos
    rcases as with _ | ⟨e', _ | ⟨e2, as⟩⟩ <;> rcases kws with _ | ⟨kw, kws⟩ <;> try (exact Bool.noConfusion (show false = true from h))
    replace h : (decide (m = ("append" : Str)) && baseB o' && (apos.endLine == cpos.line) && chkE G S o o' && chkE G S e e' && notStar e') = true := h
    simp only [Bool.and_eq_true, decide_eq_true_eq] at h
    obtain ⟨⟨⟨⟨⟨rfl, h1⟩, h2⟩, h3⟩, h4⟩, h5⟩ := h
    exact sS_app g h1 h2 h3 h4 h5
  | .ext o e, S, X, st, g, h => by
    cases st <;> try (exact Bool.noConfusion (show false = true from h))
    rename_i v pos
    cases v <;> try (exact Bool.noConfusion (show false = true from h))
    rename_i fn as kws cpos
    cases fn <;> try (exact Bool.noConfusion (show false = true from h))
    rename_i o' m apos
    rcases as with _ | ⟨e', _ | ⟨e2, as⟩⟩ <;> rcases kws with _ | ⟨kw, kws⟩ <;> try (exact Bool.noConfusion (show false = true from h))
    replace h : (decide (m = ("extend" : Str)) && baseB o' && (apos.endLine == cpos.line) && chkE G S o o' && chkE G S e e' && notStar e') = true := h
    simp only [Bool.and_eq_true, decide_eq_true_eq] at h
    obtain ⟨⟨⟨⟨⟨rfl, h1⟩, h2⟩, h3⟩, h4⟩, h5⟩ := h
    exact sS_ext g h1 h2 h3 h4 h5
  | .pass, S, X, st, g, h => by
    have imp : ∀ D σ H, TSr X.K Φ W .pass D σ H → tNext D σ H := fun D σ H q => by
      obtain ⟨M, sl, cs, o, sl', cs', c, s, ev, q⟩ := q
      simp only [evS, Option.some.injEq, Prod.mk.injEq] at ev
      obtain ⟨rfl, rfl, rfl⟩ := ev
      exact q σ H M Ex.refl c s
    cases st <;> try (exact Bool.noConfusion (show false = true from h))
    · rename_i v pos
      cases v <;> try (exact Bool.noConfusion (show false = true from h))
      rename_i cv j p
      cases cv <;> try (exact Bool.noConfusion (show false = true from h))
      exact PSm ps_doc imp
    · exact PSm ps_pass imp
  | .drop e, S, X, st, g, h => by
    cases st <;> try (exact Bool.noConfusion (show false = true from h))
    rename_i e' pos
    replace h : (chkE G S e e' && noComp e') = true := h
    simp only [Bool.and_eq_true] at h
    refine PSm (ps_expr (sE e g h.1).pe (no_comp h.2)) fun D σ H q => ?_
    obtain ⟨M, sl, cs, o, sl', cs', c, s, ev, q⟩ := q
    simp only [evS, Option.map_eq_some_iff, Prod.mk.injEq] at ev
    obtain ⟨⟨v, c1⟩, e1, rfl, rfl, rfl⟩ := ev
    exact ⟨M, sl, cs, v, c1, c, s, e1, fun H1 M1 x x1 d1 r1 => q σ H1 M1 x1 d1 (s.ex x1)⟩
  | .ite t a b, S, X, st, g, h => by
    cases st <;> try (exact Bool.noConfusion (show false = true from h))
    rename_i t' a' b' pos
    replace h : (chkE G S t t' && notIf t' && chkB G S a a' && chkB G S b b') = true := h
    simp only [Bool.and_eq_true] at h
    refine PSm (ps_if ((sE t g h.1.1.1).pt h.1.1.2) (sB a g h.1.2) (sB b g h.2)) fun D σ H q => ?_
    obtain ⟨M, sl, cs, o, sl', cs', c, s, ev, q⟩ := q
    simp only [evS, Option.bind_eq_some_iff] at ev
    obtain ⟨⟨v, c1⟩, e1, e2⟩ := ev
    cases v with
    | bl k0 =>
      refine ⟨M, sl, cs, k0, c1, c, s, e1, fun H1 M1 x1 d1 => ?_⟩
      cases k0 with
      | true =>
        rw [if_pos rfl]
        exact ⟨M1, sl, c1, o, sl', cs', d1, s.ex x1, e2, fun σ' H' M' x2 d2 s2 => q σ' H' M' (x1.trans x2) d2 s2⟩
      | false =>
        rw [if_neg Bool.false_ne_true]
        exact ⟨M1, sl, c1, o, sl', cs', d1, s.ex x1, e2, fun σ' H' M' x2 d2 s2 => q σ' H' M' (x1.trans x2) d2 s2⟩
    | _ => simp at e2
  | .loop t it body, S, X, st, g, h => by
    cases st <;> try (exact Bool.noConfusion (show false = true from h))
    rename_i t' it' body' els pos
    cases els <;> try (exact Bool.noConfusion (show false = true from h))
    replace h : (chkTg G S t t' && nameTg t && chkI G S it t' it' && notSet it' && chkB G S body body') = true := h
    simp only [Bool.and_eq_true] at h
    obtain ⟨⟨⟨⟨h1, h2⟩, h3⟩, h4⟩, h5⟩ := h
    exact PSm (ps_for g.own g.calm (sI it g h3) (sTg t g h1) (sB body g h5) (folded_ok h4)) fun _ _ _ q => imp_for q
  | .while t body, S, X, st, g, h => by
    cases st <;> try (exact Bool.noConfusion (show false = true from h))
    rename_i t' body' els pos
    cases els <;> try (exact Bool.noConfusion (show false = true from h))
    replace h : (chkE G S t t' && notIf t' && chkB G S body body') = true := h
    simp only [Bool.and_eq_true] at h
    exact PSm (ps_while g.own ((sE t g h.1.1).pt h.1.2) (sB body g h.2)) fun _ _ _ q => imp_while q
  | .ret e, S, X, st, g, h => by
    cases st <;> try (exact Bool.noConfusion (show false = true from h))
    rename_i v pos
    rcases v with _ | e'
    · exact Bool.noConfusion (show false = true from h)
    replace h : chkE G S e e' = true := h
    refine PSm (ps_ret (sE e g h).pe) fun D σ H q => ?_
    obtain ⟨M, sl, cs, o, sl', cs', c, s, ev, q⟩ := q
    simp only [evS, Option.map_eq_some_iff, Prod.mk.injEq] at ev
    obtain ⟨⟨v, c1⟩, e1, rfl, rfl, rfl⟩ := ev
    exact ⟨M, sl, cs, v, c1, c, s, e1, fun H1 M1 x x1 d1 r1 => q σ H1 M1 x1 d1 (s.ex x1) x r1⟩
  | .retN, S, X, st, g, h => by
    cases st <;> try (exact Bool.noConfusion (show false = true from h))
    rename_i v pos
    rcases v with _ | e'
    · refine PSm ps_retN fun D σ H q => ?_
      obtain ⟨M, sl, cs, o, sl', cs', c, s, ev, q⟩ := q
      simp only [evS, Option.some.injEq, Prod.mk.injEq] at ev
      obtain ⟨rfl, rfl, rfl⟩ := ev
      exact q σ H M Ex.refl c s _ vr_non
    · exact Bool.noConfusion (show false = true from h)
  | .brk, S, X, st, g, h => by
    cases st <;> try (exact Bool.noConfusion (show false = true from h))
    refine PSm ps_break fun D σ H q => ?_
    obtain ⟨M, sl, cs, o, sl', cs', c, s, ev, q⟩ := q
    simp only [evS, Option.some.injEq, Prod.mk.injEq] at ev
    obtain ⟨rfl, rfl, rfl⟩ := ev
    exact q σ H M Ex.refl c s
  | .cnt, S, X, st, g, h => by
    cases st <;> try (exact Bool.noConfusion (show false = true from h))
    refine PSm ps_continue fun D σ H q => ?_
    obtain ⟨M, sl, cs, o, sl', cs', c, s, ev, q⟩ := q
    simp only [evS, Option.some.injEq, Prod.mk.injEq] at ev
    obtain ⟨rfl, rfl, rfl⟩ := ev
    exact q σ H M Ex.refl c s
theorem sB : ∀ (b : CB) {S : SCx} {X : Cx} {sts : List Stmt}, GX G Φ k S X → chkB G S b sts = true → PSs X sts (TBr X.K Φ W b)
  | .nil, S, X, sts, g, h => by
    cases sts with
    | cons _ _ => exact Bool.noConfusion (show false = true from h)
    | nil =>
      refine PSsm pss_nil fun D σ H q => ?_
      obtain ⟨M, sl, cs, o, sl', cs', c, s, ev, q⟩ := q
      simp only [evB, Option.some.injEq, Prod.mk.injEq] at ev
      obtain ⟨rfl, rfl, rfl⟩ := ev
      exact q σ H M Ex.refl c s
  | .cons s r, S, X, sts, g, h => by
    cases sts with
    | nil => exact Bool.noConfusion (show false = true from h)
    | cons st sts =>
      replace h : (chkS G S s st && chkB G S r sts) = true := h
      simp only [Bool.and_eq_true] at h
      refine PSsm (pss_cons (sS s g h.1) (sB r g h.2)) fun D σ H q => ?_
      obtain ⟨M, sl, cs, o, sl', cs', c, s, ev, q⟩ := q
      simp only [evB, Option.bind_eq_some_iff] at ev
      obtain ⟨⟨o1, sl1, c1⟩, e1, e2⟩ := ev
      refine ⟨M, sl, cs, o1, sl1, c1, c, s, e1, fun σ1 H1 M1 x1 d1 s1 => ?_⟩
      cases o1 with
      | nx => exact ⟨M1, sl1, c1, o, sl', cs', d1, s1, e2, fun σ' H' M' x2 d2 s2 => q σ' H' M' (x1.trans x2) d2 s2⟩
      | _ =>
        simp only [Option.some.injEq, Prod.mk.injEq] at e2
        obtain ⟨rfl, rfl, rfl⟩ := e2
        exact q σ1 H1 M1 x1 d1 s1
end
end
end Ev
end

section
set_option maxHeartbeats 4000000
/-! all defs by depth; the law -/
namespace Ev
open PySem L2 PyProof.Rows
/-- a def of the table stands in the module as it is told -/
structure DefOk (G : GE) (K : PySem.W.Frag) (mg : Str → Option Value) (f : FnI) : Prop where
  ex : ∃ (qual : Str) (params : Arguments) (body : List Stmt) (scope : Scope) (a : Addr) (fd : FuncData), FunD K f.name qual params body scope [] [] a fd ∧ mg f.name = some (.ref a) ∧ FnScope f.N f.ps scope ∧
    chkB G ⟨f.N, scope, none⟩ f.body body = true ∧ ∀ b ∈ f.bd, BindG K fd f.ps b.1 b.2.1 b.2.2
section
variable {P : Program} {w : World} {K : PySem.W.Frag} {mg : Str → Option Value} {base : Heap} {G : GE} {W : Nat}
theorem start_ok {H : Hp} {M : Mp} {N : List Str} {args : List PV} {vs : List V} (r : VRs K H M args vs) (hN : args.length ≤ N.length) : SloR K H M (args.map some ++ List.replicate (N.length - args.length) none) (L2.start N vs) := by
  have len := r.length
  refine ⟨?_, fun i v h => ?_⟩
  · unfold L2.start
    simp [len]
  · unfold lk at h
    by_cases hi : i < args.length
    · rw [List.getElem?_append_left (by simpa using hi), List.getElem?_map] at h
      cases e : args[i]? with
      | none => rw [e] at h; simp at h
      | some u =>
        rw [e] at h
        simp at h
        subst h
        obtain ⟨x, h1, h2⟩ := r.get e
        refine ⟨x, ?_, h2⟩
        unfold L2.start
        rw [List.getElem?_append_left (by rw [List.length_map]; omega), List.getElem?_map, h1]
        rfl
    · rw [List.getElem?_append_right (by simpa using hi)] at h
      exfalso
      rw [List.getElem?_replicate] at h
      split at h <;> simp at h
theorem spLen (Φ : EvΦ) (j n : Nat) (vs : List V) (H : Hp) (Q : VK) (h : spG K Φ j n vs H Q) : vs.length = n := by
  obtain ⟨M, cs, args, v, cs', _, r, _, hl, _⟩ := h
  rw [← r.length, hl]
/-- one def, one level deeper -/
theorem fn_step {d j : Nat} {f : FnI} {qual : Str} {params : Arguments} {body : List Stmt} {scope : Scope} {a : Addr} {fd : FuncData} (ih : GF P w K mg base G (evFn W G.D d) d) (hj : G.D[j]? = some f) (F : FunD K f.name qual params body scope [] [] a fd) (S : FnScope f.N f.ps scope)
    (hc : chkB G ⟨f.N, scope, none⟩ f.body body = true) : FnG P w K mg base (d + 1) a fd f.ps (spG K (evFn W G.D (d + 1)) j f.ps.length) := by
  refine fnG_of F S (spLen _ _ _) fun cdv A outer s H vs Q hr hg hsp => ⟨TBr K (evFn W G.D d) W f.body, ?_, ?_⟩
  · have g : GX G (evFn W G.D d) d ⟨f.N, scope, none⟩ (cxG P w K mg base f.N qual scope a cdv A outer s H) := ⟨ih, rfl, S.nd, rfl, fun _ => rfl, rfl, hg, hr, rfl⟩
    exact sB f.body g hc
  · obtain ⟨M, cs, args, v, cs', cr, rv, e, hl, q⟩ := hsp
    simp only [evFn, hj, Option.bind_some] at e
    rw [if_pos hl] at e
    simp only [Option.bind_eq_some_iff] at e
    obtain ⟨⟨o, sl', c1⟩, e1, e2⟩ := e
    have hN : args.length ≤ f.N.length := by
      have := congrArg List.length S.pre
      rw [List.length_take] at this
      omega
    refine ⟨M, _, cs, o, sl', c1, cr, start_ok rv hN, e1, fun σ' H' M' ex d1 s1 => ?_⟩
    cases o with
    | rt u =>
      simp only [Option.some.injEq, Prod.mk.injEq] at e2
      obtain ⟨rfl, rfl⟩ := e2
      exact fun x r => q H' M' x ex d1 r
    | nx =>
      simp only [Option.some.injEq, Prod.mk.injEq] at e2
      obtain ⟨rfl, rfl⟩ := e2
      exact q H' M' _ ex d1 vr_non
    | _ => simp at e2
theorem gf_all (all : ∀ f ∈ G.D, DefOk G K mg f) (con : ∀ x v, (x, v) ∈ G.con → ∃ u, mg x = some u ∧ ∃ y, RelV y u ∧ ∀ H M, VR K H M v y) (bl : ∀ x ∈ G.bl, mg x = none) (sm : ∃ mm, base.Ns sysModules mm) :
    ∀ d : Nat, GF P w K mg base G (evFn W G.D d) d := by
  intro d
  induction d with
  | zero =>
    refine ⟨fun j f hj => ?_, fun j f args cs r hj h => by simp [evFn] at h, con, bl, sm⟩
    obtain ⟨qual, params, body, scope, a, fd, F, hm, S, hc, hb⟩ := (all f (List.mem_of_getElem? hj)).ex
    refine ⟨a, fd, hm, F.kp, ⟨spLen _ _ _, fun A outer s H args us vs Q hr hg e0 hbd r hsp => ?_⟩, hb⟩
    obtain ⟨M, cs, args', v, cs', _, _, e, _⟩ := hsp
    simp [evFn] at e
  | succ d ih =>
    refine ⟨fun j f hj => ?_, fun j f args cs r hj h => ?_, con, bl, sm⟩
    · obtain ⟨qual, params, body, scope, a, fd, F, hm, S, hc, hb⟩ := (all f (List.mem_of_getElem? hj)).ex
      exact ⟨a, fd, hm, F.kp, fn_step ih hj F S hc, hb⟩
    · simp only [evFn, hj, Option.bind_some] at h
      split at h
      · assumption
      · cases h
/-- the law's call: the script is walked and read only -/
theorem law_callG {mb : Str → Option Value} {k j : Nat} {fa a : Addr} {fd : FuncData} {x : Str} {s₁ : Shared} {vs : List Value} {ns : List Int} {Φ : EvΦ}
    (KX : K.In s₁.heap) (hns : s₁.heap.Ns mainGlobals mg) (hb : s₁.heap.Ns builtinsNs mb) (hbb : ∀ x : Str, x ≠ "__name__" → mb x = bootBuiltins x) (hlim : s₁.heap.NoLimit) {mm : Str → Option Value} (hsm : s₁.heap.Ns sysModules mm) (hg : s₁.gens = #[])
    (ha : s₁.heap.get? a = some { cls := .type "list", data := .seq vs.toArray }) (hi : IntsAre vs ns) (hl : ns.length ≤ 63) (hr : Room k callerA)
    (F : ∀ base : Heap, K.In base → base.Ns mainGlobals mg → base.Ns sysModules mm → FnG P w K mg base k fa fd [x] (spG K Φ j 1)) (hbind : ∀ (s : Shared) (u : Value), BindsTo s fd ⟨[u], []⟩ [(x, u)])
    (ev : ∃ cs', Φ j [.par (ns.map .int)] [] = some (.bl true, cs')) :
    codeAny (model P w) callerA (.call (.ref fa) ⟨[.ref a], []⟩) (fun r s' => r = .ok (.ret (.bool true)) ∧ OldK s₁.heap s'.heap ∧ s'.os = s₁.os ∧ AllBare s'.gens) s₁ := by
  obtain ⟨cs', ev⟩ := ev
  have rv := vals_ints hi
  have lenV := hi.length
  have hz : ns.length ≤ sizeLine := Nat.le_trans hl (by decide)
  have hz2 : (ns.map V.int).length ≤ LIM := by rw [List.length_map]; exact Nat.le_trans hl (by decide)
  have sp : ∀ (H : Hp) (M : Mp), CelR K H M [] → FL K H M a (ns.map V.int) → spG K Φ j 1 [.ref a] H fun v _ => v = .bl true := fun H M c f => by
    refine ⟨M, [], [.par (ns.map .int)], .bl true, cs', c, ?_, ev, rfl, fun H' M' x _ _ r => pv_bl r⟩
    simp only [VRs, VR]
    exact ⟨_, _, rfl, ⟨a, ns.map V.int, rfl, f, hz2, VRs.of_ints ns⟩, rfl⟩
  cases hk : K.lookup a with
  | some o =>
    have e := KX a o hk
    rw [ha] at e
    cases e
    have kl : KL K a (ns.map V.int) := ⟨_, vs.toArray, _, hk, rfl, rfl, rfl, by rw [List.size_toArray, lenV]; exact hz, by simpa using rv⟩
    refine law_core (sp := fun _ => spG K Φ j 1) (H := fun _ => none) (fun _ => .inl rfl) (.inr kl) (fun b u z => nomatch (show (none : Option HO) = some u from z)) (fun b z => absurd rfl z) (fun z => absurd rfl z) ha KX hns hb hbb hlim hsm hg hr F hbind fun _ => ?_
    exact sp _ ⟨[], fun _ => False⟩ ⟨rfl, List.nodup_nil, fun _ z => z.elim, fun n c z => by simp at z⟩ (.inr kl)
  | none =>
    generalize hH : (fun b => if b = a then some (HO.frz { cls := .type "list", data := .seq vs.toArray } (.lst (ns.map V.int))) else none : Hp) = H
    have at_a : H a = some (.frz { cls := .type "list", data := .seq vs.toArray } (.lst (ns.map V.int))) := by rw [← hH]; exact if_pos rfl
    have at_n : ∀ b, b ≠ a → H b = none := fun b q => by rw [← hH]; exact if_neg q
    refine law_core (sp := fun _ => spG K Φ j 1) (H := H) (fun b => ?_) (.inl (.inr ⟨_, at_a⟩)) (fun b u z => ?_) (fun b z => ?_) (fun _ => hk) ha KX hns hb hbb hlim hsm hg hr F hbind fun _ => ?_
    · by_cases q : b = a
      · rw [q]; exact .inr ⟨_, _, at_a⟩
      · exact .inl (at_n b q)
    · by_cases q : b = a
      · subst q
        rw [at_a] at z
        cases z
        exact ⟨ha, by rw [List.length_map]; exact hz, vs, _, rv, ha⟩
      · rw [at_n b q] at z; cases z
    · by_cases q : b = a
      · exact q
      · exact absurd (at_n b q) z
    · exact sp _ ⟨[], fun b => b = a⟩ ⟨rfl, List.nodup_nil, fun b z => by subst z; exact ⟨_, at_a⟩, fun n c z => by simp at z⟩ (.inl ⟨rfl, .inr ⟨_, at_a⟩⟩)
/-- the goal behind the head -/
theorem walkG {l : PySem.W.OpenLaw} {k : Nat} {q : Program} {loose : List Str} {XP : (Str → Option Value) → Heap → Prop} {YP : World → Heap → Prop} {d : DefRec} {x : Str}
    (hn : l.most = some 63) (hdf : d.params.defaults = []) (hr : Room k callerA) (hi : importsNone q = true)
    (F : ∀ (w : World) (mg : Str → Option Value) (fa : Addr) (h : Heap), YP w h → h.Ns mainGlobals mg → mg d.name = some (.ref fa) →
      ∃ (K : PySem.W.Frag) (fd : FuncData) (Φ : EvΦ) (j : Nat), K.In h ∧ (∀ (s : Shared) (u : Value), BindsTo s fd ⟨[u], []⟩ [(x, u)]) ∧
        (∀ ns : List Int, ns.length ≤ 63 → ∃ cs', Φ j [.par (ns.map .int)] [] = some (.bl true, cs')) ∧
        ∀ (base : Heap) (mm : Str → Option Value), K.In base → base.Ns mainGlobals mg → base.Ns sysModules mm → FnG l.prog w K mg base k fa fd [x] (spG K Φ j 1)) :
    PySem.W.WalkO q loose XP YP l.row.toRowW d [] (fun f vs => PySem.call f vs) := by
  refine Att.attach_call hn hdf fun w s₀ s₁ mg mb fa o pm cd doc a vs ns G Y ho hd hcd hmg hobj hints hlen hg => ?_
  obtain ⟨K, fd, Φ, j, KX, hb, ev, hF⟩ := F w mg fa _ Y G.T.g hmg
  obtain ⟨mm, sm, _⟩ := (G.T.seer hi).mods
  exact law_callG KX G.T.g G.T.b G.T.builtins G.T.nolimit sm hg hobj hints hlen hr (fun base h1 h2 h3 => hF base mm h1 h2 h3) hb (ev ns hlen)
/-- how the calls bind, from the def's head -/
theorem bindG_of {x qual : Str} {params : Arguments} {body : List Stmt} {scope : Scope} {a : Addr} {fd : FuncData} {ps ks : List Str} {n : Nat} {pm : List Nat} (F : FunD K x qual params body scope [] [] a fd)
    (h : ∀ (kV doc pr : Value) (an : Option Addr) (cdv ct : Value) (us ws : List Value), us.length = n → ws.length = ks.length → bindArgs (PySem.W.fnOf x qual params body scope .none kV doc pr an cdv ct) ⟨us, ks.zip ws⟩ = pure (ps.zip (pick .none pm (us ++ ws)))) : BindG K fd ps n ks pm := by
  obtain ⟨oc, od, dV, kV, doc, pr, an, cdv, ct, osl, rfl, lk, hcd, hD, hK⟩ := F.ex
  rcases hD with ⟨_, rfl⟩ | ⟨e, _⟩
  · exact fun s us ws h1 h2 => .of_eq (h kV doc pr an cdv ct us ws h1 h2)
  · exact absurd rfl e
end
end Ev
end

section
set_option maxHeartbeats 4000000
/-! rules of evaluation -/
namespace Ev
open PySem
section
variable {Φ : EvΦ} {W : Nat} {sl sl1 sl' : Sl} {cs c1 c2 c3 cs' : Cs} {a b e t : CE} {v v' x y z : PV} {i j : Nat}
theorem r_var (h : lk sl i = some v) : evE Φ (.var i) sl cs = some (v, cs) := by rw [evE, h]; rfl
theorem r_tup {es : CA} {vs : List PV} (h : evA Φ es sl cs = some (vs, cs')) : evE Φ (.tup es) sl cs = some (.tup vs, cs') := by rw [evE, h]; rfl
theorem r_lst {es : CA} {c : Bool} {vs : List PV} (h : evA Φ es sl cs = some (vs, cs')) : evE Φ (.lst c es) sl cs = some (alc c vs cs') := by rw [evE, h]; rfl
theorem r_nil : evA Φ .nil sl cs = some ([], cs) := rfl
theorem r_cons {r : CA} {vs : List PV} (h : evE Φ e sl cs = some (v, c1)) (hr : evA Φ r sl c1 = some (vs, cs')) : evA Φ (.cons e r) sl cs = some (v :: vs, cs') := by rw [evA, h, Option.bind_some, hr]; rfl
theorem r_kcons {k : Str} {r : CK} {vs : List PV} (h : evE Φ e sl cs = some (v, c1)) (hr : evK Φ r sl c1 = some (vs, cs')) : evK Φ (.cons k e r) sl cs = some (v :: vs, cs') := by rw [evK, h, Option.bind_some, hr]; rfl
theorem r_bin {op : Operator} {c : Bool} {R : Option (PV × Cs)} (ha : evE Φ a sl cs = some (x, c1)) (hb : evE Φ b sl c1 = some (y, c2)) (h : opB op c c2 x y = R) : evE Φ (.bin op c a b) sl cs = R := by
  rw [evE, ha, Option.bind_some, hb, Option.bind_some]; exact h
theorem r_cmp {op : CmpOp} {k : Bool} (ha : evE Φ a sl cs = some (x, c1)) (hb : evE Φ b sl c1 = some (y, c2)) (h : cmpO op c2 x y = some k) : evE Φ (.cmp op a b) sl cs = some (.bl k, c2) := by
  rw [evE, ha, Option.bind_some, hb, Option.bind_some]; simp only [h]; rfl
theorem r_chain {op op' : CmpOp} {k k' : Bool} (ha : evE Φ a sl cs = some (x, c1)) (hb : evE Φ b sl c1 = some (y, c2)) (h : cmpO op c2 x y = some k) (hk : k = true → ∃ z, evE Φ e sl c2 = some (z, c2) ∧ cmpO op' c2 y z = some k') : evE Φ (.chain op op' a b e) sl cs = some (.bl (k && k'), c2) := by
  rw [evE, ha, Option.bind_some, hb, Option.bind_some]
  simp only [h, Option.bind_some]
  cases k with
  | false => rfl
  | true =>
    obtain ⟨z, h1, h2⟩ := hk rfl
    simp only [if_true, h1, Option.bind_some, h2]; rfl
theorem r_and {k k' : Bool} (ha : evE Φ a sl cs = some (.bl k, c1)) (hb : k = true → evE Φ b sl c1 = some (.bl k', c1)) : evE Φ (.and a b) sl cs = some (.bl (k && k'), c1) := by
  rw [evE, ha, Option.bind_some]
  cases k with
  | false => rfl
  | true => simp only [hb rfl]; rfl
theorem r_or {k k' : Bool} (ha : evE Φ a sl cs = some (.bl k, c1)) (hb : k = false → evE Φ b sl c1 = some (.bl k', c1)) : evE Φ (.or a b) sl cs = some (.bl (k || k'), c1) := by
  rw [evE, ha, Option.bind_some]
  cases k with
  | true => rfl
  | false => simp only [hb rfl]; rfl
/-- the second part may change cells -/
theorem r_andT (ha : evE Φ a sl cs = some (.bl true, c1)) (hb : evE Φ b sl c1 = some (v, c2)) : evE Φ (.and a b) sl cs = some (v, c2) := by rw [evE, ha, Option.bind_some]; exact hb
theorem r_not {k : Bool} (ha : evE Φ a sl cs = some (.bl k, c1)) : evE Φ (.not a) sl cs = some (.bl (!k), c1) := by rw [evE, ha]; rfl
theorem r_ite {k : Bool} {R : Option (PV × Cs)} (ht : evE Φ t sl cs = some (.bl k, c1)) (h1 : k = true → evE Φ a sl c1 = R) (h0 : k = false → evE Φ b sl c1 = R) : evE Φ (.ite t a b) sl cs = R := by
  rw [evE, ht, Option.bind_some]
  cases k with
  | true => exact h1 rfl
  | false => exact h0 rfl
theorem r_idx (ha : evE Φ a sl cs = some (x, c1)) (hb : evE Φ b sl c1 = some (y, c2)) (h : ixO c2 x y = some v) : evE Φ (.idx a b) sl cs = some (v, c2) := by
  rw [evE, ha, Option.bind_some, hb, Option.bind_some]; simp only [h]; rfl
theorem r_blt {f : Bl} {c : Bool} {es : CA} {vs : List PV} {R : Option (PV × Cs)} (h : evA Φ es sl cs = some (vs, c1)) (hf : bltO f c c1 vs = R) : evE Φ (.blt f c es) sl cs = R := by rw [evE, h, Option.bind_some]; exact hf
theorem r_blt1 {f : Bl} {c : Bool} {R : Option (PV × Cs)} (h : evE Φ a sl cs = some (x, c1)) (hf : bltO f c c1 [x] = R) : evE Φ (.blt f c (.cons a .nil)) sl cs = R := r_blt (r_cons h r_nil) hf
theorem r_blt2 {f : Bl} {c : Bool} {R : Option (PV × Cs)} (h : evE Φ a sl cs = some (x, c1)) (h2 : evE Φ b sl c1 = some (y, c2)) (hf : bltO f c c2 [x, y] = R) : evE Φ (.blt f c (.cons a (.cons b .nil))) sl cs = R := r_blt (r_cons h (r_cons h2 r_nil)) hf
theorem r_isi {ts : List String} {m : Bool} (h : evE Φ a sl cs = some (x, c1)) : evE Φ (.isi a ts m) sl cs = some (.bl (ts.any (tyIs x)), c1) := by rw [evE, h]; rfl
theorem r_call {pm : List Nat} {es : CA} {ks : CK} {vs ws args : List PV} {R : Option (PV × Cs)} (h : evA Φ es sl cs = some (vs, c1)) (hk : evK Φ ks sl c1 = some (ws, c2)) (hp : (pm.mapM fun k => (vs ++ ws)[k]?) = some args) (hf : Φ j args c2 = R) : evE Φ (.call j pm es ks) sl cs = R := by
  rw [evE, h, Option.bind_some, hk, Option.bind_some]
  simp only [hp, Option.bind_some]; exact hf
theorem r_call1 {R : Option (PV × Cs)} (h : evE Φ a sl cs = some (x, c1)) (hf : Φ j [x] c1 = R) : evE Φ (.call j [0] (.cons a .nil) .nil) sl cs = R := r_call (r_cons h r_nil) rfl rfl hf
theorem r_call2 {R : Option (PV × Cs)} (h : evE Φ a sl cs = some (x, c1)) (h2 : evE Φ b sl c1 = some (y, c2)) (hf : Φ j [x, y] c2 = R) : evE Φ (.call j [0, 1] (.cons a (.cons b .nil)) .nil) sl cs = R := r_call (r_cons h (r_cons h2 r_nil)) rfl rfl hf
theorem r_call3 {R : Option (PV × Cs)} (h : evE Φ a sl cs = some (x, c1)) (h2 : evE Φ b sl c1 = some (y, c2)) (h3 : evE Φ e sl c2 = some (z, c3)) (hf : Φ j [x, y, z] c3 = R) : evE Φ (.call j [0, 1, 2] (.cons a (.cons b (.cons e .nil))) .nil) sl cs = R := r_call (r_cons h (r_cons h2 (r_cons h3 r_nil))) rfl rfl hf
/-- one turn of a comprehension -/
def turnC (Φ : EvΦ) (elt : CE) (tg : CTg) (cond : CO) (w : Sl) (v : PV) (cs : Cs) : Option (Option PV × Cs) :=
  (evTg Φ tg v w cs).bind fun q => (evO Φ cond q.1 q.2).bind fun r => match r.1 with
        | none => (evE Φ elt q.1 r.2).map fun s => (some s.1, s.2)
        | some (.bl true) => (evE Φ elt q.1 r.2).map fun s => (some s.1, s.2)
        | some (.bl false) => some (none, r.2)
        | _ => none
theorem r_comp {c : Bool} {elt : CE} {tg : CTg} {it : CI} {cond : CO} {own : List (Str × Nat)} {vs ws : List PV} (hi : evI Φ it sl cs = some (vs, c1)) (h : evComp (turnC Φ elt tg cond (wipeS sl (own.map (·.2)))) vs c1 = some (ws, c2)) : evE Φ (.comp c elt tg it cond own) sl cs = some (alc c ws c2) := by
  rw [evE, hi, Option.bind_some]
  show (evComp (turnC Φ elt tg cond (wipeS sl (own.map (·.2)))) vs c1).map _ = _
  rw [h]; rfl
theorem t_all {elt : CE} {i : Nat} {w : Sl} (h : evE Φ elt (w.set i (some v)) cs = some (x, cs')) : turnC Φ elt (.name i) .none w v cs = some (some x, cs') := by
  show ((evE Φ elt (w.set i (some v)) cs).map fun s => (some s.1, s.2)) = _
  rw [h]; rfl
theorem t_if {elt cd : CE} {i : Nat} {w : Sl} {k : Bool} (hc : evE Φ cd (w.set i (some v)) cs = some (.bl k, cs)) (h : k = true → evE Φ elt (w.set i (some v)) cs = some (x, cs)) : turnC Φ elt (.name i) (.some cd) w v cs = some (if k = true then some x else none, cs) := by
  show (((evE Φ cd (w.set i (some v)) cs).map fun p => ((some p.1 : Option PV), p.2)).bind _) = _
  rw [hc]
  cases k with
  | false => rfl
  | true =>
    show ((evE Φ elt (w.set i (some v)) cs).map fun s => (some s.1, s.2)) = _
    rw [h rfl]; rfl
theorem r_seq {vs : List PV} (h : evE Φ e sl cs = some (v, c1)) (hw : walk v c1 = some (vs, c2)) : evI Φ (.seq e) sl cs = some (vs, c2) := by rw [evI, h, Option.bind_some]; exact hw
theorem r_rng1 {n : Nat} (h : evE Φ a sl cs = some (.int n, c1)) (hn : n ≤ LIM) : evI Φ (.rng (.cons a .nil)) sl cs = some ((List.range n).map fun (i : Nat) => .int i, c1) := by
  rw [evI, r_cons h r_nil, Option.bind_some]
  have : (-(LIM : Int) ≤ (n : Int) ∧ (n : Int) ≤ LIM) := by simp only [LIM] at hn ⊢; omega
  simp only [rngO, if_pos this, Int.toNat_natCast]
  rfl
/-! ### statements -/
variable {s : CS} {r : CB} {R : Option (Out × Sl × Cs)}
theorem b_nx (h : evS Φ W s sl cs = some (.nx, sl1, c1)) (hr : evB Φ W r sl1 c1 = R) : evB Φ W (.cons s r) sl cs = R := by rw [evB, h, Option.bind_some]; exact hr
theorem b_rt (h : evS Φ W s sl cs = some (.rt v, sl1, c1)) : evB Φ W (.cons s r) sl cs = some (.rt v, sl1, c1) := by rw [evB, h]; rfl
theorem q_ret (h : evE Φ e sl cs = some (v, c1)) : evS Φ W (.ret e) sl cs = some (.rt v, sl, c1) := by rw [evS, h]; rfl
theorem q_name (h : evE Φ e sl cs = some (v, c1)) : evS Φ W (.asg (.name i) e) sl cs = some (.nx, sl.set i (some v), c1) := by rw [evS, h]; rfl
theorem q_ite {k : Bool} {p q : CB} (ht : evE Φ t sl cs = some (.bl k, c1)) (h1 : k = true → evB Φ W p sl c1 = R) (h0 : k = false → evB Φ W q sl c1 = R) : evS Φ W (.ite t p q) sl cs = R := by
  rw [evS, ht, Option.bind_some]
  cases k with
  | true => exact h1 rfl
  | false => exact h0 rfl
theorem b_nil : evB Φ W .nil sl cs = some (.nx, sl, cs) := rfl
theorem b_ret (h : evE Φ e sl cs = some (v, c1)) : evB Φ W (.cons (.ret e) r) sl cs = some (.rt v, sl, c1) := b_rt (q_ret h)
/-- if t: return e -/
theorem b_ifr {k : Bool} (ht : evE Φ t sl cs = some (.bl k, c1)) (h1 : k = true → ∃ u, evE Φ e sl c1 = some (u, c1) ∧ R = some (.rt u, sl, c1)) (h0 : k = false → evB Φ W r sl c1 = R) : evB Φ W (.cons (.ite t (.cons (.ret e) .nil) .nil) r) sl cs = R := by
  cases k with
  | true =>
    obtain ⟨u, h2, rfl⟩ := h1 rfl
    exact b_rt (q_ite ht (fun _ => b_ret h2) (fun z => nomatch z))
  | false => exact b_nx (q_ite ht (fun z => nomatch z) (fun _ => b_nil)) (h0 rfl)
/-- if not fine: raise -/
theorem b_want (ht : evE Φ t sl cs = some (.bl false, c1)) {p : CB} (h0 : evB Φ W r sl c1 = R) : evB Φ W (.cons (.ite t p .nil) r) sl cs = R := b_nx (q_ite ht (fun z => nomatch z) (fun _ => b_nil)) h0
theorem q_drop (h : evE Φ e sl cs = some (v, c1)) : evS Φ W (.drop e) sl cs = some (.nx, sl, c1) := by rw [evS, h]; rfl
theorem q_app {o : CE} (ho : evE Φ o sl cs = some (x, c1)) (h : evE Φ e sl c1 = some (y, c2)) (hf : appO c2 x y = some c3) : evS Φ W (.app o e) sl cs = some (.nx, sl, c3) := by
  rw [evS, ho, Option.bind_some, h, Option.bind_some]; simp only [hf]; rfl
theorem q_par (ha : evE Φ a sl cs = some (x, c1)) (hb : evE Φ b sl c1 = some (y, c2)) : evS Φ W (.par i j a b) sl cs = some (.nx, (sl.set i (some x)).set j (some y), c2) := by rw [evS, ha, Option.bind_some, hb]; rfl
theorem q_loop {tg : CTg} {it : CI} {body : CB} {vs : List PV} (hi : evI Φ it sl cs = some (vs, c1)) (h : evFor (fun v sl cs => (evTg Φ tg v sl cs).bind fun q => evB Φ W body q.1 q.2) vs sl c1 = R) : evS Φ W (.loop tg it body) sl cs = R := by rw [evS, hi, Option.bind_some]; exact h
/-- a loop that goes through -/
theorem for_inv {f : PV → Sl → Cs → Option (Out × Sl × Cs)} : ∀ {vs : List PV} (P : Nat → Sl → Cs → Prop) {sl : Sl} {cs : Cs} (n : Nat), P n sl cs → (∀ i v sl cs, vs[i]? = some v → P (n + i) sl cs → ∃ sl' cs', f v sl cs = some (.nx, sl', cs') ∧ P (n + i + 1) sl' cs') →
    ∃ sl' cs', evFor f vs sl cs = some (.nx, sl', cs') ∧ P (n + vs.length) sl' cs'
  | [], P, sl, cs, n, h0, _ => ⟨sl, cs, rfl, h0⟩
  | v :: vs, P, sl, cs, n, h0, hs => by
    obtain ⟨sl1, c1, e1, h1⟩ := hs 0 v sl cs rfl h0
    obtain ⟨sl2, c2, e2, h2⟩ := for_inv (vs := vs) P (n + 1) h1 fun i w sl cs hw hp => by
      obtain ⟨sl', cs', e, h⟩ := hs (i + 1) w sl cs (by simpa using hw) (by rw [show n + (i + 1) = n + 1 + i by omega]; exact hp)
      exact ⟨sl', cs', e, by rw [show n + 1 + i + 1 = n + (i + 1) + 1 by omega]; exact h⟩
    refine ⟨sl2, c2, ?_, by rw [show n + (v :: vs).length = n + 1 + vs.length by simp; omega]; exact h2⟩
    rw [evFor, e1, Option.bind_some]
    exact e2
theorem fn_ret {D : List FnI} {d : Nat} {f : FnI} {args : List PV} (hf : D[j]? = some f) (hl : args.length = f.ps.length) (h : evB (evFn W D d) W f.body (args.map some ++ List.replicate (f.N.length - args.length) none) cs = some (.rt v, sl', cs')) : evFn W D (d + 1) j args cs = some (v, cs') := by
  rw [evFn, hf, Option.bind_some, if_pos hl, h]; rfl
theorem fn_nx {D : List FnI} {d : Nat} {f : FnI} {args : List PV} (hf : D[j]? = some f) (hl : args.length = f.ps.length) (h : evB (evFn W D d) W f.body (args.map some ++ List.replicate (f.N.length - args.length) none) cs = some (.nx, sl', cs')) : evFn W D (d + 1) j args cs = some (.non, cs') := by
  rw [evFn, hf, Option.bind_some, if_pos hl, h]; rfl
/-! ### comprehensions that leave the cells -/
theorem comp_map {f : PV → Cs → Option (Option PV × Cs)} {g : PV → PV} {cs : Cs} : ∀ {vs : List PV}, (∀ v ∈ vs, f v cs = some (some (g v), cs)) → evComp f vs cs = some (vs.map g, cs)
  | [], _ => rfl
  | v :: vs, h => by
    rw [evComp, h v List.mem_cons_self, Option.bind_some, comp_map fun w hw => h w (List.mem_cons_of_mem _ hw)]
    rfl
theorem comp_filter {f : PV → Cs → Option (Option PV × Cs)} {p : PV → Bool} {g : PV → PV} {cs : Cs} : ∀ {vs : List PV}, (∀ v ∈ vs, f v cs = some (if p v = true then some (g v) else none, cs)) → evComp f vs cs = some ((vs.filter p).map g, cs)
  | [], _ => rfl
  | v :: vs, h => by
    rw [evComp, h v List.mem_cons_self, Option.bind_some, comp_filter fun w hw => h w (List.mem_cons_of_mem _ hw), List.filter_cons]
    cases p v <;> rfl
theorem asBls_map {α : Type} (p : α → Bool) : ∀ vs : List α, asBls (vs.map fun v => .bl (p v)) = some (vs.map p)
  | [] => rfl
  | v :: vs => by
    show (asBls (vs.map fun v => PV.bl (p v))).map (p v :: ·) = _
    rw [asBls_map p vs]; rfl
theorem asInts_map : ∀ ns : List Int, asInts (ns.map .int) = some ns
  | [] => rfl
  | n :: ns => by
    show (asInts (ns.map .int)).map (n :: ·) = _
    rw [asInts_map ns]; rfl
theorem w_all {α : Type} (p : α → Bool) (vs : List α) (cs : Cs) (c : Bool) : bltO .all c cs [.lst (vs.map fun v => .bl (p v))] = some (.bl (vs.all p), cs) := by
  show (asBls (vs.map fun v => PV.bl (p v))).map (fun bs => (PV.bl (bs.all id), cs)) = _
  rw [asBls_map]
  simp [Function.comp_def]
theorem w_any {α : Type} (p : α → Bool) (vs : List α) (cs : Cs) (c : Bool) : bltO .any c cs [.lst (vs.map fun v => .bl (p v))] = some (.bl (vs.any p), cs) := by
  show (asBls (vs.map fun v => PV.bl (p v))).map (fun bs => (PV.bl (bs.any id), cs)) = _
  rw [asBls_map]
  simp [Function.comp_def]
/-! ### small values -/
theorem eq_int (cs : Cs) (i j : Int) : eqO cs (.int i) (.int j) = some (decide (i = j)) := by
  show some (i == j) = _
  rw [Bool.beq_eq_decide_eq]
theorem eq_str (cs : Cs) (s t : Str) : eqO cs (.str s) (.str t) = some (s == t) := rfl
theorem at_nat {α : Type} (vs : List α) (k : Nat) (h : k < vs.length) : L2.atI vs (k : Int) = vs[k]? := by
  unfold L2.atI L2.ixN
  rw [if_pos (by omega), if_pos (by omega)]
  simp
theorem r_slc {c : Bool} {lo hi : CO} {vl vh : Option PV} {R : Option (PV × Cs)} (ha : evE Φ a sl cs = some (x, c1)) (hl : evO Φ lo sl c1 = some (vl, c2)) (hh : evO Φ hi sl c2 = some (vh, c3)) (h : slcO c c3 x vl vh = R) : evE Φ (.slc c a lo hi) sl cs = R := by
  rw [evE, ha, Option.bind_some, hl, Option.bind_some, hh, Option.bind_some]; exact h
theorem r_some (h : evE Φ e sl cs = some (v, c1)) : evO Φ (.some e) sl cs = some (some v, c1) := by rw [evO, h]; rfl
theorem r_none : evO Φ .none sl cs = some (none, cs) := rfl
theorem bl_eq {o : Option (PV × Cs)} {k k' : Bool} (h : o = some (.bl k, cs)) (e : k = k') : o = some (.bl k', cs) := by rw [← e]; exact h
end
end Ev
end

section
set_option maxHeartbeats 4000000
/-! values short enough to be shown -/
namespace Ev
open PySem
/-- data of weight at most w, of depth at most h, leaves short -/
structure ShD (w h : Nat) (d : PyData) : Prop where
  s : d.showable = true
  l : d.leavesShort 13 = true
  w : d.weight ≤ w
  d : d.depth ≤ h
structure ShA (w h : Nat) (ds : List PyData) : Prop where
  s : PyData.showableAll ds = true
  l : PyData.leavesShortAll 13 ds = true
  w : PyData.weightAll ds ≤ w
  d : PyData.depthAll ds ≤ h
theorem ShD.mono {w w' h h' : Nat} {d : PyData} (x : ShD w h d) (hw : w ≤ w') (hh : h ≤ h') : ShD w' h' d := ⟨x.s, x.l, Nat.le_trans x.w hw, Nat.le_trans x.d hh⟩
theorem sh_all {w h : Nat} : ∀ {ds : List PyData}, (∀ d ∈ ds, ShD w h d) → ShA (ds.length * (w + 1)) h ds
  | [], _ => ⟨rfl, rfl, by simp [PyData.weightAll], Nat.zero_le _⟩
  | d :: ds, q => by
    have x := q d List.mem_cons_self
    have y := sh_all fun e he => q e (List.mem_cons_of_mem _ he)
    refine ⟨?_, ?_, ?_, ?_⟩
    · show (d.showable && PyData.showableAll ds) = true
      rw [x.s, y.s]; rfl
    · show (d.leavesShort 13 && PyData.leavesShortAll 13 ds) = true
      rw [x.l, y.l]; rfl
    · show d.weight + 1 + PyData.weightAll ds ≤ _
      have := x.w
      have := y.w
      rw [List.length_cons, Nat.add_mul, Nat.one_mul]
      omega
    · exact Nat.max_le.mpr ⟨x.d, y.d⟩
theorem sh_list {w h : Nat} {ds : List PyData} (q : ∀ d ∈ ds, ShD w h d) : ShD (ds.length * (w + 1)) (h + 1) (.list ds) := let x := sh_all q; ⟨x.s, x.l, x.w, Nat.succ_le_succ x.d⟩
theorem sh_tuple {w h : Nat} {ds : List PyData} (q : ∀ d ∈ ds, ShD w h d) : ShD (ds.length * (w + 1)) (h + 1) (.tuple ds) := let x := sh_all q; ⟨x.s, x.l, x.w, Nat.succ_le_succ x.d⟩
theorem sh_none : ShD 0 0 .none := ⟨rfl, rfl, Nat.le_refl _, Nat.le_refl _⟩
theorem sh_bool (b : Bool) : ShD 0 0 (.bool b) := ⟨rfl, rfl, Nat.le_refl _, Nat.le_refl _⟩
theorem sh_dict : ShD 0 1 (.dict []) := ⟨rfl, rfl, by decide, by decide⟩
theorem sh_int {i : Int} (h : i.natAbs < 10 ^ 12) : ShD 40 0 (.int i) := by
  have hl : i.natAbs.log2 < 40 := by
    by_cases h0 : i.natAbs = 0
    · rw [h0]; decide
    · rw [Nat.log2_lt h0]
      exact Nat.lt_trans h (by decide)
  refine ⟨?_, ?_, ?_, Nat.le_refl _⟩
  · show decide (i.natAbs.log2 < 1920) = true
    rw [decide_eq_true_eq]; omega
  · show decide _ = true
    rw [decide_eq_true_eq]; exact PyData.shown_int_le h
  · show (if i == 0 then 0 else i.natAbs.log2 + 1) ≤ 40
    split <;> omega
theorem sh_str {x : Str} {n : Nat} (h : PyData.strOk x = true) (hn : x.cps.size ≤ n) : ShD n 0 (.str x) :=
  ⟨rfl, PyData.leavesShort_of_canLay0 13 (.str x) h rfl, hn, Nat.le_refl _⟩
/-- a value of that kind -/
def Sh (w h : Nat) (cs : Cs) (v : PV) : Prop := ∃ d, asD cs v = some d ∧ ShD w h d
theorem Sh.mono {w w' h h' : Nat} {cs : Cs} {v : PV} (x : Sh w h cs v) (hw : w ≤ w') (hh : h ≤ h') : Sh w' h' cs v := let ⟨d, e, q⟩ := x; ⟨d, e, q.mono hw hh⟩
theorem sh_args {w h : Nat} {cs : Cs} : ∀ {vs : List PV}, (∀ v ∈ vs, Sh w h cs v) → ∃ ds, asDA cs vs = some ds ∧ ds.length = vs.length ∧ ∀ d ∈ ds, ShD w h d
  | [], _ => ⟨[], rfl, rfl, fun _ h => absurd h (by simp)⟩
  | v :: vs, q => by
    obtain ⟨d, e, x⟩ := q v List.mem_cons_self
    obtain ⟨ds, e2, l, y⟩ := sh_args fun u hu => q u (List.mem_cons_of_mem _ hu)
    refine ⟨d :: ds, ?_, by simp [l], fun f hf => (List.mem_cons.mp hf).elim (fun z => by rw [z]; exact x) (y f)⟩
    show (asD cs v).bind (fun d => (asDA cs vs).map (d :: ·)) = _
    rw [e, e2]; rfl
theorem sh_tup {w h : Nat} {cs : Cs} {vs : List PV} (q : ∀ v ∈ vs, Sh w h cs v) : Sh (vs.length * (w + 1)) (h + 1) cs (.tup vs) := by
  obtain ⟨ds, e, l, y⟩ := sh_args q
  refine ⟨.tuple ds, ?_, by rw [← l]; exact sh_tuple y⟩
  show (asDA cs vs).map PyData.tuple = _
  rw [e]; rfl
theorem sh_lst {w h : Nat} {cs : Cs} {vs : List PV} (q : ∀ v ∈ vs, Sh w h cs v) : Sh (vs.length * (w + 1)) (h + 1) cs (.lst vs) := by
  obtain ⟨ds, e, l, y⟩ := sh_args q
  refine ⟨.list ds, ?_, by rw [← l]; exact sh_list y⟩
  show (asDA cs vs).map PyData.list = _
  rw [e]; rfl
/-- the text of a short value -/
theorem repr_ok {w h : Nat} {cs : Cs} {v : PV} {c : Bool} (x : Sh w h cs v) (hw : w ≤ 2 ^ 20) (hh : h ≤ 64) : ∃ d, asD cs v = some d ∧ bltO .repr c cs [v] = some (.str d.shown, cs) := by
  obtain ⟨d, e, q⟩ := x
  refine ⟨d, e, ?_⟩
  have hs := PyData.shown_le 13 (by decide) d q.l
  have e1 : (2 : Nat) ^ 20 = 1048576 := by decide
  have h2 : (13 + 2) * d.weight ≤ 15 * 1048576 := Nat.mul_le_mul (by decide) (by have := q.w; omega)
  have hL : d.shown.length ≤ LIM := by simp only [LIM]; omega
  show (asD cs v).bind (fun d => if d.showable = true ∧ d.depth ≤ 64 ∧ d.shown.length ≤ LIM then some (PV.str d.shown, cs) else none) = _
  rw [e, Option.bind_some, if_pos ⟨q.s, Nat.le_trans q.d hh, hL⟩]
/-- repr(a) != repr(b), where both have the same data -/
theorem reprs_ne {Φ : EvΦ} {sl : Sl} {cs c1 c2 : Cs} {a b : CE} {x y : PV} {dx dy : Str} (ha : evE Φ (.blt .repr false (.cons a .nil)) sl cs = some (.str dx, c1)) (hb : evE Φ (.blt .repr false (.cons b .nil)) sl c1 = some (.str dy, c2)) : evE Φ (.cmp .NotEq (.blt .repr false (.cons a .nil)) (.blt .repr false (.cons b .nil))) sl cs = some (.bl (!(dx == dy)), c2) :=
  r_cmp ha hb rfl
theorem reprs_eq {Φ : EvΦ} {sl : Sl} {cs c1 c2 : Cs} {a b : CE} {dx dy : Str} (ha : evE Φ (.blt .repr false (.cons a .nil)) sl cs = some (.str dx, c1)) (hb : evE Φ (.blt .repr false (.cons b .nil)) sl c1 = some (.str dy, c2)) : evE Φ (.cmp .Eq (.blt .repr false (.cons a .nil)) (.blt .repr false (.cons b .nil))) sl cs = some (.bl (dx == dy), c2) :=
  r_cmp ha hb rfl
end Ev
end

section
set_option maxHeartbeats 4000000
/-! evaluation, told forward: what holds behind it -/
namespace Ev
def CB.drop : CB → Nat → CB
  | r, 0 => r
  | .cons _ r, n + 1 => r.drop n
  | .nil, _ + 1 => .nil
end Ev
namespace Wp
open PySem Ev
def WP {α : Type} (o : Option (α × Cs)) (Q : α → Cs → Prop) : Prop := ∃ v c, o = some (v, c) ∧ Q v c
def WS (o : Option (Out × Sl × Cs)) (Q : Out → Sl → Cs → Prop) : Prop := ∃ u s c, o = some (u, s, c) ∧ Q u s c
theorem wp_ok {α : Type} {o : Option (α × Cs)} {v : α} {c : Cs} {Q : α → Cs → Prop} (h : o = some (v, c)) (q : Q v c) : WP o Q := ⟨v, c, h, q⟩
theorem wp_use {α : Type} {o : Option (α × Cs)} {P Q : α → Cs → Prop} (h : WP o P) (q : ∀ v c, P v c → Q v c) : WP o Q := let ⟨v, c, e, p⟩ := h; ⟨v, c, e, q v c p⟩
theorem wp_eq {α : Type} {o : Option (α × Cs)} {v : α} {c : Cs} (h : WP o fun v' c' => v' = v ∧ c' = c) : o = some (v, c) := by
  obtain ⟨v, c, e, rfl, rfl⟩ := h
  exact e
theorem ws_use {o : Option (Out × Sl × Cs)} {P Q : Out → Sl → Cs → Prop} (h : WS o P) (q : ∀ u s c, P u s c → Q u s c) : WS o Q := let ⟨v, s, c, e, p⟩ := h; ⟨v, s, c, e, q v s c p⟩
theorem wp_bind {α β : Type} {o : Option (α × Cs)} {f : α × Cs → Option (β × Cs)} {Q : β → Cs → Prop} (h : WP o fun v c => WP (f (v, c)) Q) : WP (o.bind f) Q := by
  obtain ⟨v, c, rfl, u, c2, e, q⟩ := h
  exact ⟨u, c2, e, q⟩
theorem wp_map {α β : Type} {o : Option (α × Cs)} {f : α × Cs → β × Cs} {Q : β → Cs → Prop} (h : WP o fun v c => Q (f (v, c)).1 (f (v, c)).2) : WP (o.map f) Q := by
  obtain ⟨v, c, rfl, q⟩ := h
  exact ⟨_, _, rfl, q⟩
theorem ws_bind {α : Type} {o : Option (α × Cs)} {f : α × Cs → Option (Out × Sl × Cs)} {Q : Out → Sl → Cs → Prop} (h : WP o fun v c => WS (f (v, c)) Q) : WS (o.bind f) Q := by
  obtain ⟨v, c, rfl, u, s, c2, e, q⟩ := h
  exact ⟨u, s, c2, e, q⟩
theorem ws_map {α : Type} {o : Option (α × Cs)} {f : α × Cs → Out × Sl × Cs} {Q : Out → Sl → Cs → Prop} (h : WP o fun v c => Q (f (v, c)).1 (f (v, c)).2.1 (f (v, c)).2.2) : WS (o.map f) Q := by
  obtain ⟨v, c, rfl, q⟩ := h
  exact ⟨_, _, _, rfl, q⟩
/-! ### small words of the way -/
def SetTo (sl : Sl) (i : Nat) (o : Option PV) (K : Sl → Prop) : Prop := K (sl.set i o)
theorem st_zero {a o : Option PV} {l : Sl} {K : Sl → Prop} (h : K (o :: l)) : SetTo (a :: l) 0 o K := h
theorem st_succ {a o : Option PV} {l : Sl} {i : Nat} {K : Sl → Prop} (h : SetTo l i o fun s => K (a :: s)) : SetTo (a :: l) (i + 1) o K := h
def WipeK (sl : Sl) (own : List (Str × Nat)) (K : Sl → Prop) : Prop := K (wipeS sl (own.map (·.2)))
theorem wi_nil {sl : Sl} {K : Sl → Prop} (h : K sl) : WipeK sl [] K := h
theorem wi_cons {sl : Sl} {x : Str} {n : Nat} {r : List (Str × Nat)} {K : Sl → Prop} (h : WipeK sl r fun s => SetTo s n none K) : WipeK sl ((x, n) :: r) K := h
def PickK (vs : List PV) (perm : List Nat) (K : List PV → Prop) : Prop := ∃ as, perm.mapM (fun k => vs[k]?) = some as ∧ K as
theorem pk_nil {vs : List PV} {K : List PV → Prop} (h : K []) : PickK vs [] K := ⟨[], rfl, h⟩
theorem pk_cons {vs : List PV} {i : Nat} {r : List Nat} {v : PV} {K : List PV → Prop} (e : vs[i]? = some v) (h : PickK vs r fun as => K (v :: as)) : PickK vs (i :: r) K := by
  obtain ⟨as, e2, k⟩ := h
  refine ⟨v :: as, ?_, k⟩
  rw [List.mapM_cons, e, e2]; rfl
def IfK (v : PV) (A B : Prop) : Prop := ∃ k, v = .bl k ∧ (k = true → A) ∧ (k = false → B)
theorem if_T {A B : Prop} (h : A) : IfK (.bl true) A B := ⟨true, rfl, fun _ => h, fun z => nomatch z⟩
theorem if_F {A B : Prop} (h : B) : IfK (.bl false) A B := ⟨false, rfl, fun z => (nomatch z), fun _ => h⟩
theorem if_B {A B : Prop} {k : Bool} (h1 : k = true → A) (h0 : k = false → B) : IfK (.bl k) A B := ⟨k, rfl, h1, h0⟩
section
variable {Φ : EvΦ} {W : Nat} {sl : Sl} {cs c : Cs} {a b e t : CE} {v x y : PV} {i j : Nat} {Q : PV → Cs → Prop}
/-! ### expressions -/
theorem w_var (h : lk sl i = some v) (q : Q v cs) : WP (evE Φ (.var i) sl cs) Q := wp_ok (r_var h) q
theorem w_mv {v' : PV} {c' : Cs} (h : lk sl i = some v) (hf : frz v cs = some (v', c')) (q : Q v' c') : WP (evE Φ (.mv i) sl cs) Q := ⟨v', c', by rw [evE, h]; exact hf, q⟩
theorem w_cst (q : Q v cs) : WP (evE Φ (.cst v) sl cs) Q := wp_ok rfl q
theorem w_glo {x : Str} (q : Q v cs) : WP (evE Φ (.glo x v) sl cs) Q := wp_ok rfl q
theorem w_tup {es : CA} (h : WP (evA Φ es sl cs) fun vs c => Q (.tup vs) c) : WP (evE Φ (.tup es) sl cs) Q := by
  rw [evE]; exact wp_map h
theorem w_lstF {es : CA} (h : WP (evA Φ es sl cs) fun vs c => Q (.lst vs) c) : WP (evE Φ (.lst false es) sl cs) Q := by
  rw [evE]; exact wp_map h
theorem w_lstT {es : CA} (h : WP (evA Φ es sl cs) fun vs c => Q (.ref c.length) (c ++ [⟨true, vs⟩])) : WP (evE Φ (.lst true es) sl cs) Q := by
  rw [evE]; exact wp_map h
theorem w_dct0 (q : Q .dct0 cs) : WP (evE Φ .dct0 sl cs) Q := wp_ok rfl q
theorem w_nil {Q : List PV → Cs → Prop} (q : Q [] cs) : WP (evA Φ .nil sl cs) Q := wp_ok rfl q
theorem w_cons {r : CA} {Q : List PV → Cs → Prop} (h : WP (evE Φ e sl cs) fun v c => WP (evA Φ r sl c) fun vs c => Q (v :: vs) c) : WP (evA Φ (.cons e r) sl cs) Q := by
  rw [evA]; exact wp_bind (wp_use h fun _ _ h => wp_map h)
theorem w_knil {Q : List PV → Cs → Prop} (q : Q [] cs) : WP (evK Φ .nil sl cs) Q := wp_ok rfl q
theorem w_kcons {k : Str} {r : CK} {Q : List PV → Cs → Prop} (h : WP (evE Φ e sl cs) fun v c => WP (evK Φ r sl c) fun vs c => Q (v :: vs) c) : WP (evK Φ (.cons k e r) sl cs) Q := by
  rw [evK]; exact wp_bind (wp_use h fun _ _ h => wp_map h)
theorem w_bin {op : Operator} {k : Bool} (h : WP (evE Φ a sl cs) fun x c => WP (evE Φ b sl c) fun y c => WP (opB op k c x y) Q) : WP (evE Φ (.bin op k a b) sl cs) Q := by
  rw [evE]; exact wp_bind (wp_use h fun _ _ h => wp_bind h)
def NegK (v : PV) (c : Cs) (Q : PV → Cs → Prop) : Prop := ∃ i, v = .int i ∧ Q (.int (-i)) c
def NotK (v : PV) (c : Cs) (Q : PV → Cs → Prop) : Prop := ∃ k, v = .bl k ∧ Q (.bl (!k)) c
theorem w_neg (h : WP (evE Φ a sl cs) fun x c => NegK x c Q) : WP (evE Φ (.neg a) sl cs) Q := by
  rw [evE]
  refine wp_bind (wp_use h fun _ _ h => ?_)
  obtain ⟨i, rfl, q⟩ := h
  exact wp_ok rfl q
/-- a comparison's answer -/
def CmpK (op : CmpOp) (c : Cs) (x y : PV) (Q : PV → Cs → Prop) : Prop := ∃ k, cmpO op c x y = some k ∧ Q (.bl k) c
theorem w_cmp {op : CmpOp} (h : WP (evE Φ a sl cs) fun x c => WP (evE Φ b sl c) fun y c => CmpK op c x y Q) : WP (evE Φ (.cmp op a b) sl cs) Q := by
  rw [evE]
  refine wp_bind (wp_use h fun _ _ h => wp_bind (wp_use h fun _ _ h => ?_))
  obtain ⟨k, e, q⟩ := h
  exact ⟨_, _, by simp only [e]; rfl, q⟩
/-- a < b < e, where e has no trace -/
def ChK (Φ : EvΦ) (op' : CmpOp) (e : CE) (sl : Sl) (y : PV) (v : PV) (c : Cs) (Q : PV → Cs → Prop) : Prop := ∃ k, v = .bl k ∧ (k = false → Q (.bl false) c) ∧ (k = true → WP (evE Φ e sl c) fun z c => CmpK op' c y z Q)
theorem w_chain {op op' : CmpOp} (h : WP (evE Φ a sl cs) fun x c => WP (evE Φ b sl c) fun y c => CmpK op c x y fun v c => ChK Φ op' e sl y v c Q) : WP (evE Φ (.chain op op' a b e) sl cs) Q := by
  rw [evE]
  refine wp_bind (wp_use h fun _ _ h => wp_bind (wp_use h fun _ c2 h => ?_))
  obtain ⟨k, e1, k', e2, q0, q1⟩ := h
  cases e2
  show WP ((cmpO op c2 _ _).bind _) Q
  rw [e1, Option.bind_some]
  cases k with
  | false => exact wp_ok rfl (q0 rfl)
  | true =>
    refine wp_bind (wp_use (q1 rfl) fun _ _ h => ?_)
    obtain ⟨k, e, q⟩ := h
    exact ⟨_, _, by simp only [e]; rfl, q⟩
theorem ch_P {op' : CmpOp} {k k' : Bool} (h : k = true → WP (evE Φ e sl c) fun z c' => CmpK op' c' y z fun v' c' => v' = .bl k' ∧ c' = c) (q : Q (.bl (k && k')) c) : ChK Φ op' e sl y (.bl k) c Q := by
  refine ⟨k, rfl, fun z => ?_, fun z => wp_use (h z) fun _ _ h => ?_⟩
  · subst z; exact q
  · obtain ⟨k2, e1, e2, rfl⟩ := h
    cases e2
    subst z
    exact ⟨_, e1, q⟩
def AndK (Φ : EvΦ) (b : CE) (sl : Sl) (v : PV) (c : Cs) (Q : PV → Cs → Prop) : Prop := ∃ k, v = .bl k ∧ (k = true → WP (evE Φ b sl c) Q) ∧ (k = false → Q (.bl false) c)
def OrK (Φ : EvΦ) (b : CE) (sl : Sl) (v : PV) (c : Cs) (Q : PV → Cs → Prop) : Prop := ∃ k, v = .bl k ∧ (k = false → WP (evE Φ b sl c) Q) ∧ (k = true → Q (.bl true) c)
theorem w_and (h : WP (evE Φ a sl cs) fun v c => AndK Φ b sl v c Q) : WP (evE Φ (.and a b) sl cs) Q := by
  rw [evE]
  refine wp_bind (wp_use h fun _ _ h => ?_)
  obtain ⟨k, rfl, q1, q0⟩ := h
  cases k with
  | true => exact q1 rfl
  | false => exact wp_ok rfl (q0 rfl)
theorem w_or (h : WP (evE Φ a sl cs) fun v c => OrK Φ b sl v c Q) : WP (evE Φ (.or a b) sl cs) Q := by
  rw [evE]
  refine wp_bind (wp_use h fun _ _ h => ?_)
  obtain ⟨k, rfl, q1, q0⟩ := h
  cases k with
  | true => exact wp_ok rfl (q0 rfl)
  | false => exact q1 rfl
theorem and_T (h : WP (evE Φ b sl c) Q) : AndK Φ b sl (.bl true) c Q := ⟨true, rfl, fun _ => h, fun z => nomatch z⟩
theorem and_F (h : Q (.bl false) c) : AndK Φ b sl (.bl false) c Q := ⟨false, rfl, fun z => (nomatch z), fun _ => h⟩
theorem and_P {k k' : Bool} (h : k = true → WP (evE Φ b sl c) fun v' c' => v' = .bl k' ∧ c' = c) (q : Q (.bl (k && k')) c) : AndK Φ b sl (.bl k) c Q := by
  refine ⟨k, rfl, fun z => wp_use (h z) fun _ _ h => ?_, fun z => ?_⟩
  · obtain ⟨rfl, rfl⟩ := h
    subst z; exact q
  · subst z; exact q
theorem and_B {k : Bool} (h : k = true → WP (evE Φ b sl c) Q) (q : k = false → Q (.bl false) c) : AndK Φ b sl (.bl k) c Q := ⟨k, rfl, h, q⟩
theorem or_F (h : WP (evE Φ b sl c) Q) : OrK Φ b sl (.bl false) c Q := ⟨false, rfl, fun _ => h, fun z => nomatch z⟩
theorem or_T (h : Q (.bl true) c) : OrK Φ b sl (.bl true) c Q := ⟨true, rfl, fun z => (nomatch z), fun _ => h⟩
theorem or_P {k k' : Bool} (h : k = false → WP (evE Φ b sl c) fun v' c' => v' = .bl k' ∧ c' = c) (q : Q (.bl (k || k')) c) : OrK Φ b sl (.bl k) c Q := by
  refine ⟨k, rfl, fun z => wp_use (h z) fun _ _ h => ?_, fun z => ?_⟩
  · obtain ⟨rfl, rfl⟩ := h
    subst z; exact q
  · subst z; exact q
theorem or_B {k : Bool} (h : k = false → WP (evE Φ b sl c) Q) (q : k = true → Q (.bl true) c) : OrK Φ b sl (.bl k) c Q := ⟨k, rfl, h, q⟩
theorem w_not (h : WP (evE Φ a sl cs) fun v c => NotK v c Q) : WP (evE Φ (.not a) sl cs) Q := by
  rw [evE]
  refine wp_bind (wp_use h fun _ _ h => ?_)
  obtain ⟨k, rfl, q⟩ := h
  exact wp_ok rfl q
theorem not_K {k : Bool} (h : Q (.bl (!k)) c) : NotK (.bl k) c Q := ⟨k, rfl, h⟩
theorem not_T (h : Q (.bl false) c) : NotK (.bl true) c Q := ⟨true, rfl, h⟩
theorem not_F (h : Q (.bl true) c) : NotK (.bl false) c Q := ⟨false, rfl, h⟩
theorem neg_K {i : Int} (h : Q (.int (-i)) c) : NegK (.int i) c Q := ⟨i, rfl, h⟩
theorem w_ite (h : WP (evE Φ t sl cs) fun v c => IfK v (WP (evE Φ a sl c) Q) (WP (evE Φ b sl c) Q)) : WP (evE Φ (.ite t a b) sl cs) Q := by
  rw [evE]
  refine wp_bind (wp_use h fun _ _ h => ?_)
  obtain ⟨k, rfl, q1, q0⟩ := h
  cases k with
  | true => exact q1 rfl
  | false => exact q0 rfl
def IxK (c : Cs) (x y : PV) (Q : PV → Cs → Prop) : Prop := ∃ v, ixO c x y = some v ∧ Q v c
theorem w_idx (h : WP (evE Φ a sl cs) fun x c => WP (evE Φ b sl c) fun y c => IxK c x y Q) : WP (evE Φ (.idx a b) sl cs) Q := by
  rw [evE]
  refine wp_bind (wp_use h fun _ _ h => wp_bind (wp_use h fun _ _ h => ?_))
  obtain ⟨v, e, q⟩ := h
  exact ⟨_, _, by simp only [e]; rfl, q⟩
theorem ix_ok (h : ixO c x y = some v) (q : Q v c) : IxK c x y Q := ⟨v, h, q⟩
theorem ix0 {r : List PV} (q : Q v c) : IxK c (.tup (v :: r)) (.int 0) Q := ⟨v, at_nat _ 0 (by simp), q⟩
theorem ix1 {v0 : PV} {r : List PV} (q : Q v c) : IxK c (.tup (v0 :: v :: r)) (.int 1) Q := ⟨v, at_nat _ 1 (by simp), q⟩
theorem ix2 {v0 v1 : PV} {r : List PV} (q : Q v c) : IxK c (.tup (v0 :: v1 :: v :: r)) (.int 2) Q := ⟨v, at_nat _ 2 (by simp), q⟩
theorem ix3 {v0 v1 v2 : PV} {r : List PV} (q : Q v c) : IxK c (.tup (v0 :: v1 :: v2 :: v :: r)) (.int 3) Q := ⟨v, at_nat _ 3 (by simp), q⟩
theorem lx0 {r : List PV} (q : Q v c) : IxK c (.lst (v :: r)) (.int 0) Q := ⟨v, at_nat _ 0 (by simp), q⟩
theorem lx1 {v0 : PV} {r : List PV} (q : Q v c) : IxK c (.lst (v0 :: v :: r)) (.int 1) Q := ⟨v, at_nat _ 1 (by simp), q⟩
theorem w_slc {k : Bool} {lo hi : CO} (h : WP (evE Φ a sl cs) fun x c => WP (evO Φ lo sl c) fun l c => WP (evO Φ hi sl c) fun m c => WP (slcO k c x l m) Q) : WP (evE Φ (.slc k a lo hi) sl cs) Q := by
  rw [evE]; exact wp_bind (wp_use h fun _ _ h => wp_bind (wp_use h fun _ _ h => wp_bind h))
theorem w_onone {Q : Option PV → Cs → Prop} (q : Q none cs) : WP (evO Φ .none sl cs) Q := wp_ok rfl q
theorem w_osome {Q : Option PV → Cs → Prop} (h : WP (evE Φ e sl cs) fun v c => Q (some v) c) : WP (evO Φ (.some e) sl cs) Q := by
  rw [evO]; exact wp_map h
theorem w_rev {k : Bool} (h : WP (evE Φ a sl cs) fun x c => WP (revO k c x) Q) : WP (evE Φ (.rev k a) sl cs) Q := by
  rw [evE]; exact wp_bind h
theorem w_blt {f : Bl} {k : Bool} {es : CA} (h : WP (evA Φ es sl cs) fun vs c => WP (bltO f k c vs) Q) : WP (evE Φ (.blt f k es) sl cs) Q := by
  rw [evE]; exact wp_bind h
def IsK (ts : List String) (v : PV) (c : Cs) (Q : PV → Cs → Prop) : Prop := Q (.bl (ts.any (tyIs v))) c
theorem w_isi {ts : List String} {m : Bool} (h : WP (evE Φ a sl cs) fun v c => IsK ts v c Q) : WP (evE Φ (.isi a ts m) sl cs) Q := by
  rw [evE]; exact wp_map h
theorem is_T {ts : List String} (h : ts.any (tyIs v) = true) (q : Q (.bl true) c) : IsK ts v c Q := by rw [IsK, h]; exact q
theorem is_F {ts : List String} (h : ts.any (tyIs v) = false) (q : Q (.bl false) c) : IsK ts v c Q := by rw [IsK, h]; exact q
theorem is_K {ts : List String} (q : Q (.bl (ts.any (tyIs v))) c) : IsK ts v c Q := q
theorem w_call {pm : List Nat} {es : CA} {ks : CK} (h : WP (evA Φ es sl cs) fun vs c => WP (evK Φ ks sl c) fun ws c => PickK (vs ++ ws) pm fun as => WP (Φ j as c) Q) : WP (evE Φ (.call j pm es ks) sl cs) Q := by
  rw [evE]
  refine wp_bind (wp_use h fun _ _ h => wp_bind (wp_use h fun _ _ h => ?_))
  obtain ⟨as, e, q⟩ := h
  obtain ⟨v, c2, e3, q⟩ := q
  exact ⟨v, c2, by simp only [e, Option.bind_some, e3], q⟩
theorem w_compF {elt : CE} {tg : CTg} {it : CI} {cond : CO} {own : List (Str × Nat)} (h : WP (evI Φ it sl cs) fun vs c => WipeK sl own fun s => WP (evComp (turnC Φ elt tg cond s) vs c) fun ws c => Q (.lst ws) c) : WP (evE Φ (.comp false elt tg it cond own) sl cs) Q := by
  rw [evE]; exact wp_bind (wp_use h fun _ _ h => wp_map h)
theorem w_compT {elt : CE} {tg : CTg} {it : CI} {cond : CO} {own : List (Str × Nat)} (h : WP (evI Φ it sl cs) fun vs c => WipeK sl own fun s => WP (evComp (turnC Φ elt tg cond s) vs c) fun ws c => Q (.ref c.length) (c ++ [⟨true, ws⟩])) : WP (evE Φ (.comp true elt tg it cond own) sl cs) Q := by
  rw [evE]; exact wp_bind (wp_use h fun _ _ h => wp_map h)
/-! ### what is gone through -/
def WalkK (v : PV) (c : Cs) (Q : List PV → Cs → Prop) : Prop := WP (walk v c) Q
theorem wk_lst {vs : List PV} {Q : List PV → Cs → Prop} (q : Q vs c) : WalkK (.lst vs) c Q := wp_ok rfl q
theorem wk_tup {vs : List PV} {Q : List PV → Cs → Prop} (q : Q vs c) : WalkK (.tup vs) c Q := wp_ok rfl q
theorem wk_par {vs : List PV} {Q : List PV → Cs → Prop} (q : Q vs c) : WalkK (.par vs) c Q := wp_ok rfl q
theorem wk_ref {n : Nat} {l : Bool} {vs : List PV} {Q : List PV → Cs → Prop} (h : c[n]? = some ⟨l, vs⟩) (q : Q vs (c.set n ⟨false, vs⟩)) : WalkK (.ref n) c Q := by
  refine ⟨vs, c.set n ⟨false, vs⟩, ?_, q⟩
  unfold walk frz
  simp only [h]; rfl
theorem i_seq {Q : List PV → Cs → Prop} (h : WP (evE Φ e sl cs) fun v c => WalkK v c Q) : WP (evI Φ (.seq e) sl cs) Q := by
  rw [evI]; exact wp_bind h
def RngK (vs : List PV) (c : Cs) (Q : List PV → Cs → Prop) : Prop := ∃ ws, rngO vs = some ws ∧ Q ws c
theorem i_rng {es : CA} {Q : List PV → Cs → Prop} (h : WP (evA Φ es sl cs) fun vs c => RngK vs c Q) : WP (evI Φ (.rng es) sl cs) Q := by
  rw [evI]
  refine wp_bind (wp_use h fun _ _ h => ?_)
  obtain ⟨ws, e, q⟩ := h
  exact ⟨_, _, by simp only [e]; rfl, q⟩
theorem rg_nat {n : Nat} {Q : List PV → Cs → Prop} (hn : n ≤ LIM) (q : Q ((List.range n).map fun (i : Nat) => .int i) c) : RngK [.int (n : Int)] c Q := by
  refine ⟨_, ?_, q⟩
  have : (-(LIM : Int) ≤ (n : Int) ∧ (n : Int) ≤ LIM) := by simp only [LIM] at hn ⊢; omega
  simp only [rngO, if_pos this, Int.toNat_natCast]
theorem rg_int {n : Int} {Q : List PV → Cs → Prop} (hn : -16777216 ≤ n ∧ n ≤ 16777216) (q : Q ((List.range n.toNat).map fun (i : Nat) => .int i) c) : RngK [.int n] c Q := by
  refine ⟨_, ?_, q⟩
  have : (-(LIM : Int) ≤ n ∧ n ≤ LIM) := by simp only [LIM]; omega
  simp only [rngO, if_pos this]
theorem rg_two {i j : Int} {Q : List PV → Cs → Prop} (h1 : -16777216 ≤ i ∧ i ≤ 16777216) (h2 : -16777216 ≤ j ∧ j ≤ 16777216) (h3 : j - i ≤ 16777216) (q : Q ((List.range (j - i).toNat).map fun (k : Nat) => .int (i + k)) c) : RngK [.int i, .int j] c Q := by
  refine ⟨_, ?_, q⟩
  have : (-(LIM : Int) ≤ i ∧ i ≤ LIM ∧ -(LIM : Int) ≤ j ∧ j ≤ LIM ∧ j - i ≤ LIM) := by simp only [LIM]; omega
  simp only [rngO, if_pos this]
def EnmK (v : PV) (c : Cs) (Q : List PV → Cs → Prop) : Prop := WalkK v c fun vs c => Q (enumO 0 vs) c
theorem i_enm {Q : List PV → Cs → Prop} (h : WP (evE Φ e sl cs) fun v c => EnmK v c Q) : WP (evI Φ (.enm e) sl cs) Q := by
  rw [evI]
  exact wp_bind (wp_use h fun _ _ h => wp_map h)
theorem en_lst {vs : List PV} {Q : List PV → Cs → Prop} (q : Q (enumO 0 vs) c) : EnmK (.lst vs) c Q := wk_lst q
theorem en_tup {vs : List PV} {Q : List PV → Cs → Prop} (q : Q (enumO 0 vs) c) : EnmK (.tup vs) c Q := wk_tup q
theorem enum_map {α : Type} {f : α → PV} : ∀ (l : List α) (n : Nat), enumO n (l.map f) = (l.zipIdx n).map fun p => .tup [.int (p.2 : Nat), f p.1]
  | [], _ => rfl
  | x :: l, n => by rw [List.map_cons, enumO, enum_map l (n + 1), List.zipIdx_cons, List.map_cons]
theorem en_lstM {α : Type} {l : List α} {f : α → PV} {Q : List PV → Cs → Prop} (q : Q (l.zipIdx.map fun p => .tup [.int (p.2 : Nat), f p.1]) c) : EnmK (.lst (l.map f)) c Q := wk_lst (by rw [enum_map]; exact q)
theorem en_tupM {α : Type} {l : List α} {f : α → PV} {Q : List PV → Cs → Prop} (q : Q (l.zipIdx.map fun p => .tup [.int (p.2 : Nat), f p.1]) c) : EnmK (.tup (l.map f)) c Q := wk_tup (by rw [enum_map]; exact q)
theorem zip_cut {α : Type} {l : List α} {pre post : List (α × Nat)} {p : α × Nat} (e : l.zipIdx = pre ++ p :: post) : p.2 = pre.length ∧ l[p.2]? = some p.1 := by
  have h1 : l.zipIdx[pre.length]? = some p := by rw [e]; simp
  have h2 := List.mk_mem_zipIdx_iff_getElem?.mp (show (p.1, p.2) ∈ l.zipIdx by rw [e]; simp)
  rw [List.getElem?_zipIdx] at h1
  obtain ⟨x, hx, hp⟩ := Option.map_eq_some_iff.mp h1
  refine ⟨by rw [← hp]; simp, h2⟩
def ZipK (x y : PV) (c : Cs) (Q : List PV → Cs → Prop) : Prop := isTupV x = isTupV y ∧ WalkK x c fun vs c => WalkK y c fun ws c => Q (zipO vs ws) c
theorem i_zip {Q : List PV → Cs → Prop} (h : WP (evE Φ a sl cs) fun x c => WP (evE Φ b sl c) fun y c => ZipK x y c Q) : WP (evI Φ (.zip a b) sl cs) Q := by
  rw [evI]
  refine wp_bind (wp_use h fun _ _ h => wp_bind (wp_use h fun _ _ h => ?_))
  obtain ⟨e, h⟩ := h
  simp only [e, beq_self_eq_true, if_true]
  exact wp_bind (wp_use h fun _ _ h => wp_map h)
theorem zp_tt {vs ws : List PV} {Q : List PV → Cs → Prop} (q : Q (zipO vs ws) c) : ZipK (.tup vs) (.tup ws) c Q := ⟨rfl, wk_tup (wk_tup q)⟩
theorem zp_ll {vs ws : List PV} {Q : List PV → Cs → Prop} (q : Q (zipO vs ws) c) : ZipK (.lst vs) (.lst ws) c Q := ⟨rfl, wk_lst (wk_lst q)⟩
/-! ### targets -/
theorem g_name {Q : Sl → Cs → Prop} (h : SetTo sl i (some v) fun s => Q s cs) : WP (evTg Φ (.name i) v sl cs) Q := wp_ok rfl h
theorem g_tup {ts : CTs} {vs : List PV} {Q : Sl → Cs → Prop} (hl : vs.length = ts.len) (h : WP (evTs Φ ts vs sl cs) Q) : WP (evTg Φ (.tup ts) (.tup vs) sl cs) Q := by
  rw [evTg]; simp only [hl, if_true]; exact h
theorem g_nil {vs : List PV} {Q : Sl → Cs → Prop} (q : Q sl cs) : WP (evTs Φ .nil vs sl cs) Q := wp_ok rfl q
theorem g_cons {t : CTg} {r : CTs} {vs : List PV} {Q : Sl → Cs → Prop} (h : WP (evTg Φ t v sl cs) fun s c => WP (evTs Φ r vs s c) Q) : WP (evTs Φ (.cons t r) (v :: vs) sl cs) Q := by
  rw [evTs]; exact wp_bind h
def SubK (c : Cs) (x y v : PV) (K : Cs → Prop) : Prop := ∃ c', setO c x y v = some c' ∧ K c'
theorem g_sub {o : CE} {Q : Sl → Cs → Prop} (h : WP (evE Φ o sl cs) fun x c => WP (evE Φ a sl c) fun y c => SubK c x y v fun c => Q sl c) : WP (evTg Φ (.sub o a) v sl cs) Q := by
  rw [evTg]
  refine wp_bind (wp_use h fun _ _ h => wp_bind (wp_use h fun _ _ h => ?_))
  obtain ⟨c', e, q⟩ := h
  exact ⟨_, _, by simp only [e]; rfl, q⟩
theorem sub_ok {c' : Cs} {K : Cs → Prop} (h : setO c x y v = some c') (q : K c') : SubK c x y v K := ⟨c', h, q⟩
/-! ### turns of a comprehension -/
theorem t_none {elt : CE} {tg : CTg} {Q : Option PV → Cs → Prop} (h : WP (evTg Φ tg v sl cs) fun s c => WP (evE Φ elt s c) fun u c => Q (some u) c) : WP (turnC Φ elt tg .none sl v cs) Q := by
  unfold turnC
  refine wp_bind (wp_use h fun s c h => ?_)
  show WP ((evE Φ elt s c).map _) Q
  exact wp_map h
theorem t_some {elt cd : CE} {tg : CTg} {Q : Option PV → Cs → Prop} (h : WP (evTg Φ tg v sl cs) fun s c => WP (evE Φ cd s c) fun k c => IfK k (WP (evE Φ elt s c) fun u c => Q (some u) c) (Q none c)) : WP (turnC Φ elt tg (.some cd) sl v cs) Q := by
  unfold turnC
  refine wp_bind (wp_use h fun s c h => ?_)
  show WP (((evE Φ cd s c).map fun p => ((some p.1 : Option PV), p.2)).bind _) Q
  obtain ⟨k, c1, e, k', rfl, q1, q0⟩ := h
  rw [e]
  cases k' with
  | true => exact wp_map (q1 rfl)
  | false => exact wp_ok rfl (q0 rfl)
theorem cp_nil {f : PV → Cs → Option (Option PV × Cs)} {Q : List PV → Cs → Prop} (q : Q [] cs) : WP (evComp f [] cs) Q := wp_ok rfl q
theorem cp_cons {f : PV → Cs → Option (Option PV × Cs)} {vs : List PV} {Q : List PV → Cs → Prop} (h : WP (f v cs) fun o c => WP (evComp f vs c) fun ws c => Q (match o with | some y => y :: ws | none => ws) c) : WP (evComp f (v :: vs) cs) Q := by
  rw [evComp]; exact wp_bind (wp_use h fun _ _ h => wp_map h)
theorem cp_map {α : Type} {xs : List α} {f g : α → PV} {F : PV → Cs → Option (Option PV × Cs)} {Q : List PV → Cs → Prop} (h : ∀ x ∈ xs, WP (F (f x) cs) fun o c => o = some (g x) ∧ c = cs) (q : Q (xs.map g) cs) : WP (evComp F (xs.map f) cs) Q := by
  refine wp_ok ?_ q
  clear q
  induction xs with
  | nil => rfl
  | cons x xs ih =>
    rw [List.map_cons, evComp, wp_eq (h x List.mem_cons_self), Option.bind_some, ih fun y hy => h y (List.mem_cons_of_mem _ hy)]
    rfl
theorem cp_filt {α : Type} {xs : List α} {f g : α → PV} {p : α → Bool} {elt cd : CE} {tg : CTg} {Q : List PV → Cs → Prop} (h : ∀ x ∈ xs, WP (evTg Φ tg (f x) sl cs) fun s c => WP (evE Φ cd s c) fun k c => k = .bl (p x) ∧ c = cs ∧ (p x = true → WP (evE Φ elt s c) fun u c => u = g x ∧ c = cs)) (q : Q ((xs.filter p).map g) cs) : WP (evComp (turnC Φ elt tg (.some cd) sl) (xs.map f) cs) Q := by
  refine wp_ok ?_ q
  clear q
  have key : ∀ x ∈ xs, turnC Φ elt tg (.some cd) sl (f x) cs = some (if p x = true then some (g x) else none, cs) := fun x hx => by
    refine wp_eq (t_some (wp_use (h x hx) fun s c h => wp_use h fun k c h => ?_))
    obtain ⟨rfl, rfl, h⟩ := h
    refine if_B (fun z => wp_use (h z) fun u c q => ?_) fun z => ?_
    · obtain ⟨rfl, rfl⟩ := q
      rw [z]; exact ⟨rfl, rfl⟩
    · rw [z]; exact ⟨rfl, rfl⟩
  clear h
  induction xs with
  | nil => rfl
  | cons x xs ih =>
    rw [List.map_cons, evComp, key x List.mem_cons_self, Option.bind_some, ih fun y hy => key y (List.mem_cons_of_mem _ hy), List.filter_cons]
    cases p x <;> rfl
/-- turns that change the cells -/
theorem cp_inv {α : Type} {xs : List α} {f : α → PV} {F : PV → Cs → Option (Option PV × Cs)} (I : List α → List PV → Cs → Prop) {Q : List PV → Cs → Prop} (h0 : I [] [] cs) (h : ∀ pre x post ws c, xs = pre ++ x :: post → I pre ws c → WP (F (f x) c) fun o c => I (pre ++ [x]) (match o with | some y => ws ++ [y] | none => ws) c) (q : ∀ ws c, I xs ws c → Q ws c) : WP (evComp F (xs.map f) cs) Q := by
  have key : ∀ (post pre : List α) (ws : List PV) (c : Cs), xs = pre ++ post → I pre ws c → WP (evComp F (post.map f) c) fun us c => I xs (ws ++ us) c := by
    intro post
    induction post with
    | nil =>
      intro pre ws c e hi
      refine wp_ok rfl ?_
      rw [e, List.append_nil, List.append_nil]; exact hi
    | cons x post ih =>
      intro pre ws c e hi
      refine cp_cons (wp_use (h pre x post ws c e hi) fun o c1 h1 => ?_)
      refine wp_use (ih (pre ++ [x]) _ c1 (by rw [e, List.append_assoc]; rfl) h1) fun us c2 h2 => ?_
      cases o with
      | none => exact h2
      | some y =>
        show I xs (ws ++ (y :: us)) c2
        rw [show ws ++ (y :: us) = ws ++ [y] ++ us by simp]
        exact h2
  exact wp_use (key xs [] [] cs rfl h0) fun us c h => q us c h
/-! ### statements -/
variable {r p : CB} {S : Out → Sl → Cs → Prop}
def Qc (Φ : EvΦ) (W : Nat) (r : CB) (S : Out → Sl → Cs → Prop) : Out → Sl → Cs → Prop := fun o s c => match o with
  | .nx => WS (evB Φ W r s c) S
  | o => S o s c
theorem qc_nx (h : WS (evB Φ W r sl c) S) : Qc Φ W r S .nx sl c := h
theorem qc_rt (h : S (.rt v) sl c) : Qc Φ W r S (.rt v) sl c := h
theorem qc_bk (h : S .bk sl c) : Qc Φ W r S .bk sl c := h
theorem qc_ct (h : S .ct sl c) : Qc Φ W r S .ct sl c := h
/-- two ways meet -/
def QJ (J : Sl → Cs → Prop) (S : Out → Sl → Cs → Prop) : Out → Sl → Cs → Prop := fun o s c => match o with
  | .nx => J s c
  | o => S o s c
theorem qj_nx {J : Sl → Cs → Prop} (h : J sl c) : QJ J S .nx sl c := h
theorem qj_rt {J : Sl → Cs → Prop} (h : S (.rt v) sl c) : QJ J S (.rt v) sl c := h
theorem qj_bk {J : Sl → Cs → Prop} (h : S .bk sl c) : QJ J S .bk sl c := h
theorem qj_ct {J : Sl → Cs → Prop} (h : S .ct sl c) : QJ J S .ct sl c := h
theorem if_join {p q : CB} {sl' : Sl} {c' : Cs} (J : Sl → Cs → Prop) (h : IfK v (WS (evB Φ W p sl c) (QJ J S)) (WS (evB Φ W q sl' c') (QJ J S))) (hr : ∀ s c, J s c → WS (evB Φ W r s c) S) : IfK v (WS (evB Φ W p sl c) (Qc Φ W r S)) (WS (evB Φ W q sl' c') (Qc Φ W r S)) := by
  obtain ⟨k, e, h1, h0⟩ := h
  have up : ∀ {o : Option (Out × Sl × Cs)}, WS o (QJ J S) → WS o (Qc Φ W r S) := fun h => ws_use h fun u s c q => by
    cases u with
    | nx => exact hr s c q
    | _ => exact q
  exact ⟨k, e, fun z => up (h1 z), fun z => up (h0 z)⟩
theorem n_cons {s : CS} (h : WS (evS Φ W s sl cs) (Qc Φ W r S)) : WS (evB Φ W (.cons s r) sl cs) S := by
  rw [evB]
  obtain ⟨u, s, c, e, q⟩ := h
  rw [e, Option.bind_some]
  cases u <;> first | exact q | exact ⟨_, _, _, rfl, q⟩
theorem n_nil (q : S .nx sl cs) : WS (evB Φ W .nil sl cs) S := ⟨_, _, _, rfl, q⟩
theorem n_asg {t : CTg} (h : WP (evE Φ e sl cs) fun v c => WP (evTg Φ t v sl c) fun s c => WS (evB Φ W r s c) S) : WS (evB Φ W (.cons (.asg t e) r) sl cs) S := n_cons (by
  rw [evS]
  exact ws_bind (wp_use h fun _ _ h => ws_map h))
theorem n_par (h : WP (evE Φ a sl cs) fun x c => WP (evE Φ b sl c) fun y c => SetTo sl i (some x) fun s => SetTo s j (some y) fun s => WS (evB Φ W r s c) S) : WS (evB Φ W (.cons (.par i j a b) r) sl cs) S := n_cons (by
  rw [evS]
  exact ws_bind (wp_use h fun _ _ h => ws_map h))
def AppK (c : Cs) (x v : PV) (K : Cs → Prop) : Prop := ∃ c', appO c x v = some c' ∧ K c'
theorem n_app {o : CE} (h : WP (evE Φ o sl cs) fun x c => WP (evE Φ e sl c) fun y c => AppK c x y fun c => WS (evB Φ W r sl c) S) : WS (evB Φ W (.cons (.app o e) r) sl cs) S := n_cons (by
  rw [evS]
  refine ws_bind (wp_use h fun _ _ h => ws_bind (wp_use h fun _ _ h => ?_))
  obtain ⟨c', e, q⟩ := h
  exact ⟨.nx, sl, c', by simp only [e]; rfl, q⟩)
theorem app_ok {c' : Cs} {K : Cs → Prop} (h : appO c x v = some c') (q : K c') : AppK c x v K := ⟨c', h, q⟩
def ExtK (c : Cs) (x v : PV) (K : Cs → Prop) : Prop := ∃ ws c', asL c v = some ws ∧ extO c x ws = some c' ∧ K c'
theorem n_ext {o : CE} (h : WP (evE Φ o sl cs) fun x c => WP (evE Φ e sl c) fun y c => ExtK c x y fun c => WS (evB Φ W r sl c) S) : WS (evB Φ W (.cons (.ext o e) r) sl cs) S := n_cons (by
  rw [evS]
  refine ws_bind (wp_use h fun _ _ h => ws_bind (wp_use h fun _ _ h => ?_))
  obtain ⟨ws, c', e1, e2, q⟩ := h
  exact ⟨.nx, sl, c', by simp only [e1, e2, Option.bind_some]; rfl, q⟩)
theorem n_drop (h : WP (evE Φ e sl cs) fun _ c => WS (evB Φ W r sl c) S) : WS (evB Φ W (.cons (.drop e) r) sl cs) S := n_cons (by
  rw [evS]; exact ws_map h)
theorem n_if {p q : CB} (h : WP (evE Φ t sl cs) fun v c => IfK v (WS (evB Φ W p sl c) (Qc Φ W r S)) (WS (evB Φ W q sl c) (Qc Φ W r S))) : WS (evB Φ W (.cons (.ite t p q) r) sl cs) S := n_cons (by
  rw [evS]
  refine ws_bind (wp_use h fun _ _ h => ?_)
  obtain ⟨k, rfl, q1, q0⟩ := h
  cases k with
  | true => exact q1 rfl
  | false => exact q0 rfl)
theorem n_ret (h : WP (evE Φ e sl cs) fun v c => S (.rt v) sl c) : WS (evB Φ W (.cons (.ret e) r) sl cs) S := n_cons (by
  rw [evS]; exact ws_map h)
theorem n_retN (h : S (.rt .non) sl cs) : WS (evB Φ W (.cons .retN r) sl cs) S := n_cons ⟨_, _, _, rfl, h⟩
theorem n_pass (h : WS (evB Φ W r sl cs) S) : WS (evB Φ W (.cons .pass r) sl cs) S := n_cons ⟨_, _, _, rfl, h⟩
theorem n_brk (h : S .bk sl cs) : WS (evB Φ W (.cons .brk r) sl cs) S := n_cons ⟨_, _, _, rfl, h⟩
theorem n_cnt (h : S .ct sl cs) : WS (evB Φ W (.cons .cnt r) sl cs) S := n_cons ⟨_, _, _, rfl, h⟩
def turnL (Φ : EvΦ) (W : Nat) (t : CTg) (body : CB) : PV → Sl → Cs → Option (Out × Sl × Cs) := fun v sl cs => (evTg Φ t v sl cs).bind fun q => evB Φ W body q.1 q.2
theorem n_loop {t : CTg} {it : CI} {body : CB} (h : WP (evI Φ it sl cs) fun vs c => WS (evFor (turnL Φ W t body) vs sl c) (Qc Φ W r S)) : WS (evB Φ W (.cons (.loop t it body) r) sl cs) S := n_cons (by
  rw [evS]; exact ws_bind h)
def QL (I : Sl → Cs → Prop) (S : Out → Sl → Cs → Prop) : Out → Sl → Cs → Prop := fun o s c => match o with
  | .nx => I s c
  | .ct => I s c
  | .bk => S .nx s c
  | .rt u => S (.rt u) s c
theorem ql_nx {I : Sl → Cs → Prop} (h : I sl c) : QL I S .nx sl c := h
theorem ql_ct {I : Sl → Cs → Prop} (h : I sl c) : QL I S .ct sl c := h
theorem ql_bk {I : Sl → Cs → Prop} (h : S .nx sl c) : QL I S .bk sl c := h
theorem ql_rt {I : Sl → Cs → Prop} (h : S (.rt v) sl c) : QL I S (.rt v) sl c := h
theorem l_nil {F : PV → Sl → Cs → Option (Out × Sl × Cs)} (h : S .nx sl cs) : WS (evFor F [] sl cs) S := ⟨_, _, _, rfl, h⟩
theorem l_cons {F : PV → Sl → Cs → Option (Out × Sl × Cs)} {vs : List PV} (h : WS (F v sl cs) (QL (fun s c => WS (evFor F vs s c) S) S)) : WS (evFor F (v :: vs) sl cs) S := by
  obtain ⟨u, s, c, e, q⟩ := h
  rw [evFor, e, Option.bind_some]
  cases u <;> first | exact q | exact ⟨_, _, _, rfl, q⟩
theorem l_turn {t : CTg} {body : CB} (h : WP (evTg Φ t v sl cs) fun s c => WS (evB Φ W body s c) S) : WS (turnL Φ W t body v sl cs) S := ws_bind h
theorem l_inv {α : Type} {xs : List α} {f : α → PV} {F : PV → Sl → Cs → Option (Out × Sl × Cs)} (I : List α → Sl → Cs → Prop) (h0 : I [] sl cs) (hs : ∀ pre x post sl c, xs = pre ++ x :: post → I pre sl c → WS (F (f x) sl c) (QL (I (pre ++ [x])) S)) (he : ∀ sl c, I xs sl c → S .nx sl c) : WS (evFor F (xs.map f) sl cs) S := by
  have key : ∀ (post pre : List α) (s : Sl) (c : Cs), xs = pre ++ post → I pre s c → WS (evFor F (post.map f) s c) S := by
    intro post
    induction post with
    | nil =>
      intro pre s c e hi
      rw [List.append_nil] at e
      exact l_nil (he s c (by rw [e]; exact hi))
    | cons x post ih =>
      intro pre s c e hi
      refine l_cons (ws_use (hs pre x post s c e hi) fun u s1 c1 q => ?_)
      cases u with
      | nx => exact ih (pre ++ [x]) s1 c1 (by rw [e, List.append_assoc]; rfl) q
      | ct => exact ih (pre ++ [x]) s1 c1 (by rw [e, List.append_assoc]; rfl) q
      | bk => exact q
      | rt u => exact q
  exact key xs [] sl cs rfl h0
theorem n_while {body : CB} (h : WS (evWhile (fun sl cs => evE Φ t sl cs) (fun sl cs => evB Φ W body sl cs) W sl cs) (Qc Φ W r S)) : WS (evB Φ W (.cons (.while t body) r) sl cs) S := n_cons (by
  rw [evS]; exact h)
/-- a while with at most n turns more -/
theorem l_while {body : CB} {N : Nat} (I : Nat → Sl → Cs → Prop) (n : Nat) (hn : n < N) (h0 : I n sl cs) (hs : ∀ k s c, I k s c → WP (evE Φ t s c) fun v c => IfK v (∃ k', k = k' + 1 ∧ WS (evB Φ W body s c) (QL (I k') S)) (S .nx s c)) : WS (evWhile (fun sl cs => evE Φ t sl cs) (fun sl cs => evB Φ W body sl cs) N sl cs) S := by
  induction N generalizing n sl cs with
  | zero => omega
  | succ N ih =>
    obtain ⟨v, c, e, k, rfl, q1, q0⟩ := hs n sl cs h0
    rw [evWhile, e, Option.bind_some]
    cases k with
    | false => exact ⟨_, _, _, rfl, q0 rfl⟩
    | true =>
      obtain ⟨k', rfl, u, s1, c1, e1, q⟩ := q1 rfl
      show WS ((evB Φ W body sl c).bind _) S
      rw [e1, Option.bind_some]
      cases u with
      | nx => exact ih k' (by omega) q
      | ct => exact ih k' (by omega) q
      | bk => exact ⟨_, _, _, rfl, q⟩
      | rt u => exact ⟨_, _, _, rfl, q⟩
/-! ### defs -/
def QF (Q : PV → Cs → Prop) : Out → Sl → Cs → Prop := fun o _ c => match o with
  | .rt v => Q v c
  | .nx => Q .non c
  | _ => False
theorem qf_rt (h : Q v c) : QF Q (.rt v) sl c := h
theorem qf_nx (h : Q .non c) : QF Q .nx sl c := h
theorem w_fn {D : List FnI} {d : Nat} {f : FnI} {args : List PV} {s : Sl} (hf : D[j]? = some f) (hl : args.length = f.ps.length) (hs : args.map some ++ List.replicate (f.N.length - args.length) none = s) (h : WS (evB (evFn W D d) W f.body s cs) (QF Q)) : WP (evFn W D (d + 1) j args cs) Q := by
  obtain ⟨u, s', c, e, q⟩ := h
  subst hs
  cases u with
  | rt v => exact ⟨v, c, fn_ret hf hl e, q⟩
  | nx => exact ⟨_, c, fn_nx hf hl e, q⟩
  | bk => exact q.elim
  | ct => exact q.elim
/-! ### operators, built-in functions -/
theorem o_add {k : Bool} {i j : Int} (q : Q (.int (i + j)) c) : WP (opB .Add k c (.int i) (.int j)) Q := wp_ok rfl q
theorem o_sub {k : Bool} {i j : Int} (q : Q (.int (i - j)) c) : WP (opB .Sub k c (.int i) (.int j)) Q := wp_ok rfl q
theorem small_iff {i : Int} : small i = true ↔ -18446744073709551616 < i ∧ i < 18446744073709551616 := by
  unfold small
  rw [Bool.and_eq_true, decide_eq_true_eq, decide_eq_true_eq]
  exact Iff.rfl
theorem o_mulL {k : Bool} {i j : Int} (h : -18446744073709551616 < i ∧ i < 18446744073709551616) (q : Q (.int (i * j)) c) : WP (opB .Mult k c (.int i) (.int j)) Q := by
  refine ⟨_, _, ?_, q⟩
  show (if (small i || small j) = true then some (PV.int (i * j), c) else none) = _
  rw [small_iff.mpr h, Bool.true_or]; rfl
theorem o_mulR {k : Bool} {i j : Int} (h : -18446744073709551616 < j ∧ j < 18446744073709551616) (q : Q (.int (i * j)) c) : WP (opB .Mult k c (.int i) (.int j)) Q := by
  refine ⟨_, _, ?_, q⟩
  show (if (small i || small j) = true then some (PV.int (i * j), c) else none) = _
  rw [small_iff.mpr h, Bool.or_true]; rfl
theorem o_div {k : Bool} {i j : Int} (h : 0 < j ∧ j < 1073741824) (q : Q (.int (i / j)) c) : WP (opB .FloorDiv k c (.int i) (.int j)) Q := by
  refine ⟨_, _, ?_, q⟩
  show (if 0 < j ∧ j < 1073741824 then some (PV.int (i / j), c) else none) = _
  rw [if_pos h]
theorem o_mod {k : Bool} {i j : Int} (h : 0 < j) (q : Q (.int (i % j)) c) : WP (opB .Mod k c (.int i) (.int j)) Q := by
  refine ⟨_, _, ?_, q⟩
  show (if 0 < j then some (PV.int (i % j), c) else none) = _
  rw [if_pos h]
theorem o_pow {k : Bool} {i j : Int} (h : 0 ≤ j ∧ j ≤ 1000000 ∧ i.natAbs < 2 ^ 64) (q : Q (.int (i ^ j.toNat)) c) : WP (opB .Pow k c (.int i) (.int j)) Q := by
  refine ⟨_, _, ?_, q⟩
  show (if 0 ≤ j ∧ j ≤ 1000000 ∧ i.natAbs < 2 ^ 64 then some (PV.int (i ^ j.toNat), c) else none) = _
  rw [if_pos h]
theorem o_addT {k : Bool} {xs ys : List PV} (h : xs.length + ys.length ≤ 16777216) (q : Q (.tup (xs ++ ys)) c) : WP (opB .Add k c (.tup xs) (.tup ys)) Q := by
  refine ⟨_, _, ?_, q⟩
  show (if xs.length + ys.length ≤ LIM then some (PV.tup (xs ++ ys), c) else none) = _
  exact if_pos h
theorem o_addL {xs ys : List PV} (h : xs.length + ys.length ≤ 16777216) (q : Q (.lst (xs ++ ys)) c) : WP (opB .Add false c (.lst xs) (.lst ys)) Q := by
  refine ⟨_, _, ?_, q⟩
  show (if xs.length + ys.length ≤ LIM then some (alc false (xs ++ ys) c) else none) = _
  exact if_pos h
theorem o_addLT {xs ys : List PV} (h : xs.length + ys.length ≤ 16777216) (q : Q (.ref c.length) (c ++ [⟨true, xs ++ ys⟩])) : WP (opB .Add true c (.lst xs) (.lst ys)) Q := by
  refine ⟨_, _, ?_, q⟩
  show (if xs.length + ys.length ≤ LIM then some (alc true (xs ++ ys) c) else none) = _
  exact if_pos h
theorem o_mulL1 {x : PV} {k : Int} (h : 0 ≤ k ∧ k ≤ 16777216) (q : Q (.lst (List.replicate k.toNat x)) c) : WP (opB .Mult false c (.lst [x]) (.int k)) Q := by
  refine ⟨_, _, ?_, q⟩
  have e : (List.replicate k.toNat [x]).flatten = List.replicate k.toNat x := by
    generalize k.toNat = n
    induction n with
    | zero => rfl
    | succ n ih => rw [List.replicate_succ, List.flatten_cons, ih]; rfl
  show (if -(2 ^ 63) ≤ k ∧ k < 2 ^ 63 ∧ [x].length * k.toNat ≤ LIM then some (alc false (List.replicate k.toNat [x]).flatten c) else none) = _
  rw [e]
  refine if_pos ⟨?_, ?_, ?_⟩
  · omega
  · omega
  · show 1 * k.toNat ≤ 16777216
    omega
theorem cut_to (vs : List PV) (i : Nat) : cut vs none (some (i : Int)) = vs.take i := by
  unfold cut
  rw [HT.sIx_nat]
  simp [HT.sIx, List.take_eq_take_iff]
theorem cut_from (vs : List PV) (i : Nat) : cut vs (some (i : Int)) none = vs.drop i := by
  unfold cut
  rw [HT.sIx_nat, show HT.sIx vs.length vs.length none = vs.length from rfl, List.take_of_length_le (by rw [List.length_drop]; omega)]
  by_cases h : i ≤ vs.length
  · rw [Nat.min_eq_left h]
  · rw [Nat.min_eq_right (by omega), List.drop_of_length_le (by omega), List.drop_of_length_le (by omega)]
theorem cut_mid (vs : List PV) (i j : Nat) : cut vs (some (i : Int)) (some (j : Int)) = (vs.take j).drop i := by
  unfold cut
  rw [HT.sIx_nat, HT.sIx_nat, List.drop_take]
  by_cases h : i ≤ vs.length
  · rw [Nat.min_eq_left h]
    by_cases h2 : j ≤ vs.length
    · rw [Nat.min_eq_left h2]
    · rw [Nat.min_eq_right (by omega), List.take_of_length_le (by rw [List.length_drop]; omega), List.take_of_length_le (by rw [List.length_drop]; omega)]
  · rw [Nat.min_eq_right (show vs.length ≤ i by omega), List.drop_of_length_le (Nat.le_refl _), List.drop_of_length_le (by omega)]
    simp
section
variable {k : Bool} {vs : List PV} {i j : Nat}
theorem s_toT (q : Q (.tup (vs.take i)) c) : WP (slcO k c (.tup vs) none (some (.int (i : Int)))) Q := ⟨_, _, rfl, by rw [cut_to]; exact q⟩
theorem s_toL (q : Q (.lst (vs.take i)) c) : WP (slcO false c (.lst vs) none (some (.int (i : Int)))) Q := ⟨.lst (cut vs none (some (i : Int))), c, rfl, by rw [cut_to]; exact q⟩
theorem s_frT (q : Q (.tup (vs.drop i)) c) : WP (slcO k c (.tup vs) (some (.int (i : Int))) none) Q := ⟨_, _, rfl, by rw [cut_from]; exact q⟩
theorem s_frL (q : Q (.lst (vs.drop i)) c) : WP (slcO false c (.lst vs) (some (.int (i : Int))) none) Q := ⟨.lst (cut vs (some (i : Int)) none), c, rfl, by rw [cut_from]; exact q⟩
theorem s_fr1T (q : Q (.tup (vs.drop 1)) c) : WP (slcO k c (.tup vs) (some (.int 1)) none) Q := s_frT (i := 1) q
theorem s_fr1L (q : Q (.lst (vs.drop 1)) c) : WP (slcO false c (.lst vs) (some (.int 1)) none) Q := s_frL (i := 1) q
theorem s_to1T (q : Q (.tup (vs.take 1)) c) : WP (slcO k c (.tup vs) none (some (.int 1))) Q := s_toT (i := 1) q
theorem s_to1L (q : Q (.lst (vs.take 1)) c) : WP (slcO false c (.lst vs) none (some (.int 1))) Q := s_toL (i := 1) q
theorem s_to1P (q : Q (.lst (vs.take 1)) c) : WP (slcO false c (.par vs) none (some (.int 1))) Q := ⟨.lst (cut vs none (some ((1 : Nat) : Int))), c, rfl, by rw [cut_to]; exact q⟩
theorem s_frpT (q : Q (.tup (vs.drop (i + 1))) c) : WP (slcO k c (.tup vs) (some (.int ((i : Int) + 1))) none) Q := s_frT (i := i + 1) q
theorem s_frpL (q : Q (.lst (vs.drop (i + 1))) c) : WP (slcO false c (.lst vs) (some (.int ((i : Int) + 1))) none) Q := s_frL (i := i + 1) q
theorem s_topT (q : Q (.tup (vs.take (i + 1))) c) : WP (slcO k c (.tup vs) none (some (.int ((i : Int) + 1)))) Q := s_toT (i := i + 1) q
theorem s_topL (q : Q (.lst (vs.take (i + 1))) c) : WP (slcO false c (.lst vs) none (some (.int ((i : Int) + 1)))) Q := s_toL (i := i + 1) q
end
theorem flat1 (x : PV) (n : Nat) : (List.replicate n [x]).flatten = List.replicate n x := by
  induction n with
  | zero => rfl
  | succ n ih => rw [List.replicate_succ, List.flatten_cons, ih]; rfl
theorem o_mulT {x : PV} {n : Nat} {k : Bool} (h : 1 ≤ n ∧ n ≤ 1000) (q : Q (.tup (List.replicate n x)) c) : WP (opB .Mult k c (.tup [x]) (.int (n : Int))) Q := by
  refine ⟨_, c, ?_, q⟩
  show (if [x] ≠ [] ∧ (1 : Int) ≤ n ∧ (n : Int) ≤ 1000 ∧ [x].length ≤ 1000 then some (PV.tup (List.replicate (n : Int).toNat [x]).flatten, c) else none) = _
  rw [if_pos ⟨by simp, by omega, by omega, by simp⟩, Int.toNat_natCast, flat1]
theorem o_mulTI {x : PV} {n : Int} {k : Bool} (h : 1 ≤ n ∧ n ≤ 1000) (q : Q (.tup (List.replicate n.toNat x)) c) : WP (opB .Mult k c (.tup [x]) (.int n)) Q := by
  refine ⟨_, c, ?_, q⟩
  show (if [x] ≠ [] ∧ (1 : Int) ≤ n ∧ n ≤ 1000 ∧ [x].length ≤ 1000 then some (PV.tup (List.replicate n.toNat [x]).flatten, c) else none) = _
  rw [if_pos ⟨by simp, by omega, by omega, by simp⟩, flat1]
theorem o_mulLN {x : PV} {n : Nat} (h : n ≤ 16777216) (q : Q (.lst (List.replicate n x)) c) : WP (opB .Mult false c (.lst [x]) (.int (n : Int))) Q := o_mulL1 (by omega) (by rw [Int.toNat_natCast]; exact q)
theorem o_mulLTI {x : PV} {k : Int} (h : 0 ≤ k ∧ k ≤ 16777216) (q : Q (.ref c.length) (c ++ [⟨true, List.replicate k.toNat x⟩])) : WP (opB .Mult true c (.lst [x]) (.int k)) Q := by
  refine ⟨_, _, ?_, q⟩
  show (if -(2 ^ 63) ≤ k ∧ k < 2 ^ 63 ∧ [x].length * k.toNat ≤ LIM then some (alc true (List.replicate k.toNat [x]).flatten c) else none) = _
  rw [flat1]
  refine if_pos ⟨?_, ?_, ?_⟩
  · omega
  · omega
  · show 1 * k.toNat ≤ 16777216
    omega
theorem o_mulLT {x : PV} {n : Nat} (h : n ≤ 16777216) (q : Q (.ref c.length) (c ++ [⟨true, List.replicate n x⟩])) : WP (opB .Mult true c (.lst [x]) (.int (n : Int))) Q := o_mulLTI (by omega) (by rw [Int.toNat_natCast]; exact q)
/-- a list of numbers in a cell -/
theorem ix_cell {r : Cs} {b : Bool} {xs : List Int} {x : Int} (h0 : 0 ≤ x) (h1 : x < xs.length) (q : Q (.int (xs.getD x.toNat 0)) (c ++ ⟨b, xs.map .int⟩ :: r)) : IxK (c ++ ⟨b, xs.map .int⟩ :: r) (.ref c.length) (.int x) Q := by
  refine ⟨_, ?_, q⟩
  show ((((c ++ (⟨b, xs.map .int⟩ : Cell) :: r)[c.length]?).map (·.vs)).bind fun vs => L2.atI vs x) = _
  rw [show (c ++ (⟨b, xs.map .int⟩ : Cell) :: r)[c.length]? = some ⟨b, xs.map .int⟩ by simp]
  show L2.atI (xs.map PV.int) x = _
  have : x = ((x.toNat : Nat) : Int) := by omega
  rw [this, at_nat _ _ (by rw [List.length_map]; omega), List.getElem?_map, List.getElem?_eq_getElem (by omega), Int.toNat_natCast, List.getD, List.getElem?_eq_getElem (by omega)]; rfl
theorem sub_cell {r : Cs} {xs : List Int} {x w : Int} {K : Cs → Prop} (h0 : 0 ≤ x) (h1 : x < xs.length) (q : K (c ++ ⟨true, (xs.set x.toNat w).map .int⟩ :: r)) : SubK (c ++ ⟨true, xs.map .int⟩ :: r) (.ref c.length) (.int x) (.int w) K := by
  refine ⟨_, ?_, q⟩
  show (match (c ++ (⟨true, xs.map .int⟩ : Cell) :: r)[c.length]? with
    | some cl => if cl.live then (L2.ixN cl.vs.length x).map fun j => (c ++ (⟨true, xs.map .int⟩ : Cell) :: r).set c.length { cl with vs := cl.vs.set j (.int w) } else none
    | none => none) = _
  rw [show (c ++ (⟨true, xs.map .int⟩ : Cell) :: r)[c.length]? = some ⟨true, xs.map .int⟩ by simp]
  have e : L2.ixN (xs.map PV.int).length x = some x.toNat := by
    unfold L2.ixN
    rw [if_pos (by omega), if_pos (by rw [List.length_map]; omega)]
  show (L2.ixN (xs.map PV.int).length x).map _ = _
  rw [e, Option.map_some, List.set_append_right _ _ (Nat.le_refl _), Nat.sub_self, List.set_cons_zero, List.map_set]
theorem ix_ref {n i : Nat} {b : Bool} {xs : List Int} (e : c[n]? = some ⟨b, xs.map .int⟩) (h : i < xs.length) (q : Q (.int (xs.getD i 0)) c) : IxK c (.ref n) (.int (i : Int)) Q := by
  refine ⟨_, ?_, q⟩
  show (((c[n]?).map (·.vs)).bind fun vs => L2.atI vs (i : Int)) = _
  rw [e]
  show L2.atI (xs.map PV.int) (i : Int) = _
  rw [at_nat _ _ (by rw [List.length_map]; exact h), List.getElem?_map, List.getElem?_eq_getElem h, List.getD, List.getElem?_eq_getElem h]; rfl
theorem ix_refV {n i : Nat} {b : Bool} {vs : List PV} (e : c[n]? = some ⟨b, vs⟩) (h : vs[i]? = some v) (q : Q v c) : IxK c (.ref n) (.int (i : Int)) Q := by
  refine ⟨_, ?_, q⟩
  show (((c[n]?).map (·.vs)).bind fun vs => L2.atI vs (i : Int)) = _
  rw [e]
  show L2.atI vs (i : Int) = _
  rw [at_nat _ _ (List.getElem?_eq_some_iff.mp h).1]; exact h
theorem ix_lst {i : Nat} {vs : List PV} (h : vs[i]? = some v) (q : Q v c) : IxK c (.lst vs) (.int (i : Int)) Q := by
  refine ⟨_, ?_, q⟩
  show L2.atI vs (i : Int) = _
  rw [at_nat _ _ (List.getElem?_eq_some_iff.mp h).1]; exact h
theorem ix_tup {i : Nat} {vs : List PV} (h : vs[i]? = some v) (q : Q v c) : IxK c (.tup vs) (.int (i : Int)) Q := by
  refine ⟨_, ?_, q⟩
  show L2.atI vs (i : Int) = _
  rw [at_nat _ _ (List.getElem?_eq_some_iff.mp h).1]; exact h
theorem app_ref {n : Nat} {vs : List PV} {K : Cs → Prop} (e : c[n]? = some ⟨true, vs⟩) (h : vs.length < 16777216) (q : K (c.set n ⟨true, vs ++ [v]⟩)) : AppK c (.ref n) v K := by
  refine ⟨_, ?_, q⟩
  show (match c[n]? with
    | some cl => if cl.live = true ∧ cl.vs.length < LIM then some (c.set n { cl with vs := cl.vs ++ [v] }) else none
    | none => none) = _
  rw [e]
  have hl : vs.length < LIM := h
  simp only [true_and, hl, if_true]
theorem app_cell {r : Cs} {vs : List PV} {v : PV} {K : Cs → Prop} (h : vs.length < 16777216) (q : K (c ++ ⟨true, vs ++ [v]⟩ :: r)) : AppK (c ++ ⟨true, vs⟩ :: r) (.ref c.length) v K := by
  refine ⟨_, ?_, q⟩
  show (match (c ++ (⟨true, vs⟩ : Cell) :: r)[c.length]? with
    | some cl => if cl.live = true ∧ cl.vs.length < LIM then some ((c ++ (⟨true, vs⟩ : Cell) :: r).set c.length { cl with vs := cl.vs ++ [v] }) else none
    | none => none) = _
  rw [show (c ++ (⟨true, vs⟩ : Cell) :: r)[c.length]? = some ⟨true, vs⟩ by simp]
  have hl : vs.length < LIM := h
  simp only [true_and, hl, if_true]
  rw [List.set_append_right _ _ (Nat.le_refl _), Nat.sub_self]; rfl
theorem ext_cell {r : Cs} {vs ws : List PV} {K : Cs → Prop} (h : vs.length + ws.length ≤ 16777216) (q : K (c ++ ⟨true, vs ++ ws⟩ :: r)) : ExtK (c ++ ⟨true, vs⟩ :: r) (.ref c.length) (.lst ws) K := by
  refine ⟨ws, _, rfl, ?_, q⟩
  show (match (c ++ (⟨true, vs⟩ : Cell) :: r)[c.length]? with
    | some cl => if cl.live = true ∧ cl.vs.length + ws.length ≤ LIM then some ((c ++ (⟨true, vs⟩ : Cell) :: r).set c.length { cl with vs := cl.vs ++ ws }) else none
    | none => none) = _
  rw [show (c ++ (⟨true, vs⟩ : Cell) :: r)[c.length]? = some ⟨true, vs⟩ by simp]
  have hl : vs.length + ws.length ≤ LIM := h
  simp only [true_and, hl, if_true]
  rw [List.set_append_right _ _ (Nat.le_refl _), Nat.sub_self]; rfl
theorem u_sum {ns : List Int} {k : Bool} (q : Q (.int ns.sum) c) : WP (bltO .sum k c [.lst (ns.map .int)]) Q := by
  refine ⟨_, _, ?_, q⟩
  show (asInts (ns.map .int)).map (fun ns => (PV.int ns.sum, c)) = _
  rw [asInts_map]; rfl
theorem u_sumT {ns : List Int} {k : Bool} (q : Q (.int ns.sum) c) : WP (bltO .sum k c [.tup (ns.map .int)]) Q := by
  refine ⟨_, _, ?_, q⟩
  show (asInts (ns.map .int)).map (fun ns => (PV.int ns.sum, c)) = _
  rw [asInts_map]; rfl
theorem u_sumM {α : Type} {xs : List α} {g : α → Int} {k : Bool} (q : Q (.int (xs.map g).sum) c) : WP (bltO .sum k c [.lst (xs.map fun x => .int (g x))]) Q := by
  have : (xs.map fun x => PV.int (g x)) = (xs.map g).map .int := by rw [List.map_map]; rfl
  rw [this]
  exact u_sum q
theorem wp_bl {f : Bl} {k : Bool} {vs : List PV} {c' : Cs} (h : bltO f k c vs = some (v, c')) (q : Q v c') : WP (bltO f k c vs) Q := ⟨_, _, h, q⟩
theorem u_lenL {α : Type} {xs : List α} {f : α → PV} {k : Bool} (q : Q (.int xs.length) c) : WP (bltO .len k c [.lst (xs.map f)]) Q := ⟨_, _, rfl, by rw [List.length_map]; exact q⟩
theorem u_lenP {α : Type} {xs : List α} {f : α → PV} {k : Bool} (q : Q (.int xs.length) c) : WP (bltO .len k c [.par (xs.map f)]) Q := ⟨_, _, rfl, by rw [List.length_map]; exact q⟩
theorem u_lenT {α : Type} {xs : List α} {f : α → PV} {k : Bool} (q : Q (.int xs.length) c) : WP (bltO .len k c [.tup (xs.map f)]) Q := ⟨_, _, rfl, by rw [List.length_map]; exact q⟩
theorem u_divmod {i j : Int} {k : Bool} (h : 0 < j ∧ j < 1073741824) (q : Q (.tup [.int (i / j), .int (i % j)]) c) : WP (bltO .divmod k c [.int i, .int j]) Q := by
  refine ⟨_, _, ?_, q⟩
  show (if 0 < j ∧ j < 1073741824 then some (PV.tup [.int (i / j), .int (i % j)], c) else none) = _
  rw [if_pos h]
theorem u_all {α : Type} {xs : List α} {p : α → Bool} {k : Bool} (q : Q (.bl (xs.all p)) c) : WP (bltO .all k c [.lst (xs.map fun x => .bl (p x))]) Q := ⟨_, _, w_all p xs c k, q⟩
theorem u_any {α : Type} {xs : List α} {p : α → Bool} {k : Bool} (q : Q (.bl (xs.any p)) c) : WP (bltO .any k c [.lst (xs.map fun x => .bl (p x))]) Q := ⟨_, _, w_any p xs c k, q⟩
theorem c_eqI {i j : Int} (q : Q (.bl (decide (i = j))) c) : CmpK .Eq c (.int i) (.int j) Q := ⟨_, eq_int c i j, q⟩
theorem c_neI {i j : Int} (q : Q (.bl (!decide (i = j))) c) : CmpK .NotEq c (.int i) (.int j) Q := ⟨_, by show (eqO c (.int i) (.int j)).map (!·) = _; rw [eq_int]; rfl, q⟩
theorem c_eqS {s t : Str} (q : Q (.bl (s == t)) c) : CmpK .Eq c (.str s) (.str t) Q := ⟨_, rfl, q⟩
theorem c_neS {s t : Str} (q : Q (.bl (!(s == t))) c) : CmpK .NotEq c (.str s) (.str t) Q := ⟨_, rfl, q⟩
theorem c_lt {i j : Int} (q : Q (.bl (decide (i < j))) c) : CmpK .Lt c (.int i) (.int j) Q := ⟨_, rfl, q⟩
theorem c_le {i j : Int} (q : Q (.bl (decide (i ≤ j))) c) : CmpK .LtE c (.int i) (.int j) Q := ⟨_, rfl, q⟩
theorem c_gt {i j : Int} (q : Q (.bl (decide (j < i))) c) : CmpK .Gt c (.int i) (.int j) Q := ⟨_, rfl, q⟩
theorem c_ge {i j : Int} (q : Q (.bl (decide (j ≤ i))) c) : CmpK .GtE c (.int i) (.int j) Q := ⟨_, rfl, q⟩
theorem c_ok {op : CmpOp} {k : Bool} (h : cmpO op c x y = some k) (q : Q (.bl k) c) : CmpK op c x y Q := ⟨k, h, q⟩
/-! ### where the way stands -/
theorem at_cpM {α : Type} {xs : List α} {f : α → PV} {elt : CE} {tg : CTg} {Q : List PV → Cs → Prop} (h : WP (evComp (turnC Φ elt tg .none sl) (xs.map f) c) Q) : WP (evComp (turnC Φ elt tg .none sl) (xs.map f) c) Q := h
theorem at_cpF {α : Type} {xs : List α} {f : α → PV} {elt cd : CE} {tg : CTg} {Q : List PV → Cs → Prop} (h : WP (evComp (turnC Φ elt tg (.some cd) sl) (xs.map f) c) Q) : WP (evComp (turnC Φ elt tg (.some cd) sl) (xs.map f) c) Q := h
theorem at_fn {D : List FnI} {d : Nat} {as : List PV} (h : WP (evFn W D d j as c) Q) : WP (evFn W D d j as c) Q := h
theorem at_wk {Q : List PV → Cs → Prop} (h : WalkK v c Q) : WalkK v c Q := h
theorem at_ix (h : IxK c x y Q) : IxK c x y Q := h
theorem at_is {ts : List String} (h : IsK ts v c Q) : IsK ts v c Q := h
theorem at_rg {vs : List PV} {Q : List PV → Cs → Prop} (h : RngK vs c Q) : RngK vs c Q := h
theorem at_zp {Q : List PV → Cs → Prop} (h : ZipK x y c Q) : ZipK x y c Q := h
theorem at_en {Q : List PV → Cs → Prop} (h : EnmK x c Q) : EnmK x c Q := h
theorem at_slc {k : Bool} {l m : Option PV} (h : WP (slcO k c x l m) Q) : WP (slcO k c x l m) Q := h
theorem at_op {op : Operator} {k : Bool} (h : WP (opB op k c x y) Q) : WP (opB op k c x y) Q := h
theorem at_blt {f : Bl} {k : Bool} {vs : List PV} (h : WP (bltO f k c vs) Q) : WP (bltO f k c vs) Q := h
theorem at_sum {k : Bool} {vs : List PV} (h : WP (bltO .sum k c vs) Q) : WP (bltO .sum k c vs) Q := h
theorem at_len {k : Bool} {vs : List PV} (h : WP (bltO .len k c vs) Q) : WP (bltO .len k c vs) Q := h
theorem at_all {k : Bool} {vs : List PV} (h : WP (bltO .all k c vs) Q) : WP (bltO .all k c vs) Q := h
theorem at_any {k : Bool} {vs : List PV} (h : WP (bltO .any k c vs) Q) : WP (bltO .any k c vs) Q := h
theorem at_abs {k : Bool} {vs : List PV} (h : WP (bltO .abs k c vs) Q) : WP (bltO .abs k c vs) Q := h
theorem at_max2 {k : Bool} {vs : List PV} (h : WP (bltO .max2 k c vs) Q) : WP (bltO .max2 k c vs) Q := h
theorem at_min2 {k : Bool} {vs : List PV} (h : WP (bltO .min2 k c vs) Q) : WP (bltO .min2 k c vs) Q := h
theorem at_int {k : Bool} {vs : List PV} (h : WP (bltO .int k c vs) Q) : WP (bltO .int k c vs) Q := h
theorem at_tuple {k : Bool} {vs : List PV} (h : WP (bltO .tuple k c vs) Q) : WP (bltO .tuple k c vs) Q := h
theorem at_list {k : Bool} {vs : List PV} (h : WP (bltO .list k c vs) Q) : WP (bltO .list k c vs) Q := h
theorem at_divmod {k : Bool} {vs : List PV} (h : WP (bltO .divmod k c vs) Q) : WP (bltO .divmod k c vs) Q := h
theorem at_sorted {k : Bool} {vs : List PV} (h : WP (bltO .sorted k c vs) Q) : WP (bltO .sorted k c vs) Q := h
theorem at_repr {k : Bool} {vs : List PV} (h : WP (bltO .repr k c vs) Q) : WP (bltO .repr k c vs) Q := h
theorem at_maxL {k : Bool} {vs : List PV} (h : WP (bltO .maxL k c vs) Q) : WP (bltO .maxL k c vs) Q := h
theorem at_minL {k : Bool} {vs : List PV} (h : WP (bltO .minL k c vs) Q) : WP (bltO .minL k c vs) Q := h
theorem at_add {k : Bool} (h : WP (opB .Add k c x y) Q) : WP (opB .Add k c x y) Q := h
theorem at_mul {k : Bool} (h : WP (opB .Mult k c x y) Q) : WP (opB .Mult k c x y) Q := h
theorem at_gt {ts : CTs} {Q : Sl → Cs → Prop} (h : WP (evTg Φ (.tup ts) v sl cs) Q) : WP (evTg Φ (.tup ts) v sl cs) Q := h
end
/-! ### data of values; short ones -/
section
variable {c : Cs} {v : PV} {d : PyData}
def As (c : Cs) (v : PV) (d : PyData) : Prop := asD c v = some d
def AsA (c : Cs) (vs : List PV) (ds : List PyData) : Prop := asDA c vs = some ds
def DaA (vs : List PV) (ds : List PyData) : Prop := datA vs = some ds
def Da (v : PV) (d : PyData) : Prop := dat v = some d
theorem as_int {i : Int} : As c (.int i) (.int i) := rfl
theorem as_str {s : Str} : As c (.str s) (.str s) := rfl
theorem as_bl {b : Bool} : As c (.bl b) (.bool b) := rfl
theorem as_non : As c .non .none := rfl
theorem as_dct : As c .dct0 (.dict []) := rfl
theorem as_tup {vs : List PV} {ds : List PyData} (h : AsA c vs ds) : As c (.tup vs) (.tuple ds) := by
  show (asDA c vs).map PyData.tuple = _
  rw [h]; rfl
theorem as_lst {vs : List PV} {ds : List PyData} (h : AsA c vs ds) : As c (.lst vs) (.list ds) := by
  show (asDA c vs).map PyData.list = _
  rw [h]; rfl
theorem as_ref {n : Nat} {b : Bool} {vs : List PV} {ds : List PyData} (e : c[n]? = some ⟨b, vs⟩) (h : DaA vs ds) : As c (.ref n) (.list ds) := by
  show (c[n]?).bind (fun c => (datA c.vs).map PyData.list) = _
  rw [e]
  show (datA vs).map PyData.list = _
  rw [h]; rfl
theorem aa_nil : AsA c [] [] := rfl
theorem aa_cons {vs : List PV} {ds : List PyData} (h : As c v d) (t : AsA c vs ds) : AsA c (v :: vs) (d :: ds) := by
  show (asD c v).bind (fun d => (asDA c vs).map (d :: ·)) = _
  rw [h, t]; rfl
theorem aa_map {α : Type} {xs : List α} {f : α → PV} {g : α → PyData} (h : ∀ x ∈ xs, As c (f x) (g x)) : AsA c (xs.map f) (xs.map g) := by
  induction xs with
  | nil => rfl
  | cons x xs ih => exact aa_cons (h x List.mem_cons_self) (ih fun y hy => h y (List.mem_cons_of_mem _ hy))
theorem aa_app {vs ws : List PV} {ds es : List PyData} (h : AsA c vs ds) (t : AsA c ws es) : AsA c (vs ++ ws) (ds ++ es) := by
  induction vs generalizing ds with
  | nil =>
    cases (show some [] = some ds from h)
    exact t
  | cons v vs ih =>
    have h' : (asD c v).bind (fun d => (asDA c vs).map (d :: ·)) = some ds := h
    cases e : asD c v with
    | none => rw [e] at h'; cases h'
    | some d =>
      cases e2 : asDA c vs with
      | none => rw [e, e2] at h'; cases h'
      | some es =>
        rw [e, e2] at h'
        cases h'
        exact aa_cons e (ih e2)
theorem da_int {i : Int} : Da (.int i) (.int i) := rfl
theorem da_str {s : Str} : Da (.str s) (.str s) := rfl
theorem da_bl {b : Bool} : Da (.bl b) (.bool b) := rfl
theorem da_non : Da .non .none := rfl
theorem da_dct : Da .dct0 (.dict []) := rfl
theorem da_tup {vs : List PV} {ds : List PyData} (h : DaA vs ds) : Da (.tup vs) (.tuple ds) := by
  show (datA vs).map PyData.tuple = _
  rw [h]; rfl
theorem da_lst {vs : List PV} {ds : List PyData} (h : DaA vs ds) : Da (.lst vs) (.list ds) := by
  show (datA vs).map PyData.list = _
  rw [h]; rfl
theorem dd_nil : DaA [] [] := rfl
theorem dd_cons {vs : List PV} {ds : List PyData} (h : Da v d) (t : DaA vs ds) : DaA (v :: vs) (d :: ds) := by
  show (dat v).bind (fun d => (datA vs).map (d :: ·)) = _
  rw [h, t]; rfl
theorem dd_map {α : Type} {xs : List α} {f : α → PV} {g : α → PyData} (h : ∀ x ∈ xs, Da (f x) (g x)) : DaA (xs.map f) (xs.map g) := by
  induction xs with
  | nil => rfl
  | cons x xs ih => exact dd_cons (h x List.mem_cons_self) (ih fun y hy => h y (List.mem_cons_of_mem _ hy))
/-- short data, told from above -/
theorem sa_nil {h : Nat} : ShA 0 h [] := ⟨rfl, rfl, Nat.le_refl _, Nat.zero_le _⟩
theorem sa_cons {w w' h : Nat} {ds : List PyData} (x : ShD w h d) (y : ShA w' h ds) : ShA (w + 1 + w') h (d :: ds) := by
  refine ⟨?_, ?_, ?_, ?_⟩
  · show (d.showable && PyData.showableAll ds) = true
    rw [x.s, y.s]; rfl
  · show (d.leavesShort 13 && PyData.leavesShortAll 13 ds) = true
    rw [x.l, y.l]; rfl
  · show d.weight + 1 + PyData.weightAll ds ≤ _
    have := x.w
    have := y.w
    omega
  · exact Nat.max_le.mpr ⟨x.d, y.d⟩
theorem sa_map {α : Type} {xs : List α} {g : α → PyData} {w h n : Nat} (x : ∀ x ∈ xs, ShD w h (g x)) (hn : xs.length ≤ n) : ShA (n * (w + 1)) h (xs.map g) := by
  have := sh_all (w := w) (h := h) (ds := xs.map g) fun d hd => by
    obtain ⟨x', hx, rfl⟩ := List.mem_map.mp hd
    exact x x' hx
  refine ⟨this.s, this.l, Nat.le_trans this.w ?_, this.d⟩
  rw [List.length_map]
  exact Nat.mul_le_mul_right _ hn
theorem sd_list {w h : Nat} {ds : List PyData} (x : ShA w h ds) : ShD w (h + 1) (.list ds) := ⟨x.s, x.l, x.w, Nat.succ_le_succ x.d⟩
theorem sd_tuple {w h : Nat} {ds : List PyData} (x : ShA w h ds) : ShD w (h + 1) (.tuple ds) := ⟨x.s, x.l, x.w, Nat.succ_le_succ x.d⟩
theorem sd_none {h : Nat} : ShD 0 h .none := sh_none.mono (Nat.le_refl _) (Nat.zero_le _)
theorem sd_bool {h : Nat} {b : Bool} : ShD 0 h (.bool b) := (sh_bool b).mono (Nat.le_refl _) (Nat.zero_le _)
theorem sd_int {h : Nat} {i : Int} (q : i.natAbs < 10 ^ 12) : ShD 40 h (.int i) := (sh_int q).mono (Nat.le_refl _) (Nat.zero_le _)
theorem sd_str {h n : Nat} {s : Str} (q : PyData.strOk s = true) (hn : s.cps.size ≤ n) : ShD n h (.str s) := (sh_str q hn).mono (Nat.le_refl _) (Nat.zero_le _)
theorem sd_dct {h : Nat} : ShD 0 (h + 1) (.dict []) := sh_dict.mono (Nat.le_refl _) (by omega)
theorem u_repr {w h : Nat} {k : Bool} {Q : PV → Cs → Prop} (e : As c v d) (x : ShD w h d) (hw : w ≤ 2 ^ 20 ∧ h ≤ 64) (q : Q (.str d.shown) c) : WP (bltO .repr k c [v]) Q := by
  obtain ⟨d', e', r⟩ := repr_ok (c := k) ⟨d, e, x⟩ hw.1 hw.2
  rw [show asD c v = some d from e] at e'
  cases e'
  exact ⟨_, _, r, q⟩
end
theorem cell_in {c r : Cs} {i k : Nat} {x : Cell} (hi : i = c.length + k) (h : r[k]? = some x) : (c ++ r)[i]? = some x := by
  subst hi
  rw [List.getElem?_append_right (by omega), Nat.add_sub_cancel_left]; exact h
/-! ### comparisons of texts; of data -/
section
variable {c : Cs} {Q : PV → Cs → Prop}
theorem c_neS_same {s : Str} (q : Q (.bl false) c) : CmpK .NotEq c (.str s) (.str s) Q := ⟨false, by show some (!(s == s)) = _; rw [beq_self_eq_true]; rfl, q⟩
theorem c_eqS_same {s : Str} (q : Q (.bl true) c) : CmpK .Eq c (.str s) (.str s) Q := ⟨true, by show some (s == s) = _; rw [beq_self_eq_true], q⟩
theorem if_joinE {α : Type} {o o' : Option (α × Cs)} {v : PV} {Q : α → Cs → Prop} (J : α → Cs → Prop) (h : IfK v (WP o J) (WP o' J)) (q : ∀ x c, J x c → Q x c) : IfK v (WP o Q) (WP o' Q) := by
  obtain ⟨k, e, h1, h0⟩ := h
  exact ⟨k, e, fun z => wp_use (h1 z) q, fun z => wp_use (h0 z) q⟩
theorem or_F' {Φ : EvΦ} {b : CE} {sl : Sl} {k : Bool} (hk : k = false) (h : WP (evE Φ b sl c) Q) : OrK Φ b sl (.bl k) c Q := by subst hk; exact or_F h
theorem or_T' {Φ : EvΦ} {b : CE} {sl : Sl} {k : Bool} (hk : k = true) (h : Q (.bl true) c) : OrK Φ b sl (.bl k) c Q := by subst hk; exact or_T h
theorem and_T' {Φ : EvΦ} {b : CE} {sl : Sl} {k : Bool} (hk : k = true) (h : WP (evE Φ b sl c) Q) : AndK Φ b sl (.bl k) c Q := by subst hk; exact and_T h
theorem and_F' {Φ : EvΦ} {b : CE} {sl : Sl} {k : Bool} (hk : k = false) (h : Q (.bl false) c) : AndK Φ b sl (.bl k) c Q := by subst hk; exact and_F h
theorem if_f {k : Bool} {A B : Prop} (h : k = false) (b : B) : IfK (.bl k) A B := by subst h; exact if_F b
theorem if_t {k : Bool} {A B : Prop} (h : k = true) (a : A) : IfK (.bl k) A B := by subst h; exact if_T a
end
end Wp
end

section
set_option maxHeartbeats 4000000
/-! lots of lists: plain facts -/
namespace Lots
open PySem Ev
abbrev tp (l : List Int) : PV := .tup (l.map .int)
/-- all lots of n lists, by adding -/
def F : Nat → List (List Int)
  | 0 => [[]]
  | n + 1 => F n ++ (F n).map fun l => l ++ [(n : Int)]
def lots (n : Nat) : List (List Int) := (F n).mergeSort lexLe
theorem F_len : ∀ n, (F n).length = 2 ^ n
  | 0 => rfl
  | n + 1 => by simp [F, F_len n, Nat.pow_succ]; omega
theorem F_hd : ∀ n, ∃ r, F n = [] :: r
  | 0 => ⟨[], rfl⟩
  | n + 1 => let ⟨r, h⟩ := F_hd n; ⟨r ++ (F n).map fun l => l ++ [(n : Int)], by rw [F, h]; rfl⟩
/-- rising lots below n -/
def Lot (n : Nat) (l : List Int) : Prop := l.Pairwise (· < ·) ∧ ∀ x ∈ l, 0 ≤ x ∧ x < n
theorem F_mem : ∀ {n : Nat} {l : List Int}, l ∈ F n ↔ Lot n l
  | 0, l => by
    simp only [F, List.mem_singleton]
    constructor
    · rintro rfl; exact ⟨.nil, fun x h => absurd h (by simp)⟩
    · rintro ⟨_, h⟩
      cases l with
      | nil => rfl
      | cons a r => have := h a List.mem_cons_self; omega
  | n + 1, l => by
    simp only [F, List.mem_append, List.mem_map]
    constructor
    · rintro (h | ⟨m, h, rfl⟩)
      · obtain ⟨h1, h2⟩ := F_mem.mp h
        exact ⟨h1, fun x hx => by have := h2 x hx; omega⟩
      · obtain ⟨h1, h2⟩ := F_mem.mp h
        refine ⟨List.pairwise_append.mpr ⟨h1, by simp, fun a ha b hb => ?_⟩, fun x hx => ?_⟩
        · have : b = (n : Int) := by simpa using hb
          have := (h2 a ha).2
          omega
        · rcases List.mem_append.mp hx with hx | hx
          · have := h2 x hx; omega
          · have : x = (n : Int) := by simpa using hx
            omega
    · rintro ⟨h1, h2⟩
      by_cases hn : (n : Int) ∈ l
      · right
        -- the last one is n
        have hne : l ≠ [] := fun z => by rw [z] at hn; simp at hn
        obtain ⟨m, y, rfl⟩ : ∃ m y, l = m ++ [y] := ⟨l.dropLast, l.getLast hne, (List.dropLast_concat_getLast hne).symm⟩
        obtain ⟨p1, _, p3⟩ := List.pairwise_append.mp h1
        have hy : y = (n : Int) := by
          rcases List.mem_append.mp hn with q | q
          · have q1 := p3 _ q y (by simp)
            have q2 := h2 y (by simp)
            omega
          · exact (List.mem_singleton.mp q).symm
        subst hy
        refine ⟨m, F_mem.mpr ⟨p1, fun x hx => ?_⟩, rfl⟩
        have q1 := p3 x hx (n : Int) (List.mem_singleton.mpr rfl)
        have q2 := h2 x (List.mem_append_left _ hx)
        omega
      · left
        refine F_mem.mpr ⟨h1, fun x hx => ?_⟩
        have := h2 x hx
        have : x ≠ (n : Int) := fun z => hn (by rw [← z]; exact hx)
        omega
theorem lots_mem {n : Nat} {l : List Int} : l ∈ lots n ↔ Lot n l := by
  rw [lots, (List.mergeSort_perm _ _).mem_iff]; exact F_mem
theorem lots_len (n : Nat) : (lots n).length = 2 ^ n := by rw [lots, List.length_mergeSort, F_len]
theorem Lot.nodup {n : Nat} {l : List Int} (h : Lot n l) : l.Nodup := h.1.imp fun a b => by omega
theorem Lot.len : ∀ {n : Nat} {l : List Int}, Lot n l → l.length ≤ n := by
  intro n l h
  have h2 := F_mem.mpr h
  clear h
  induction n generalizing l with
  | zero =>
    simp only [F, List.mem_singleton] at h2
    subst h2; simp
  | succ n ih =>
    simp only [F, List.mem_append, List.mem_map] at h2
    rcases h2 with h | ⟨m, h, rfl⟩
    · have := ih h; omega
    · have := ih h; simp; omega
theorem asTups_tp : ∀ ls : List (List Int), asTups (ls.map tp) = some ls
  | [] => rfl
  | l :: ls => by
    show (asInts (l.map .int)).bind (fun ns => (asTups (ls.map tp)).map (ns :: ·)) = _
    rw [asInts_map, asTups_tp ls]; rfl
theorem sort_lots (n : Nat) (cs : Cs) : bltO .sorted false cs [.lst ((F n).map tp)] = some (.lst ((lots n).map tp), cs) := by
  show ((sortO ((F n).map tp)).map fun ys => alc false ys cs) = _
  have e1 : asInts ((F n).map tp) = none := by
    obtain ⟨r, h⟩ := F_hd n
    rw [h]; rfl
  have e2 : sortO ((F n).map tp) = some ((lots n).map tp) := by
    unfold sortO
    rw [e1, asTups_tp]
    rfl
  rw [e2]; rfl
/-- which z is in l -/
def has (l : List Int) (x : Int) : Bool := l.any fun z => z == x
theorem has_iff {l : List Int} {x : Int} : has l x = true ↔ x ∈ l := by simp [has]
def part (l m : List Int) : Bool := l.all (has m)
theorem part_iff {l m : List Int} : part l m = true ↔ ∀ x ∈ l, x ∈ m := by simp [part, has_iff]
theorem asD_ints (cs : Cs) : ∀ l : List Int, asDA cs (l.map .int) = some (l.map .int)
  | [] => rfl
  | x :: l => by
    show (some (PyData.int x)).bind (fun d => (asDA cs (l.map .int)).map (d :: ·)) = _
    rw [asD_ints cs l]; rfl
theorem asD_tp (cs : Cs) (l : List Int) : asD cs (tp l) = some (.tuple (l.map .int)) := by
  show (asDA cs (l.map .int)).map PyData.tuple = _
  rw [asD_ints]; rfl
theorem can_ints : ∀ l : List Int, PyData.canLayAll0 (l.map .int) = true
  | [] => rfl
  | x :: l => by
    show (PyData.canLay0 (.int x) && PyData.canLayAll0 (l.map .int)) = true
    rw [can_ints l]; rfl
theorem dep_ints : ∀ l : List Int, PyData.depthAll (l.map .int) = 0
  | [] => rfl
  | x :: l => by
    show max (PyData.depth (.int x)) (PyData.depthAll (l.map .int)) = 0
    rw [dep_ints l]; rfl
theorem sh_tp (l : List Int) : SeqAt.shaped (.tuple (l.map .int)) = true := by
  show (PyData.canLayAll0 (l.map .int) && decide (PyData.depthAll (l.map .int) + 1 ≤ 64)) = true
  rw [can_ints, dep_ints]; rfl
theorem in_tp (cs : Cs) (x : Int) (l : List Int) : inO cs (.int x) (tp l) = some (has l x) := by
  unfold inO
  rw [asD_tp]
  show (if (SeqAt.shaped (.int x) && SeqAt.shaped (.tuple (l.map .int))) = true then some ((l.map PyData.int).any fun z => PyData.eqv z (.int x)) else none) = _
  rw [sh_tp]
  show some ((l.map PyData.int).any fun z => PyData.eqv z (.int x)) = _
  rw [List.any_map]; rfl
theorem eqv_ints : ∀ l m : List Int, PyData.eqvAll (l.map .int) (m.map .int) = decide (l = m)
  | [], [] => rfl
  | [], y :: m => rfl
  | x :: l, [] => rfl
  | x :: l, y :: m => by
    show ((x == y) && PyData.eqvAll (l.map .int) (m.map .int)) = _
    rw [eqv_ints l m, Bool.beq_eq_decide_eq]
    by_cases h1 : x = y <;> by_cases h2 : l = m <;> simp [h1, h2]
theorem eq_tp (cs : Cs) (l m : List Int) : eqO cs (tp l) (tp m) = some (decide (l = m)) := by
  show eqD cs (tp l) (tp m) = _
  unfold eqD
  rw [asD_tp, asD_tp]
  show (if (SeqAt.shaped (.tuple (l.map .int)) && SeqAt.shaped (.tuple (m.map .int))) = true then some (PyData.eqvAll (l.map .int) (m.map .int)) else none) = _
  rw [sh_tp, sh_tp, eqv_ints]; rfl
/-- seats of a lot -/
def S (seats l : List Int) : Int := (l.map fun i => seats.getD i.toNat 0).sum
/-- the others -/
def rest (n : Nat) (l : List Int) : List Int := ((List.range n).map fun (i : Nat) => (i : Int)).filter fun x => !has l x
end Lots
end

section
set_option maxHeartbeats 4000000
/-! councils, pots: plain facts -/
namespace Cn
open PySem Ev Lots
variable {seats : List Int} {q : Int}
theorem ff {p : Prop} {b : Bool} (h : b = true) (e : b = false) : p := by rw [e] at h; cases h
theorem sum_le {hi : Int} (h0 : 0 ≤ hi) : ∀ {ns : List Int}, (∀ n ∈ ns, n ≤ hi) → ns.sum ≤ ns.length * hi
  | [], _ => by simp
  | n :: ns, h => by
    have h1 := h n List.mem_cons_self
    have h2 := sum_le h0 (ns := ns) fun m hm => h m (List.mem_cons_of_mem _ hm)
    rw [List.sum_cons, List.length_cons]
    have : ((ns.length + 1 : Nat) : Int) * hi = ns.length * hi + hi := by rw [Int.natCast_add, Int.add_mul]; simp
    omega
theorem atI_int {l : List Int} {i : Nat} (h : i < l.length) : L2.atI (l.map PV.int) (i : Int) = some (.int (l.getD i 0)) := by
  rw [at_nat _ _ (by simpa using h), List.getElem?_map, List.getElem?_eq_getElem h]
  simp [List.getD, List.getElem?_eq_getElem h]
/-- a council -/
abbrev co (seats : List Int) (q : Int) : PV := .tup [.str "council", tp seats, .int q]
/-- enough seats -/
def won (seats : List Int) (q : Int) (l : List Int) : Bool := decide (q ≤ S seats l)
theorem in_of {n : Nat} {l : List Int} (h : l ∈ lots n) : ∀ x ∈ l, 0 ≤ x ∧ x < n := (lots_mem.mp h).2
/-- .. that are greatest -/
def most (ls : List (List Int)) : List (List Int) := ls.filter fun l => !ls.any fun m => decide (m ≠ l) && part l m
def least' (ls : List (List Int)) : List (List Int) := ls.filter fun l => !ls.any fun m => decide (m ≠ l) && part m l
def lw (seats : List Int) (q : Int) (l : List Int) : Bool := !(List.range l.length).any fun i => won seats q (l.eraseIdx i)
abbrev Wn (seats : List Int) (q : Int) : List (List Int) := (lots seats.length).filter (won seats q)
theorem Wn_lot {l : List Int} (h : l ∈ Wn seats q) : Lot seats.length l := lots_mem.mp (List.mem_filter.mp h).1
theorem Wn_len (h8 : seats.length ≤ 8) : (Wn seats q).length ≤ 256 := by
  refine Nat.le_trans (List.length_filter_le _ _) ?_
  rw [lots_len]
  exact Nat.pow_le_pow_right (n := 2) (by decide) h8
/-! ### the two ways agree -/
theorem S_mono {seats : List Int} (h0 : ∀ x ∈ seats, 0 ≤ x) : ∀ {l m : List Int}, l.Sublist m → S seats l ≤ S seats m := by
  intro l m h
  have pos : ∀ i : Int, 0 ≤ seats.getD i.toNat 0 := fun i => by
    rw [List.getD]
    cases e : seats[i.toNat]? with
    | none => simp
    | some x => simpa using h0 x (List.mem_of_getElem? e)
  induction h with
  | slnil => exact Int.le_refl _
  | cons a _ ih =>
    have e1 : ∀ r : List Int, S seats (a :: r) = seats.getD a.toNat 0 + S seats r := fun r => by simp only [S, List.map_cons, List.sum_cons]
    rw [e1]
    have := pos a
    omega
  | cons_cons a _ ih =>
    have e1 : ∀ r : List Int, S seats (a :: r) = seats.getD a.toNat 0 + S seats r := fun r => by simp only [S, List.map_cons, List.sum_cons]
    rw [e1, e1]
    omega
/-- rising lots: part is sublist -/
theorem sub_of_part : ∀ {l m : List Int}, l.Pairwise (· < ·) → m.Pairwise (· < ·) → (∀ x ∈ l, x ∈ m) → l.Sublist m
  | [], m, _, _, _ => List.nil_sublist _
  | a :: l, [], _, _, h => absurd (h a List.mem_cons_self) (by simp)
  | a :: l, b :: m, hl, hm, h => by
    obtain ⟨l1, l2⟩ := List.pairwise_cons.mp hl
    obtain ⟨m1, m2⟩ := List.pairwise_cons.mp hm
    by_cases e : a = b
    · subst e
      refine .cons_cons a (sub_of_part l2 m2 fun x hx => ?_)
      rcases List.mem_cons.mp (h x (List.mem_cons_of_mem _ hx)) with z | z
      · have := l1 x hx
        omega
      · exact z
    · have ha : a ∈ m := (List.mem_cons.mp (h a List.mem_cons_self)).resolve_left e
      refine .cons b (sub_of_part hl m2 fun x hx => ?_)
      rcases List.mem_cons.mp (h x hx) with z | z
      · exfalso
        have hb := m1 a ha
        rcases List.mem_cons.mp hx with y | y
        · omega
        · have := l1 x y
          omega
      · exact z
theorem erase_lot {n : Nat} {l : List Int} (h : Lot n l) (i : Nat) : Lot n (l.eraseIdx i) := ⟨h.1.sublist (List.eraseIdx_sublist _ _), fun x hx => h.2 x (List.mem_of_mem_eraseIdx hx)⟩
theorem lw_eq (h0 : ∀ x ∈ seats, 0 ≤ x) {l : List Int} (hl : l ∈ Wn seats q) : lw seats q l = !(Wn seats q).any fun m => decide (m ≠ l) && part m l := by
  have hL := Wn_lot hl
  unfold lw
  congr 1
  rw [Bool.eq_iff_iff, List.any_eq_true, List.any_eq_true]
  constructor
  · rintro ⟨i, hi, hw⟩
    have hi' : i < l.length := by simpa using hi
    refine ⟨l.eraseIdx i, List.mem_filter.mpr ⟨lots_mem.mpr (erase_lot hL i), hw⟩, ?_⟩
    rw [Bool.and_eq_true, decide_eq_true_eq]
    refine ⟨fun z => ?_, part_iff.mpr fun x hx => List.mem_of_mem_eraseIdx hx⟩
    have := congrArg List.length z
    rw [List.length_eraseIdx, if_pos hi'] at this
    omega
  · rintro ⟨m, hm, h2⟩
    rw [Bool.and_eq_true, decide_eq_true_eq] at h2
    obtain ⟨hne, hp⟩ := h2
    have hM := Wn_lot hm
    have hsub := part_iff.mp hp
    -- one of l is not in m
    obtain ⟨i, hi, hx⟩ : ∃ i, ∃ h : i < l.length, l[i] ∉ m := by
      refine Classical.byContradiction fun hno => hne ?_
      have all : ∀ x ∈ l, x ∈ m := fun x hx => by
        obtain ⟨i, hi, e⟩ := List.getElem_of_mem hx
        refine Classical.byContradiction fun hq => hno ⟨i, hi, ?_⟩
        rw [e]; exact hq
      exact (sub_of_part hM.1 hL.1 hsub).eq_of_length_le (sub_of_part hL.1 hM.1 all).length_le
    refine ⟨i, by simpa using hi, ?_⟩
    have hS : S seats m ≤ S seats (l.eraseIdx i) := by
      refine S_mono h0 (sub_of_part hM.1 (erase_lot hL i).1 fun x hxm => ?_)
      obtain ⟨j, hj, e⟩ := List.getElem_of_mem (hsub x hxm)
      have hji : j ≠ i := fun z => by subst z; rw [e] at hx; exact hx hxm
      exact List.mem_eraseIdx_iff_getElem.mpr ⟨j, hj, hji, e⟩
    have hw := (List.mem_filter.mp hm).2
    simp only [won, decide_eq_true_eq] at hw ⊢
    omega
theorem least_agree (h0 : ∀ x ∈ seats, 0 ≤ x) : (Wn seats q).filter (lw seats q) = least' (Wn seats q) := by
  unfold least'
  exact List.filter_congr fun l hl => lw_eq h0 hl
theorem rest_lot (n : Nat) (l : List Int) : Lot n (rest n l) := by
  have hF : ((List.range n).map fun (i : Nat) => (i : Int)).Pairwise (· < ·) := by
    rw [List.pairwise_map]
    exact List.pairwise_lt_range.imp fun h => by omega
  refine ⟨hF.filter _, fun x hx => ?_⟩
  obtain ⟨i, hi, rfl⟩ := List.mem_map.mp (List.mem_filter.mp hx).1
  have := List.mem_range.mp hi
  omega
/-- a pot stands in cell n -/
def Pot (cs : Cs) (n : Nat) : Prop := ∃ a b : Int, cs[n]? = some ⟨true, [.int a, .int b]⟩
/-- nothing but the pot has changed -/
def PotTo (n : Nat) (cs cs' : Cs) : Prop := ∃ a b : Int, cs' = cs.set n ⟨true, [.int a, .int b]⟩
theorem PotTo.pot {n : Nat} {cs cs' : Cs} (h : PotTo n cs cs') (p : Pot cs n) : Pot cs' n := by
  obtain ⟨a, b, rfl⟩ := h
  obtain ⟨_, _, e⟩ := p
  exact ⟨a, b, List.getElem?_set_self (List.getElem?_eq_some_iff.mp e).1⟩
theorem PotTo.trans {n : Nat} {c1 c2 c3 : Cs} (h : PotTo n c1 c2) (g : PotTo n c2 c3) : PotTo n c1 c3 := by
  obtain ⟨a, b, rfl⟩ := h
  obtain ⟨a', b', rfl⟩ := g
  exact ⟨a', b', by rw [List.set_set]⟩
theorem idx_pot {n : Nat} {cs : Cs} {a b : Int} (h : cs[n]? = some ⟨true, [.int a, .int b]⟩) : ixO cs (.ref n) (.int 0) = some (.int a) ∧ ixO cs (.ref n) (.int 1) = some (.int b) := by
  have e : asQ cs (.ref n) = some [.int a, .int b] := by
    show (cs[n]?).map (·.vs) = _
    rw [h]; rfl
  constructor
  · show (asQ cs (.ref n)).bind _ = _
    rw [e]; rfl
  · show (asQ cs (.ref n)).bind _ = _
    rw [e]; rfl
theorem set_pot0 {n : Nat} {cs : Cs} {a b : Int} (h : cs[n]? = some ⟨true, [.int a, .int b]⟩) (v : PV) : setO cs (.ref n) (.int 0) v = some (cs.set n ⟨true, [v, .int b]⟩) := by
  show (match cs[n]? with
    | some c => if c.live then (L2.ixN c.vs.length 0).map fun j => cs.set n { c with vs := c.vs.set j v } else none
    | none => none) = _
  rw [h]; rfl
theorem set_pot1 {n : Nat} {cs : Cs} {a b : Int} (h : cs[n]? = some ⟨true, [.int a, .int b]⟩) (v : PV) : setO cs (.ref n) (.int 1) v = some (cs.set n ⟨true, [.int a, v]⟩) := by
  show (match cs[n]? with
    | some c => if c.live then (L2.ixN c.vs.length 1).map fun j => cs.set n { c with vs := c.vs.set j v } else none
    | none => none) = _
  rw [h]; rfl
theorem small_of {i : Int} (h0 : 0 ≤ i) (h1 : i < 2147483587) : small i = true := by
  simp only [small, Bool.and_eq_true, decide_eq_true_eq]
  constructor <;> omega
def dl (ls : List (List Int)) : PyData := .list (ls.map fun l => .tuple (l.map .int))
theorem asDA_lots (cs : Cs) : ∀ ls : List (List Int), asDA cs (ls.map tp) = some (ls.map fun l => .tuple (l.map .int))
  | [] => rfl
  | l :: ls => by
    show (asD cs (tp l)).bind (fun d => (asDA cs (ls.map tp)).map (d :: ·)) = _
    rw [asD_tp, asDA_lots cs ls]; rfl
theorem datA_ints : ∀ l : List Int, datA (l.map .int) = some (l.map .int)
  | [] => rfl
  | x :: l => by
    show (some (PyData.int x)).bind (fun d => (datA (l.map .int)).map (d :: ·)) = _
    rw [datA_ints l]; rfl
theorem datA_lots : ∀ ls : List (List Int), datA (ls.map tp) = some (ls.map fun l => .tuple (l.map .int))
  | [] => rfl
  | l :: ls => by
    show ((datA (l.map .int)).map PyData.tuple).bind (fun d => (datA (ls.map tp)).map (d :: ·)) = _
    rw [datA_ints, datA_lots ls]; rfl
theorem asD_lots (cs : Cs) (ls : List (List Int)) : asD cs (.lst (ls.map tp)) = some (dl ls) := by
  show (asDA cs (ls.map tp)).map PyData.list = _
  rw [asDA_lots]; rfl
theorem asD_cell {cs : Cs} {k : Nat} {b : Bool} {ls : List (List Int)} (h : cs[k]? = some ⟨b, ls.map tp⟩) : asD cs (.ref k) = some (dl ls) := by
  show (cs[k]?).bind (fun c => (datA c.vs).map PyData.list) = _
  rw [h]
  show (datA (ls.map tp)).map PyData.list = _
  rw [datA_lots]; rfl
theorem sh_lot {n : Nat} (hn : n ≤ 8) {l : List Int} (h : Lot n l) : ShD 328 1 (.tuple (l.map .int)) := by
  have := sh_tuple (w := 40) (h := 0) (ds := l.map .int) fun d hd => by
    obtain ⟨x, hx, rfl⟩ := List.mem_map.mp hd
    have := h.2 x hx
    exact sh_int (by omega)
  refine this.mono ?_ (Nat.le_refl _)
  have := h.len
  rw [List.length_map]
  omega
theorem sh_dl {n : Nat} (hn : n ≤ 8) {ls : List (List Int)} (h : ∀ l ∈ ls, Lot n l) (hl : ls.length ≤ 256) : ShD 84224 2 (dl ls) := by
  have := sh_list (w := 328) (h := 1) (ds := ls.map fun l => .tuple (l.map .int)) fun d hd => by
    obtain ⟨l, hl, rfl⟩ := List.mem_map.mp hd
    exact sh_lot hn (h l hl)
  refine this.mono ?_ (Nat.le_refl _)
  rw [List.length_map]
  omega
/-- what is known of a drawn council -/
structure Cou (seats : List Int) (q : Int) : Prop where
  n1 : 1 ≤ seats.length
  n8 : seats.length ≤ 8
  s : ∀ x ∈ seats, 0 ≤ x ∧ x ≤ 200
  q1 : 1 ≤ q
  q2 : q ≤ seats.sum
theorem S_nonneg (h0 : ∀ x ∈ seats, 0 ≤ x) (l : List Int) : 0 ≤ S seats l := by
  have := S_mono h0 (List.nil_sublist l)
  exact this
theorem Cou.sum (h : Cou seats q) : seats.sum ≤ 1600 := by
  have := sum_le (hi := 200) (by decide) fun x hx => (h.s x hx).2
  have := h.n8
  omega
theorem repr_d {w h : Nat} {cs : Cs} {v : PV} {c : Bool} {d : PyData} (e : asD cs v = some d) (x : ShD w h d) (hw : w ≤ 2 ^ 20) (hh : h ≤ 64) : bltO .repr c cs [v] = some (.str d.shown, cs) := by
  obtain ⟨d', e', r⟩ := repr_ok (c := c) ⟨d, e, x⟩ hw hh
  rw [e] at e'
  cases e'
  exact r
theorem str_council : PyData.strOk ("council" : Str) = true := by decide +kernel
def coD (seats : List Int) (q : Int) : PyData := .tuple [.str "council", .tuple (seats.map .int), .int q]
theorem asD_co (cs : Cs) : asD cs (co seats q) = some (coD seats q) := by
  show ((some (PyData.str "council")).bind fun d => ((asD cs (tp seats)).bind fun e => ((some (PyData.int q)).bind fun f => (some []).map (f :: ·)).map (e :: ·)).map (d :: ·)).map PyData.tuple = _
  rw [asD_tp]; rfl
theorem sh_co (h : Cou seats q) : ShD 987 2 (coD seats q) := by
  have h1 : ShD 328 1 (.tuple (seats.map .int)) := by
    have := sh_tuple (w := 40) (h := 0) (ds := seats.map .int) fun d hd => by
      obtain ⟨x, hx, rfl⟩ := List.mem_map.mp hd
      have := h.s x hx
      exact sh_int (by omega)
    refine this.mono ?_ (Nat.le_refl _)
    have := h.n8
    rw [List.length_map]
    omega
  have hq := h.q1
  have hq2 := h.q2
  have hq3 := h.sum
  exact sh_tuple (ds := [.str "council", .tuple (seats.map .int), .int q]) fun d hd => by
    simp only [List.mem_cons, List.not_mem_nil, or_false] at hd
    rcases hd with rfl | rfl | rfl
    · exact ShD.mono (w' := 328) (h' := 1) (sh_str (n := 7) str_council (by decide)) (by decide) (by decide)
    · exact h1
    · exact ShD.mono (w' := 328) (h' := 1) (sh_int (by omega)) (by decide) (by decide)
theorem repr_co (h : Cou seats q) (cs : Cs) (c : Bool) : bltO .repr c cs [co seats q] = some (.str (coD seats q).shown, cs) := repr_d (asD_co cs) (sh_co h) (by decide) (by decide)
theorem PotTo.len {n : Nat} {cs cs' : Cs} (h : PotTo n cs cs') : cs'.length = cs.length := by
  obtain ⟨a, b, rfl⟩ := h
  simp
theorem PotTo.refl {n : Nat} {cs : Cs} (p : Pot cs n) : PotTo n cs cs := by
  obtain ⟨a, b, e⟩ := p
  refine ⟨a, b, ?_⟩
  obtain ⟨hn, e2⟩ := List.getElem?_eq_some_iff.mp e
  rw [← e2, List.set_getElem_self]
theorem sum_nonneg : ∀ {rs : List Int}, (∀ r ∈ rs, 0 ≤ r) → 0 ≤ rs.sum
  | [], _ => Int.le_refl _
  | r :: rs, h => by
    have h1 := h r List.mem_cons_self
    have h2 := sum_nonneg fun x hx => h x (List.mem_cons_of_mem _ hx)
    rw [List.sum_cons]; omega
theorem mem_le_sum : ∀ {rs : List Int} {x : Int}, (∀ r ∈ rs, 0 ≤ r) → x ∈ rs → x ≤ rs.sum
  | r :: rs, x, h, hx => by
    have h1 := h r List.mem_cons_self
    have h2 : ∀ y ∈ rs, 0 ≤ y := fun y hy => h y (List.mem_cons_of_mem _ hy)
    rw [List.sum_cons]
    rcases List.mem_cons.mp hx with z | z
    · have := sum_nonneg h2
      omega
    · have := mem_le_sum h2 z
      omega
/-- the pot and the seats' cell -/
structure Two (n m : Nat) (cs : Cs) (rs : List Int) : Prop where
  p : Pot cs n
  lt : n < m
  c : cs[m]? = some ⟨true, rs.map .int⟩
theorem Two.to {n m : Nat} {cs cs' : Cs} {rs : List Int} (t : Two n m cs rs) (h : PotTo n cs cs') : Two n m cs' rs := by
  refine ⟨h.pot t.p, t.lt, ?_⟩
  obtain ⟨a, b, rfl⟩ := h
  rw [List.getElem?_set_ne (by have := t.lt; omega)]
  exact t.c
theorem Two.set {n m : Nat} {cs : Cs} {rs ss : List Int} (t : Two n m cs rs) : Two n m (cs.set m ⟨true, ss.map .int⟩) ss := by
  obtain ⟨a, b, e⟩ := t.p
  exact ⟨⟨a, b, by rw [List.getElem?_set_ne (by have := t.lt; omega)]; exact e⟩, t.lt, List.getElem?_set_self (List.getElem?_eq_some_iff.mp t.c).1⟩
theorem Two.sum {n m : Nat} {cs : Cs} {rs : List Int} (t : Two n m cs rs) (c : Bool) : bltO .sum c cs [.ref m] = some (.int rs.sum, cs) := by
  show (asR cs (.ref m)).bind (fun xs => (asInts xs).map fun ns => (PV.int ns.sum, cs)) = _
  have : asR cs (.ref m) = some (rs.map .int) := by
    show (cs[m]?).map (·.vs) = _
    rw [t.c]; rfl
  rw [this, Option.bind_some, asInts_map]; rfl
theorem Two.tup {n m : Nat} {cs : Cs} {rs : List Int} (t : Two n m cs rs) (c : Bool) : bltO .tuple c cs [.ref m] = some (tp rs, cs) := by
  show (asR cs (.ref m)).map (fun xs => (PV.tup xs, cs)) = _
  have : asR cs (.ref m) = some (rs.map .int) := by
    show (cs[m]?).map (·.vs) = _
    rw [t.c]; rfl
  rw [this]; rfl
theorem Two.put {n m : Nat} {cs : Cs} {rs : List Int} (t : Two n m cs rs) (i : Nat) (hi : i < rs.length) (x : Int) : setO cs (.ref m) (.int (i : Int)) (.int x) = some (cs.set m ⟨true, (rs.set i x).map .int⟩) := by
  show (match cs[m]? with
    | some c => if c.live then (L2.ixN c.vs.length (i : Int)).map fun j => cs.set m { c with vs := c.vs.set j (.int x) } else none
    | none => none) = _
  rw [t.c]
  have e : L2.ixN (rs.map PV.int).length (i : Int) = some i := by
    unfold L2.ixN
    rw [if_pos (by omega), if_pos (by rw [List.length_map]; omega), Int.toNat_natCast]
  show (L2.ixN (rs.map PV.int).length (i : Int)).map _ = _
  rw [e, List.map_set]; rfl
theorem set_sum_pos {rs : List Int} {i : Nat} (hi : i < rs.length) (h : ∀ r ∈ rs, 0 ≤ r) {x : Int} (hx : 1 ≤ x) : 1 ≤ (rs.set i x).sum := by
  have h2 : ∀ r ∈ rs.set i x, 0 ≤ r := fun r hr => by
    rcases List.mem_or_eq_of_mem_set hr with z | z
    · exact h r z
    · omega
  have h3 : x ∈ rs.set i x := List.mem_iff_getElem?.mpr ⟨i, List.getElem?_set_self hi⟩
  have := mem_le_sum h2 h3
  omega
theorem range_cut {n i : Nat} {pre post : List Nat} (e : List.range n = pre ++ i :: post) : i = pre.length := by
  have h1 : (List.range n)[pre.length]? = some i := by rw [e]; simp
  have hlt : pre.length < n := by have := congrArg List.length e; simp at this; omega
  rw [List.getElem?_range hlt] at h1
  exact (Option.some.inj h1).symm
theorem ixI (c : Cs) (seats : List Int) {x : Int} (h0 : 0 ≤ x) (h1 : x < seats.length) : ixO c (tp seats) (.int x) = some (.int (seats.getD x.toNat 0)) := by
  show L2.atI (seats.map PV.int) x = _
  have : x = ((x.toNat : Nat) : Int) := by omega
  rw [this]
  exact atI_int (by omega)
/-- cells below stand, but for the pot's -/
def Kx (n : Nat) (cs c : Cs) : Prop := cs.length ≤ c.length ∧ ∀ m, m < cs.length → m ≠ n → c[m]? = cs[m]?
theorem Kx.refl (n : Nat) (cs : Cs) : Kx n cs cs := ⟨Nat.le_refl _, fun _ _ _ => rfl⟩
theorem Kx.pot {n : Nat} {cs c c' : Cs} (h : Kx n cs c) (t : PotTo n c c') : Kx n cs c' := by
  obtain ⟨a, b, rfl⟩ := t
  exact ⟨by simpa using h.1, fun m hm hn => by rw [List.getElem?_set_ne (Ne.symm hn)]; exact h.2 m hm hn⟩
theorem Kx.app {n : Nat} {cs c : Cs} (h : Kx n cs c) (r : Cs) : Kx n cs (c ++ r) :=
  ⟨by rw [List.length_append]; have := h.1; omega, fun m hm hn => by rw [List.getElem?_append_left (by have := h.1; omega)]; exact h.2 m hm hn⟩
theorem Kx.set {n z : Nat} {cs c : Cs} {x : Cell} (h : Kx n cs c) (hz : cs.length ≤ z) : Kx n cs (c.set z x) :=
  ⟨by simpa using h.1, fun m hm hn => by rw [List.getElem?_set_ne (by omega)]; exact h.2 m hm hn⟩
theorem Kx.trans {n : Nat} {cs c c' : Cs} (h : Kx n cs c) (g : Kx n c c') : Kx n cs c' :=
  ⟨Nat.le_trans h.1 g.1, fun m hm hn => by rw [g.2 m (by have := h.1; omega) hn]; exact h.2 m hm hn⟩
theorem Kx.pot_of {n m : Nat} {cs c : Cs} (h : Kx n cs c) (hm : m ≠ n) (p : Pot cs m) : Pot c m := by
  obtain ⟨a, b, e⟩ := p
  exact ⟨a, b, by rw [h.2 m (List.getElem?_eq_some_iff.mp e).1 hm]; exact e⟩
theorem Pot.lt {n : Nat} {cs : Cs} (p : Pot cs n) : n < cs.length := by
  obtain ⟨a, b, e⟩ := p
  exact (List.getElem?_eq_some_iff.mp e).1
theorem Pot.app {n : Nat} {cs : Cs} (p : Pot cs n) (r : Cs) : Pot (cs ++ r) n := by
  have := p.lt
  obtain ⟨a, b, e⟩ := p
  exact ⟨a, b, by rw [List.getElem?_append_left this]; exact e⟩
theorem Pot.set {n z : Nat} {cs : Cs} {x : Cell} (p : Pot cs n) (hz : z ≠ n) : Pot (cs.set z x) n := by
  obtain ⟨a, b, e⟩ := p
  exact ⟨a, b, by rw [List.getElem?_set_ne hz]; exact e⟩
end Cn
end

section
set_option maxHeartbeats 4000000
/-! lots, counted: sums over all lots, split at a list -/
namespace Sw
open PySem Ev Lots Cn
/-- sum over all lots -/
def Z (n : Nat) (f : List Int → Int) : Int := ((F n).map f).sum
theorem sum_perm {xs ys : List Int} (h : xs.Perm ys) : xs.sum = ys.sum := by
  induction h with
  | nil => rfl
  | cons x _ ih => simp only [List.sum_cons, ih]
  | swap x y l => simp only [List.sum_cons]; omega
  | trans _ _ a b => exact a.trans b
theorem Z_lots (n : Nat) (f : List Int → Int) : ((lots n).map f).sum = Z n f := sum_perm ((List.mergeSort_perm _ _).map f)
theorem sum_app (xs ys : List Int) : (xs ++ ys).sum = xs.sum + ys.sum := by simp
theorem Z_succ (n : Nat) (f : List Int → Int) : Z (n + 1) f = Z n f + Z n (fun l => f (l ++ [(n : Int)])) := by
  unfold Z
  rw [F, List.map_append, sum_app, List.map_map]
  rfl
theorem Z_congr {n : Nat} {f g : List Int → Int} (h : ∀ l, Lot n l → f l = g l) : Z n f = Z n g := by
  unfold Z
  congr 1
  exact List.map_congr_left fun l hl => h l (F_mem.mp hl)
theorem sum_map_add {α : Type} (xs : List α) (f g : α → Int) : (xs.map fun x => f x + g x).sum = (xs.map f).sum + (xs.map g).sum := by
  induction xs with
  | nil => rfl
  | cons x xs ih => simp only [List.map_cons, List.sum_cons, ih]; omega
theorem sum_map_sub {α : Type} (xs : List α) (f g : α → Int) : (xs.map fun x => f x - g x).sum = (xs.map f).sum - (xs.map g).sum := by
  induction xs with
  | nil => rfl
  | cons x xs ih => simp only [List.map_cons, List.sum_cons, ih]; omega
theorem sum_map_mul {α : Type} (xs : List α) (k : Int) (f : α → Int) : (xs.map fun x => k * f x).sum = k * (xs.map f).sum := by
  induction xs with
  | nil => simp
  | cons x xs ih => simp only [List.map_cons, List.sum_cons, ih, Int.mul_add]
theorem sum_map_zero {α : Type} (xs : List α) : (xs.map fun _ => (0 : Int)).sum = 0 := by
  induction xs with
  | nil => rfl
  | cons x xs ih => simp only [List.map_cons, List.sum_cons, ih]; rfl
theorem sum_map_le {α : Type} {xs : List α} {f g : α → Int} (h : ∀ x ∈ xs, f x ≤ g x) : (xs.map f).sum ≤ (xs.map g).sum := by
  induction xs with
  | nil => exact Int.le_refl _
  | cons x xs ih =>
    have := h x List.mem_cons_self
    have := ih fun y hy => h y (List.mem_cons_of_mem _ hy)
    simp only [List.map_cons, List.sum_cons]; omega
theorem Z_add (n : Nat) (f g : List Int → Int) : Z n (fun l => f l + g l) = Z n f + Z n g := sum_map_add _ _ _
theorem Z_sub (n : Nat) (f g : List Int → Int) : Z n (fun l => f l - g l) = Z n f - Z n g := sum_map_sub _ _ _
theorem Z_le {n : Nat} {f g : List Int → Int} (h : ∀ l, Lot n l → f l ≤ g l) : Z n f ≤ Z n g := sum_map_le fun l hl => h l (F_mem.mp hl)
/-- sums in the other order -/
theorem sum_swap {α β : Type} (xs : List α) (ys : List β) (f : α → β → Int) : (xs.map fun x => (ys.map fun y => f x y).sum).sum = (ys.map fun y => (xs.map fun x => f x y).sum).sum := by
  induction xs with
  | nil => simp only [List.map_nil, List.sum_nil]; exact (sum_map_zero ys).symm
  | cons x xs ih =>
    simp only [List.map_cons, List.sum_cons, ih]
    rw [← sum_map_add]
/-- a list put in at its place -/
def ins (i : Int) (l : List Int) : List Int := l.filter (fun x => decide (x < i)) ++ i :: l.filter (fun x => decide (i < x))
theorem ins_app {n : Nat} {i : Int} (h : i < n) (l : List Int) : ins i (l ++ [(n : Int)]) = ins i l ++ [(n : Int)] := by
  unfold ins
  rw [List.filter_append, List.filter_append]
  have e1 : [(n : Int)].filter (fun x => decide (x < i)) = [] := by
    rw [List.filter_cons, if_neg (by rw [decide_eq_true_eq]; omega)]; rfl
  have e2 : [(n : Int)].filter (fun x => decide (i < x)) = [(n : Int)] := by
    rw [List.filter_cons, if_pos (by rw [decide_eq_true_eq]; omega)]; rfl
  rw [e1, e2, List.append_nil]
  simp
theorem ins_top {n : Nat} {l : List Int} (h : Lot n l) : ins (n : Int) l = l ++ [(n : Int)] := by
  unfold ins
  rw [List.filter_eq_self.mpr fun x hx => by rw [decide_eq_true_eq]; exact (h.2 x hx).2, List.filter_eq_nil_iff.mpr fun x hx => by have := (h.2 x hx).2; rw [decide_eq_true_eq]; omega]
/-- without -/
def no (i : Int) (l : List Int) : Bool := !has l i
theorem no_iff {i : Int} {l : List Int} : no i l = true ↔ i ∉ l := by
  unfold no
  rw [Bool.not_eq_true', ← Bool.not_eq_true, has_iff]
theorem Z_split {n : Nat} {i : Int} (h0 : 0 ≤ i) (h1 : i < n) (f : List Int → Int) : Z n f = Z n (fun l => if no i l = true then f l + f (ins i l) else 0) := by
  induction n generalizing f with
  | zero => omega
  | succ n ih =>
    rw [Z_succ, Z_succ]
    by_cases hi : i = n
    · subst hi
      rw [← Z_add, ← Z_add]
      refine Z_congr fun l hl => ?_
      have e1 : no (n : Int) l = true := no_iff.mpr fun hm => by have := (hl.2 _ hm).2; omega
      have e2 : ¬ (no (n : Int) (l ++ [(n : Int)]) = true) := fun z => no_iff.mp z (by simp)
      rw [if_pos e1, if_neg e2, ins_top hl]; omega
    · have hin : i < n := by omega
      rw [ih hin f, ih hin fun l => f (l ++ [(n : Int)])]
      congr 1
      refine Z_congr fun l hl => ?_
      have e : no i (l ++ [(n : Int)]) = no i l := by
        unfold no has
        rw [List.any_append]
        have : ([(n : Int)].any fun z => z == i) = false := by
          simp only [List.any_cons, List.any_nil, Bool.or_false, beq_eq_false_iff_ne, ne_eq]
          omega
        rw [this, Bool.or_false]
      rw [e, ins_app hin]
theorem mem_ins {i x : Int} {l : List Int} : x ∈ ins i l ↔ x = i ∨ (x ∈ l ∧ x ≠ i) := by
  unfold ins
  simp only [List.mem_append, List.mem_cons, List.mem_filter, decide_eq_true_eq]
  constructor
  · rintro (⟨a, b⟩ | rfl | ⟨a, b⟩)
    · exact .inr ⟨a, by omega⟩
    · exact .inl rfl
    · exact .inr ⟨a, by omega⟩
  · rintro (rfl | ⟨a, b⟩)
    · exact .inr (.inl rfl)
    · rcases Int.lt_or_gt_of_ne b with z | z
      · exact .inl ⟨a, z⟩
      · exact .inr (.inr ⟨a, z⟩)
theorem ins_lot {n : Nat} {i : Int} {l : List Int} (h : Lot n l) (h0 : 0 ≤ i) (h1 : i < n) : Lot n (ins i l) := by
  refine ⟨?_, fun x hx => ?_⟩
  · unfold ins
    refine List.pairwise_append.mpr ⟨h.1.filter _, List.pairwise_cons.mpr ⟨fun x hx => ?_, h.1.filter _⟩, fun a ha b hb => ?_⟩
    · have := (List.mem_filter.mp hx).2
      rwa [decide_eq_true_eq] at this
    · have ha := (List.mem_filter.mp ha).2
      rw [decide_eq_true_eq] at ha
      rcases List.mem_cons.mp hb with z | z
      · omega
      · have hb := (List.mem_filter.mp z).2
        rw [decide_eq_true_eq] at hb
        omega
  · rcases mem_ins.mp hx with rfl | ⟨z, _⟩
    · exact ⟨h0, h1⟩
    · exact h.2 x z
theorem lot_ext {n : Nat} {l m : List Int} (hl : Lot n l) (hm : Lot n m) (h : ∀ x, x ∈ l ↔ x ∈ m) : l = m :=
  (sub_of_part hl.1 hm.1 fun x hx => (h x).mp hx).eq_of_length_le (sub_of_part hm.1 hl.1 fun x hx => (h x).mpr hx).length_le
/-- taken out -/
def del (i : Int) (l : List Int) : List Int := l.filter fun x => decide (x ≠ i)
theorem mem_del {i x : Int} {l : List Int} : x ∈ del i l ↔ x ∈ l ∧ x ≠ i := by simp [del]
theorem del_lot {n : Nat} {i : Int} {l : List Int} (h : Lot n l) : Lot n (del i l) := ⟨h.1.filter _, fun x hx => h.2 x (mem_del.mp hx).1⟩
theorem del_ins {n : Nat} {i : Int} {l : List Int} (h : Lot n l) (h0 : 0 ≤ i) (h1 : i < n) (hi : i ∉ l) : del i (ins i l) = l := by
  refine lot_ext (del_lot (ins_lot h h0 h1)) h fun x => ?_
  rw [mem_del, mem_ins]
  constructor
  · rintro ⟨rfl | ⟨a, _⟩, b⟩
    · exact absurd rfl b
    · exact a
  · intro hx
    have : x ≠ i := fun z => hi (by rw [← z]; exact hx)
    exact ⟨.inr ⟨hx, this⟩, this⟩
/-- sums of seats under other sequences -/
theorem S_perm {seats l m : List Int} (h : l.Perm m) : S seats l = S seats m := sum_perm (h.map _)
theorem S_app (seats l m : List Int) : S seats (l ++ m) = S seats l + S seats m := by
  unfold S
  rw [List.map_append, sum_app]
theorem ins_perm {n : Nat} {i : Int} {l : List Int} (h : Lot n l) (hi : i ∉ l) : (ins i l).Perm (i :: l) := by
  unfold ins
  refine List.perm_middle.trans (List.Perm.cons i ?_)
  induction l with
  | nil => exact .refl _
  | cons x l ih =>
    have hl : Lot n l := ⟨(List.pairwise_cons.mp h.1).2, fun y hy => h.2 y (List.mem_cons_of_mem _ hy)⟩
    have ih := ih hl fun z => hi (List.mem_cons_of_mem _ z)
    have hx : x ≠ i := fun z => hi (by rw [z]; exact List.mem_cons_self)
    rcases Int.lt_or_gt_of_ne hx with z | z
    · rw [List.filter_cons, if_pos (by rw [decide_eq_true_eq]; exact z), List.filter_cons, if_neg (by rw [decide_eq_true_eq]; omega), List.cons_append]
      exact ih.cons x
    · rw [List.filter_cons, if_neg (by rw [decide_eq_true_eq]; omega), List.filter_cons, if_pos (by rw [decide_eq_true_eq]; exact z)]
      exact List.perm_middle.trans (ih.cons x)
def sOf (seats : List Int) (i : Int) : Int := seats.getD i.toNat 0
theorem S_cons (seats : List Int) (i : Int) (l : List Int) : S seats (i :: l) = sOf seats i + S seats l := by
  unfold S sOf
  rw [List.map_cons, List.sum_cons]
theorem S_ins {n : Nat} {i : Int} {l seats : List Int} (h : Lot n l) (hi : i ∉ l) : S seats (ins i l) = sOf seats i + S seats l := by
  rw [S_perm (ins_perm h hi), S_cons]
theorem len_ins {n : Nat} {i : Int} {l : List Int} (h : Lot n l) (hi : i ∉ l) : (ins i l).length = l.length + 1 := (ins_perm h hi).length_eq
/-- a list makes the difference -/
def key (seats : List Int) (q : Int) (i : Int) (l : List Int) : Bool := won seats q l && has l i && !won seats q (del i l)
/-- .. by a lot without it -/
def piv (seats : List Int) (q : Int) (i : Int) (l : List Int) : Bool := !won seats q l && decide (q ≤ sOf seats i + S seats l)
/-- counted with weights by sizes -/
def Tk (seats : List Int) (q : Int) (k : Nat → Int) (i : Int) : Int := Z seats.length fun l => if no i l = true ∧ piv seats q i l = true then k l.length else 0
theorem Tk_key {seats : List Int} {q : Int} {k : Nat → Int} {i : Int} (h0 : 0 ≤ i) (h1 : i < seats.length) : Z seats.length (fun l => if key seats q i l = true then k (l.length - 1) else 0) = Tk seats q k i := by
  rw [Z_split h0 h1]
  refine Z_congr fun l hl => ?_
  cases hn : no i l with
  | false => simp
  | true =>
    have hi := no_iff.mp hn
    have e1 : key seats q i l = false := by
      unfold key
      have : has l i = false := by simpa [no] using hn
      rw [this, Bool.and_false, Bool.false_and]
    have e2 : key seats q i (ins i l) = piv seats q i l := by
      unfold key piv
      rw [del_ins hl h0 h1 hi, has_iff.mpr (mem_ins.mpr (.inl rfl)), Bool.and_true]
      unfold won
      rw [S_ins hl hi, Bool.and_comm]
    rw [e1, e2, len_ins hl hi]
    simp
/-- who has no fewer seats counts in no fewer -/
theorem Tk_two {seats : List Int} {q : Int} {k : Nat → Int} {i j : Int} (h0 : 0 ≤ i) (h1 : i < seats.length) (g0 : 0 ≤ j) (g1 : j < seats.length) (hij : i ≠ j) : Tk seats q k i = Z seats.length fun l => if no i l = true ∧ no j l = true then (if piv seats q i l = true then k l.length else 0) + (if piv seats q i (ins j l) = true then k (l.length + 1) else 0) else 0 := by
  unfold Tk
  rw [Z_split g0 g1]
  refine Z_congr fun l hl => ?_
  cases hj : no j l with
  | false => simp
  | true =>
    have hjl := no_iff.mp hj
    have e : no i (ins j l) = no i l := by
      rw [Bool.eq_iff_iff, no_iff, no_iff, mem_ins]
      constructor
      · intro h z
        exact h (.inr ⟨z, hij⟩)
      · rintro h (z | z)
        · exact hij z
        · exact h z.1
    rw [e, len_ins hl hjl]
    cases hi : no i l with
    | false => simp
    | true => simp
theorem Tk_mono {seats : List Int} {q : Int} {k : Nat → Int} {i j : Int} (hk : ∀ n, 0 ≤ k n) (h0 : 0 ≤ i) (h1 : i < seats.length) (g0 : 0 ≤ j) (g1 : j < seats.length) (hs : sOf seats j ≤ sOf seats i) : Tk seats q k j ≤ Tk seats q k i := by
  by_cases hij : i = j
  · rw [hij]; exact Int.le_refl _
  rw [Tk_two h0 h1 g0 g1 hij, Tk_two g0 g1 h0 h1 (Ne.symm hij)]
  refine Z_le fun l hl => ?_
  cases hi : no i l with
  | false => simp
  | true =>
    cases hj : no j l with
    | false => simp
    | true =>
      simp only [and_self, if_true]
      have a := S_ins (seats := seats) hl (no_iff.mp hi)
      have b := S_ins (seats := seats) hl (no_iff.mp hj)
      have k1 := hk l.length
      have k2 := hk (l.length + 1)
      have c1 : piv seats q j l = true → piv seats q i l = true := by
        simp only [piv, won, Bool.and_eq_true, Bool.not_eq_true', decide_eq_false_iff_not, decide_eq_true_eq]
        omega
      have c2 : piv seats q j (ins i l) = true → piv seats q i (ins j l) = true := by
        simp only [piv, won, Bool.and_eq_true, Bool.not_eq_true', decide_eq_false_iff_not, decide_eq_true_eq, a, b]
        omega
      refine Int.add_le_add ?_ ?_
      · by_cases z : piv seats q j l = true
        · rw [if_pos z, if_pos (c1 z)]; exact Int.le_refl _
        · rw [if_neg z]; split <;> omega
      · by_cases z : piv seats q j (ins i l) = true
        · rw [if_pos z, if_pos (c2 z)]; exact Int.le_refl _
        · rw [if_neg z]; split <;> omega
/-- with more seats no fewer -/
theorem S_set {seats l : List Int} {i : Int} (h0 : 0 ≤ i) (hl : ∀ x ∈ l, 0 ≤ x) (hi : i ∉ l) (v : Int) : S (seats.set i.toNat v) l = S seats l := by
  unfold S
  congr 1
  refine List.map_congr_left fun x hx => ?_
  have := hl x hx
  have hne : i.toNat ≠ x.toNat := fun z => hi (by have : i = x := by omega
                                                  rw [this]; exact hx)
  rw [List.getD, List.getD, List.getElem?_set_ne hne]
theorem Tk_more {seats : List Int} {q v : Int} {k : Nat → Int} {i : Int} (hk : ∀ n, 0 ≤ k n) (h0 : 0 ≤ i) (h1 : i < seats.length) (hv : sOf seats i ≤ v) : Tk seats q k i ≤ Tk (seats.set i.toNat v) q k i := by
  unfold Tk
  rw [List.length_set]
  refine Z_le fun l hl => ?_
  cases hi : no i l with
  | false => simp
  | true =>
    have hil := no_iff.mp hi
    have e := S_set (seats := seats) h0 (fun x hx => (hl.2 x hx).1) hil v
    have e2 : sOf (seats.set i.toNat v) i = v := by
      unfold sOf
      rw [List.getD, List.getElem?_set_self (by omega)]; rfl
    have k1 := hk l.length
    have c1 : piv seats q i l = true → piv (seats.set i.toNat v) q i l = true := by
      simp only [piv, won, Bool.and_eq_true, Bool.not_eq_true', decide_eq_false_iff_not, decide_eq_true_eq, e, e2]
      omega
    by_cases z : piv seats q i l = true
    · rw [if_pos ⟨rfl, z⟩, if_pos ⟨rfl, c1 z⟩]; exact Int.le_refl _
    · rw [if_neg (fun y => z y.2)]; split <;> omega
/-! ### all sequences make one -/
def fct : Nat → Int
  | 0 => 1
  | n + 1 => fct n * (n + 1)
theorem fct_pos : ∀ n, 1 ≤ fct n
  | 0 => Int.le_refl _
  | n + 1 => by
    have := fct_pos n
    have h2 : 0 ≤ fct n * (n : Int) := Int.mul_nonneg (by omega) (by omega)
    simp only [fct, Int.mul_add, Int.mul_one]
    omega
/-- the sequences ahead and behind -/
def kT (n t : Nat) : Int := fct t * fct (n - t - 1)
theorem kT_pos (n t : Nat) : 0 ≤ kT n t := Int.mul_nonneg (by have := fct_pos t; omega) (by have := fct_pos (n - t - 1); omega)
theorem Z_empty : ∀ (n : Nat) (f : List Int → Int), Z n (fun l => if l.length = 0 then f l else 0) = f []
  | 0, f => by simp [Z, F]
  | n + 1, f => by
    rw [Z_succ, Z_empty n f]
    have : Z n (fun l => if (l ++ [(n : Int)]).length = 0 then f (l ++ [(n : Int)]) else 0) = Z n fun _ => 0 := Z_congr fun l _ => by simp
    rw [this]
    unfold Z
    rw [sum_map_zero]; omega
def full (n : Nat) : List Int := (List.range n).map fun (i : Nat) => (i : Int)
theorem Z_full : ∀ (n : Nat) (f : List Int → Int), Z n (fun l => if l.length = n then f l else 0) = f (full n)
  | 0, f => by simp [Z, F, full]
  | n + 1, f => by
    rw [Z_succ]
    have e1 : Z n (fun l => if l.length = n + 1 then f l else 0) = Z n fun _ => 0 := Z_congr fun l hl => by
      have := hl.len
      rw [if_neg (by omega)]
    have e2 : Z n (fun l => if (l ++ [(n : Int)]).length = n + 1 then f (l ++ [(n : Int)]) else 0) = Z n (fun l => if l.length = n then f (l ++ [(n : Int)]) else 0) := Z_congr fun l _ => by simp
    rw [e1, e2, Z_full n fun l => f (l ++ [(n : Int)])]
    unfold Z
    rw [sum_map_zero]
    have : full (n + 1) = full n ++ [(n : Int)] := by
      unfold full
      rw [List.range_succ, List.map_append]; rfl
    rw [this]; omega
theorem cnt_in : ∀ {n : Nat} {l : List Int}, Lot n l → ((full n).map fun i => if has l i = true then (1 : Int) else 0).sum = l.length := by
  intro n l hl
  have h2 := F_mem.mpr hl
  clear hl
  have fs : ∀ n, full (n + 1) = full n ++ [(n : Int)] := fun n => by unfold full; rw [List.range_succ, List.map_append]; rfl
  induction n generalizing l with
  | zero =>
    simp only [F, List.mem_singleton] at h2
    subst h2; rfl
  | succ n ih =>
    rw [fs, List.map_append, sum_app]
    simp only [F, List.mem_append, List.mem_map] at h2
    rcases h2 with h | ⟨m, h, rfl⟩
    · rw [ih h]
      have : has l (n : Int) = false := by
        rw [← Bool.not_eq_true, has_iff]
        intro z
        have := ((F_mem.mp h).2 _ z).2
        omega
      simp [this]
    · have e : ((full n).map fun i => if has (m ++ [(n : Int)]) i = true then (1 : Int) else 0) = (full n).map fun i => if has m i = true then (1 : Int) else 0 := by
        refine List.map_congr_left fun i hi => ?_
        obtain ⟨k, hk, rfl⟩ := List.mem_map.mp hi
        have hk := List.mem_range.mp hk
        have : has (m ++ [(n : Int)]) k = has m k := by
          unfold has
          rw [List.any_append]
          have : ([(n : Int)].any fun z => z == (k : Int)) = false := by
            simp only [List.any_cons, List.any_nil, Bool.or_false, beq_eq_false_iff_ne, ne_eq]
            omega
          rw [this, Bool.or_false]
        rw [this]
      rw [e, ih h]
      have : has (m ++ [(n : Int)]) n = true := has_iff.mpr (by simp)
      simp [this]
theorem cnt_no {n : Nat} {l : List Int} (hl : Lot n l) : ((full n).map fun i => if no i l = true then (1 : Int) else 0).sum = n - l.length := by
  have h1 := cnt_in hl
  have h2 : ((full n).map fun i => (if has l i = true then (1 : Int) else 0) + (if no i l = true then (1 : Int) else 0)).sum = n := by
    have : ((full n).map fun i => (if has l i = true then (1 : Int) else 0) + (if no i l = true then (1 : Int) else 0)) = (full n).map fun _ => (1 : Int) := by
      refine List.map_congr_left fun i _ => ?_
      unfold no
      cases has l i <;> simp
    rw [this]
    unfold full
    rw [List.map_map]
    clear this h1 hl
    induction n with
    | zero => rfl
    | succ n ih => rw [List.range_succ, List.map_append, sum_app, ih]; simp
  rw [sum_map_add, h1] at h2
  omega
/-- c(L) = |L|! (n - |L|)! -/
def cL (n t : Nat) : Int := fct t * fct (n - t)
theorem cL_in {n t : Nat} (h : t ≤ n) : (t : Int) * kT n (t - 1) = if t = 0 then 0 else cL n t := by
  cases t with
  | zero => simp
  | succ t =>
    rw [if_neg (by omega)]
    simp only [kT, cL, fct, Nat.add_sub_cancel]
    rw [show n - t - 1 = n - (t + 1) by omega, ← Int.mul_assoc]
    congr 1
    rw [Int.mul_comm]; simp
theorem cL_no {n t : Nat} (h : t ≤ n) : ((n : Int) - t) * kT n t = if t = n then 0 else cL n t := by
  by_cases e : t = n
  · rw [if_pos e, e]; simp
  · rw [if_neg e]
    obtain ⟨d, rfl⟩ : ∃ d, n = t + d + 1 := ⟨n - t - 1, by omega⟩
    simp only [kT, cL]
    rw [show t + d + 1 - t - 1 = d by omega, show t + d + 1 - t = d + 1 by omega]
    simp only [fct]
    have : (((t + d + 1 : Nat) : Int) - t) = (d : Int) + 1 := by omega
    rw [this, Int.mul_comm ((d : Int) + 1), Int.mul_assoc]
theorem turn_sum {seats : List Int} {q : Int} (h0 : ∀ x ∈ seats, 0 ≤ x) (hn : 1 ≤ seats.length) (h1 : won seats q [] = false) (h2 : won seats q (full seats.length) = true) : ((full seats.length).map fun i => Tk seats q (kT seats.length) i).sum = fct seats.length := by
  have pos : ∀ i : Int, 0 ≤ sOf seats i := fun i => by
    unfold sOf
    rw [List.getD]
    cases e : seats[i.toNat]? with
    | none => simp
    | some x => simpa using h0 x (List.mem_of_getElem? e)
  let g : List Int → Int := fun l => if won seats q l = true then 1 else 0
  let n := seats.length
  have term : ∀ i ∈ full n, Tk seats q (kT n) i = Z n (fun l => if has l i = true then kT n (l.length - 1) * g l else 0) - Z n (fun l => if no i l = true then kT n l.length * g l else 0) := by
    intro i hi
    obtain ⟨k, hk, rfl⟩ := List.mem_map.mp hi
    have hk := List.mem_range.mp hk
    rw [Z_split (i := (k : Int)) (by omega) (by omega) (fun l => if has l (k : Int) = true then kT n (l.length - 1) * g l else 0), ← Z_sub]
    unfold Tk
    refine Z_congr fun l hl => ?_
    cases hnk : no (k : Int) l with
    | false => simp
    | true =>
      have hkl := no_iff.mp hnk
      have e1 : has l (k : Int) = false := by simpa [no] using hnk
      have e2 : has (ins (k : Int) l) k = true := has_iff.mpr (mem_ins.mpr (.inl rfl))
      rw [e1, e2, len_ins hl hkl]
      simp only [if_true, Bool.false_eq_true, if_false, true_and, Nat.add_sub_cancel]
      have e3 : g (ins (k : Int) l) = if q ≤ sOf seats k + S seats l then 1 else 0 := by
        show (if won seats q (ins (k : Int) l) = true then (1 : Int) else 0) = _
        unfold won
        rw [S_ins hl hkl]
        simp only [decide_eq_true_eq]
      have e4 : g l = if q ≤ S seats l then 1 else 0 := by
        show (if won seats q l = true then (1 : Int) else 0) = _
        unfold won
        simp only [decide_eq_true_eq]
      have := pos k
      rw [e3, e4]
      simp only [piv, won, Bool.and_eq_true, Bool.not_eq_true', decide_eq_false_iff_not, decide_eq_true_eq]
      by_cases a : q ≤ S seats l
      · have b : q ≤ sOf seats k + S seats l := by omega
        simp [a, b]
      · by_cases b : q ≤ sOf seats k + S seats l <;> simp [a, b]
  show ((full n).map fun i => Tk seats q (kT n) i).sum = _
  rw [show ((full n).map fun i => Tk seats q (kT n) i) = (full n).map fun i => Z n (fun l => if has l i = true then kT n (l.length - 1) * g l else 0) - Z n (fun l => if no i l = true then kT n l.length * g l else 0) from List.map_congr_left term, sum_map_sub]
  unfold Z
  rw [sum_swap, sum_swap (full n)]
  have a : ((F n).map fun l => ((full n).map fun i => if has l i = true then kT n (l.length - 1) * g l else 0).sum) = (F n).map fun l => if l.length = 0 then 0 else cL n l.length * g l := by
    refine List.map_congr_left fun l hl => ?_
    have hL := F_mem.mp hl
    have : ((full n).map fun i => if has l i = true then kT n (l.length - 1) * g l else 0) = (full n).map fun i => (kT n (l.length - 1) * g l) * (if has l i = true then (1 : Int) else 0) := by
      refine List.map_congr_left fun i _ => ?_
      split <;> simp
    rw [this, sum_map_mul, cnt_in hL]
    have e := cL_in (n := n) hL.len
    have : kT n (l.length - 1) * g l * (l.length : Int) = ((l.length : Int) * kT n (l.length - 1)) * g l := by
      rw [Int.mul_comm _ (l.length : Int), ← Int.mul_assoc]
    rw [this, e]
    split <;> simp
  have b : ((F n).map fun l => ((full n).map fun i => if no i l = true then kT n l.length * g l else 0).sum) = (F n).map fun l => if l.length = n then 0 else cL n l.length * g l := by
    refine List.map_congr_left fun l hl => ?_
    have hL := F_mem.mp hl
    have : ((full n).map fun i => if no i l = true then kT n l.length * g l else 0) = (full n).map fun i => (kT n l.length * g l) * (if no i l = true then (1 : Int) else 0) := by
      refine List.map_congr_left fun i _ => ?_
      split <;> simp
    rw [this, sum_map_mul, cnt_no hL]
    have e := cL_no (n := n) hL.len
    have : kT n l.length * g l * ((n : Int) - l.length) = (((n : Int) - l.length) * kT n l.length) * g l := by
      rw [Int.mul_comm _ ((n : Int) - l.length), ← Int.mul_assoc]
    rw [this, e]
    split <;> simp
  rw [a, b, ← sum_map_sub]
  have c : ((F n).map fun l => (if l.length = 0 then 0 else cL n l.length * g l) - (if l.length = n then 0 else cL n l.length * g l)) = (F n).map fun l => (if l.length = n then cL n l.length * g l else 0) - (if l.length = 0 then cL n l.length * g l else 0) := by
    refine List.map_congr_left fun l _ => ?_
    by_cases x : l.length = 0
    · have : ¬ l.length = n := by rw [x]; show ¬ 0 = seats.length; omega
      rw [if_pos x, if_neg this, if_neg this, if_pos x]
    · by_cases y : l.length = n
      · rw [if_neg x, if_pos y, if_pos y, if_neg x]
      · rw [if_neg x, if_neg y, if_neg y, if_neg x]; omega
  rw [c, sum_map_sub]
  have d := Z_full n fun l => cL n l.length * g l
  have e := Z_empty n fun l => cL n l.length * g l
  unfold Z at d e
  rw [d, e]
  have f1 : g (full n) = 1 := by show (if won seats q (full n) = true then (1 : Int) else 0) = 1; rw [h2]; rfl
  have f2 : g [] = 0 := by show (if won seats q [] = true then (1 : Int) else 0) = 0; rw [h1]; rfl
  have f3 : (full n).length = n := by simp [full]
  rw [f1, f2, f3]
  simp [cL, fct]
  rfl
/-! ### counting up in a list -/
def addAt (f : List Int) (i w : Int) : List Int := f.set i.toNat (f.getD i.toNat 0 + w)
theorem addAt_len (f : List Int) (i w : Int) : (addAt f i w).length = f.length := by simp [addAt]
theorem addAt_get {f : List Int} {i w : Int} {j : Nat} (h0 : 0 ≤ i) (hj : j < f.length) : (addAt f i w).getD j 0 = f.getD j 0 + if i = j then w else 0 := by
  unfold addAt
  by_cases e : i = j
  · subst e
    rw [if_pos rfl, Int.toNat_natCast, List.getD, List.getElem?_set_self hj]; rfl
  · rw [if_neg e, List.getD, List.getElem?_set_ne (by omega)]
    simp
/-- where, how much -/
def adds (f : List Int) (ps : List (Int × Int)) : List Int := ps.foldl (fun f p => addAt f p.1 p.2) f
theorem adds_len (ps : List (Int × Int)) : ∀ f : List Int, (adds f ps).length = f.length := by
  induction ps with
  | nil => intro f; rfl
  | cons p ps ih => intro f; show (adds (addAt f p.1 p.2) ps).length = _; rw [ih, addAt_len]
theorem adds_get {j : Nat} (ps : List (Int × Int)) : ∀ {f : List Int}, j < f.length → (∀ p ∈ ps, 0 ≤ p.1) → (adds f ps).getD j 0 = f.getD j 0 + (ps.map fun p => if p.1 = (j : Int) then p.2 else 0).sum := by
  induction ps with
  | nil => intro f _ _; show f.getD j 0 = _; simp
  | cons p ps ih =>
    intro f hj h
    show (adds (addAt f p.1 p.2) ps).getD j 0 = _
    rw [ih (by rw [addAt_len]; exact hj) fun q hq => h q (List.mem_cons_of_mem _ hq), addAt_get (h p List.mem_cons_self) hj, List.map_cons, List.sum_cons]
    omega
theorem adds_app (f : List Int) (ps qs : List (Int × Int)) : adds f (ps ++ qs) = adds (adds f ps) qs := List.foldl_append
theorem adds_zero {n : Nat} (ps : List (Int × Int)) (h : ∀ p ∈ ps, 0 ≤ p.1) : adds (List.replicate n 0) ps = (full n).map fun i => (ps.map fun p => if p.1 = i then p.2 else 0).sum := by
  refine List.ext_getElem? fun j => ?_
  by_cases hj : j < n
  · have h1 := adds_get (j := j) ps (f := List.replicate n 0) (by simpa using hj) h
    have h2 : (adds (List.replicate n 0) ps).length = n := by rw [adds_len, List.length_replicate]
    rw [List.getD, List.getD, List.getElem?_replicate] at h1
    rw [List.getElem?_eq_getElem (by omega)] at h1 ⊢
    simp only [hj, if_true, Option.getD_some, Int.zero_add] at h1
    rw [h1]
    simp [full, hj]
  · rw [List.getElem?_eq_none (by rw [adds_len]; simp; omega), List.getElem?_eq_none (by simp [full]; omega)]
theorem sum_flat {α : Type} (xs : List α) (g : α → List (Int × Int)) (h : Int × Int → Int) : ((xs.flatMap g).map h).sum = (xs.map fun x => ((g x).map h).sum).sum := by
  induction xs with
  | nil => rfl
  | cons x xs ih => rw [List.flatMap_cons, List.map_append, sum_app, List.map_cons, List.sum_cons, ih]
theorem idx_ne {x j : Int} {l : List Int} (e : x ≠ j) : (x :: l).idxOf j = l.idxOf j + 1 := by
  rw [List.idxOf_cons]
  have : (x == j) = false := by simpa using e
  rw [this]; rfl
theorem sum_zip {j : Int} (H : Nat → Int) : ∀ (l : List Int) (m : Nat), l.Nodup → ((l.zipIdx m).map fun p => if p.1 = j then H p.2 else 0).sum = if j ∈ l then H (m + l.idxOf j) else 0
  | [], m, _ => rfl
  | x :: l, m, hd => by
    obtain ⟨h1, h2⟩ := List.nodup_cons.mp hd
    rw [List.zipIdx_cons, List.map_cons, List.sum_cons, sum_zip H l (m + 1) h2]
    by_cases e : x = j
    · subst e
      rw [if_pos rfl, if_neg h1, if_pos List.mem_cons_self, List.idxOf_cons_self]; simp
    · rw [if_neg e, idx_ne e, Int.zero_add]
      by_cases hj : j ∈ l
      · rw [if_pos hj, if_pos (List.mem_cons_of_mem _ hj)]
        congr 1; omega
      · rw [if_neg hj, if_neg fun z => (List.mem_cons.mp z).elim (fun y => e y.symm) hj]
theorem erase_del {l : List Int} (hd : l.Nodup) {j : Int} (hj : j ∈ l) : l.eraseIdx (l.idxOf j) = del j l := by
  rw [← List.erase_eq_eraseIdx_of_idxOf rfl, hd.erase_eq_filter]
  refine List.filter_congr fun x _ => ?_
  by_cases e : x = j <;> simp [e]
theorem sum_filter {α : Type} (p : α → Bool) (f : α → Int) : ∀ xs : List α, ((xs.filter p).map f).sum = (xs.map fun x => if p x = true then f x else 0).sum
  | [] => rfl
  | x :: xs => by
    rw [List.filter_cons, List.map_cons, List.sum_cons, ← sum_filter p f xs]
    cases p x <;> simp
theorem sum_full {n : Nat} (l : List Int) (hl : Lot n l) (H : Int → Int) : ((full n).map fun i => if has l i = true then H i else 0).sum = (l.map H).sum := by
  have h2 := F_mem.mpr hl
  clear hl
  have fs : ∀ n, full (n + 1) = full n ++ [(n : Int)] := fun n => by unfold full; rw [List.range_succ, List.map_append]; rfl
  induction n generalizing l with
  | zero =>
    simp only [F, List.mem_singleton] at h2
    subst h2; rfl
  | succ n ih =>
    rw [fs, List.map_append, sum_app]
    simp only [F, List.mem_append, List.mem_map] at h2
    rcases h2 with h | ⟨m, h, rfl⟩
    · rw [ih l h]
      have : has l (n : Int) = false := by
        rw [← Bool.not_eq_true, has_iff]
        intro z
        have := ((F_mem.mp h).2 _ z).2
        omega
      simp [this]
    · have e : ((full n).map fun i => if has (m ++ [(n : Int)]) i = true then H i else 0) = (full n).map fun i => if has m i = true then H i else 0 := by
        refine List.map_congr_left fun i hi => ?_
        obtain ⟨k, hk, rfl⟩ := List.mem_map.mp hi
        have hk := List.mem_range.mp hk
        have : has (m ++ [(n : Int)]) k = has m k := by
          unfold has
          rw [List.any_append]
          have : ([(n : Int)].any fun z => z == (k : Int)) = false := by
            simp only [List.any_cons, List.any_nil, Bool.or_false, beq_eq_false_iff_ne, ne_eq]
            omega
          rw [this, Bool.or_false]
        rw [this]
      rw [e, ih m h]
      have : has (m ++ [(n : Int)]) n = true := has_iff.mpr (by simp)
      simp [this]
/-! ### swings, turning parts as lists -/
/-- one list of a lot: its weight, if the lot loses without it -/
def keyAt (seats : List Int) (q : Int) (k : Nat → Int) (l : List Int) (p : Int × Nat) : Int × Int := (p.1, if won seats q (l.eraseIdx p.2) = true then 0 else k (l.length - 1))
def keys (seats : List Int) (q : Int) (k : Nat → Int) (l : List Int) : List (Int × Int) := l.zipIdx.map (keyAt seats q k l)
def kL (seats : List Int) (q : Int) (k : Nat → Int) : List Int := (full seats.length).map (Tk seats q k)
def swL (seats : List Int) (q : Int) : List Int := kL seats q fun _ => 1
def tuL (seats : List Int) (q : Int) : List Int := kL seats q (kT seats.length)
theorem keys_nn {seats : List Int} {q : Int} {k : Nat → Int} {ls : List (List Int)} (h : ∀ l ∈ ls, Lot seats.length l) : ∀ p ∈ ls.flatMap fun l => keys seats q k l, 0 ≤ p.1 := by
  intro p hp
  obtain ⟨l, hl, hp⟩ := List.mem_flatMap.mp hp
  obtain ⟨⟨x, m⟩, hx, rfl⟩ := List.mem_map.mp hp
  exact ((h l hl).2 x (List.mem_of_getElem? (List.mk_mem_zipIdx_iff_getElem?.mp hx))).1
theorem keys_sum {seats : List Int} {q : Int} {k : Nat → Int} {i : Int} {l : List Int} (hl : Lot seats.length l) : ((keys seats q k l).map fun p => if p.1 = i then p.2 else 0).sum = if has l i = true ∧ won seats q (del i l) = false then k (l.length - 1) else 0 := by
  unfold keys
  rw [List.map_map]
  have := sum_zip (j := i) (fun m => if won seats q (l.eraseIdx m) = true then 0 else k (l.length - 1)) l 0 hl.nodup
  refine Eq.trans this ?_
  by_cases hi : i ∈ l
  · rw [if_pos hi, Nat.zero_add, erase_del hl.nodup hi]
    have : has l i = true := has_iff.mpr hi
    rw [this]
    cases won seats q (del i l) <;> simp
  · rw [if_neg hi, if_neg fun z => hi (has_iff.mp z.1)]
theorem keys_k {seats : List Int} {q : Int} (k : Nat → Int) : adds (List.replicate seats.length 0) ((Wn seats q).flatMap fun l => keys seats q k l) = kL seats q k := by
  rw [adds_zero _ (keys_nn fun l hl => Wn_lot hl)]
  unfold kL
  refine List.map_congr_left fun i hi => ?_
  obtain ⟨m, hm, rfl⟩ := List.mem_map.mp hi
  have hm := List.mem_range.mp hm
  rw [sum_flat, ← Tk_key (by omega) (by omega), ← Z_lots, sum_filter]
  congr 1
  refine List.map_congr_left fun l hl => ?_
  have hL := lots_mem.mp hl
  rw [keys_sum hL]
  unfold key
  cases won seats q l <;> cases has l (m : Int) <;> cases won seats q (del (m : Int) l) <;> simp
theorem keys_sw {seats : List Int} {q : Int} : adds (List.replicate seats.length 0) ((Wn seats q).flatMap fun l => keys seats q (fun _ => 1) l) = swL seats q := keys_k _
theorem rep_int (n : Nat) (x : Int) : List.replicate n (PV.int x) = (List.replicate n x).map .int := by rw [List.map_replicate]
theorem two_cells (cs : Cs) (a b : Cell) : cs ++ [a] ++ [b] = cs ++ [a, b] := by simp
theorem two_set (cs : Cs) (a b x : Cell) : (cs ++ [a, b]).set (cs ++ [a]).length x = cs ++ [a, x] := by
  rw [List.set_append_right _ _ (by simp)]
  simp
theorem cut_out (l : List Int) (m : Nat) : PV.tup ((l.map PV.int).take m ++ (l.map PV.int).drop (m + 1)) = tp (l.eraseIdx m) := by
  rw [List.eraseIdx_eq_take_drop_succ, ← List.map_take, ← List.map_drop, ← List.map_append]
theorem fct_small {n : Nat} (h : n ≤ 8) : -18446744073709551616 < fct n ∧ fct n < 18446744073709551616 := by
  have : n = 0 ∨ n = 1 ∨ n = 2 ∨ n = 3 ∨ n = 4 ∨ n = 5 ∨ n = 6 ∨ n = 7 ∨ n = 8 := by omega
  rcases this with rfl | rfl | rfl | rfl | rfl | rfl | rfl | rfl | rfl <;> decide
theorem addAt_zero (f : List Int) (i : Int) : addAt f i 0 = f := by
  unfold addAt
  rw [Int.add_zero]
  refine List.ext_getElem? fun j => ?_
  rw [List.getElem?_set]
  split
  · rename_i e
    subst e
    by_cases h : i.toNat < f.length
    · rw [if_pos h, List.getD, List.getElem?_eq_getElem h]; rfl
    · rw [if_neg h, List.getElem?_eq_none (by omega)]
  · rfl
/-! ### the greatest common divisor -/
/-- at most so many turns more -/
def Euc (k x y : Nat) : Prop := (y ≤ x ∧ ∃ j, k = j + 1 ∧ x * y < 2 ^ j) ∨ (∃ j, k = j + 2 ∧ x * y < 2 ^ j)
theorem Euc.step {k x y : Nat} (h : Euc k x y) (hy : 0 < y) : ∃ k', k = k' + 1 ∧ Euc k' y (x % y) := by
  have hr := Nat.mod_lt x hy
  rcases h with ⟨hle, j, rfl, hj⟩ | ⟨j, rfl, hj⟩
  · refine ⟨j, rfl, .inl ⟨by omega, ?_⟩⟩
    have h1 : 1 ≤ x * y := Nat.mul_pos (by omega) hy
    cases j with
    | zero => simp at hj; omega
    | succ j =>
      refine ⟨j, rfl, ?_⟩
      have h2 : x % y + y ≤ x := by
        have := Nat.div_add_mod x y
        have h3 : 1 ≤ x / y := (Nat.one_le_div_iff hy).mpr hle
        have h4 : y * 1 ≤ y * (x / y) := Nat.mul_le_mul_left y h3
        omega
      have h5 : 2 * (x % y) ≤ x := by omega
      have h6 : 2 * (x % y) * y ≤ x * y := Nat.mul_le_mul_right y h5
      have h7 : 2 * (x % y) * y = 2 * (y * (x % y)) := by rw [Nat.mul_assoc, Nat.mul_comm (x % y) y]
      rw [Nat.pow_succ] at hj
      omega
  · refine ⟨j + 1, rfl, .inl ⟨by omega, j, rfl, ?_⟩⟩
    have : x % y ≤ x := Nat.mod_le x y
    have h2 : y * (x % y) ≤ y * x := Nat.mul_le_mul_left y this
    rw [Nat.mul_comm y x] at h2
    omega
def cm (a b : Nat) : Nat := max 1 (Nat.gcd a b)
theorem cm_eq (a b : Nat) : PV.int (if ((Nat.gcd a b : Nat) : Int) > 1 then ((Nat.gcd a b : Nat) : Int) else 1) = PV.int (cm a b) := by
  unfold cm
  split
  · rw [Nat.max_eq_right (by omega)]
  · rw [Nat.max_eq_left (by omega)]; rfl
theorem cm_le (a b : Nat) (hb : 0 < b) : 0 < cm a b ∧ cm a b ≤ b := by
  have := Nat.gcd_le_right a hb
  unfold cm
  omega
/-- a fraction in lowest terms -/
abbrev fr (a b : Nat) : PV := .tup [.int ((a : Int) / (cm a b : Nat)), .int ((b : Int) / (cm a b : Nat))]
abbrev shr (n : Nat) (x : Int) : PV := fr x.toNat (fct n).toNat
theorem full_lot (n : Nat) : Lot n (full n) := by
  refine ⟨?_, fun x hx => ?_⟩
  · unfold full
    rw [List.pairwise_map]
    exact List.pairwise_lt_range.imp fun h => by omega
  · obtain ⟨m, hm, rfl⟩ := List.mem_map.mp hx
    have := List.mem_range.mp hm
    omega
theorem S_full (seats : List Int) : S seats (full seats.length) = seats.sum := by
  unfold S full
  rw [List.map_map]
  congr 1
  refine List.ext_getElem? fun j => ?_
  by_cases h : j < seats.length
  · simp [h]
  · rw [List.getElem?_eq_none (by simp; omega), List.getElem?_eq_none (by omega)]
theorem Tk_pos {seats : List Int} {q : Int} {k : Nat → Int} {i : Int} (hk : ∀ n, 0 ≤ k n) : 0 ≤ Tk seats q k i := by
  unfold Tk Z
  refine sum_nonneg fun x hx => ?_
  obtain ⟨l, _, rfl⟩ := List.mem_map.mp hx
  split
  · exact hk _
  · exact Int.le_refl _
theorem fct_le {n : Nat} (h : n ≤ 8) : fct n ≤ 40320 := by
  have : n = 0 ∨ n = 1 ∨ n = 2 ∨ n = 3 ∨ n = 4 ∨ n = 5 ∨ n = 6 ∨ n = 7 ∨ n = 8 := by omega
  rcases this with rfl | rfl | rfl | rfl | rfl | rfl | rfl | rfl | rfl <;> decide
theorem tu_sum {seats : List Int} {q : Int} (h : Cou seats q) : (tuL seats q).sum = fct seats.length := by
  refine turn_sum (fun x hx => (h.s x hx).1) h.n1 ?_ ?_
  · have := h.q1
    show decide (q ≤ S seats []) = false
    rw [decide_eq_false_iff_not]
    show ¬ q ≤ 0
    omega
  · show decide (q ≤ S seats (full seats.length)) = true
    rw [S_full, decide_eq_true_eq]; exact h.q2
theorem tu_bound {seats : List Int} {q : Int} (h : Cou seats q) {x : Int} (hx : x ∈ tuL seats q) : 0 ≤ x ∧ x ≤ 40320 ∧ 1 ≤ fct seats.length ∧ fct seats.length ≤ 40320 := by
  have nn : ∀ y ∈ tuL seats q, 0 ≤ y := fun y hy => by
    obtain ⟨i, _, rfl⟩ := List.mem_map.mp hy
    exact Tk_pos fun n => kT_pos _ _
  have h1 := mem_le_sum nn hx
  rw [tu_sum h] at h1
  have h2 := fct_le h.n8
  exact ⟨nn x hx, by omega, fct_pos _, h2⟩
theorem small_mul {a b : Nat} (ha : a ≤ 40320) (hb : b ≤ 40320) : a * b < 2 ^ 96 := Nat.lt_of_le_of_lt (Nat.mul_le_mul ha hb) (by decide)
/-! ### the law's own counts -/
def lkeyAt (seats : List Int) (q : Int) (l : List Int) (x : Int) : Int × Int := (x, if (won seats q l && !won seats q (del x l)) = true then 1 else 0)
def lkeys (seats : List Int) (q : Int) (l : List Int) : List (Int × Int) := l.map (lkeyAt seats q l)
theorem sum_one {j : Int} (H : Int → Int) : ∀ {l : List Int}, l.Nodup → (l.map fun x => if x = j then H x else 0).sum = if j ∈ l then H j else 0
  | [], _ => rfl
  | x :: l, hd => by
    obtain ⟨h1, h2⟩ := List.nodup_cons.mp hd
    rw [List.map_cons, List.sum_cons, sum_one H h2]
    by_cases e : x = j
    · subst e
      rw [if_pos rfl, if_neg h1, if_pos List.mem_cons_self]; omega
    · rw [if_neg e, Int.zero_add]
      by_cases hj : j ∈ l
      · rw [if_pos hj, if_pos (List.mem_cons_of_mem _ hj)]
      · rw [if_neg hj, if_neg fun z => (List.mem_cons.mp z).elim (fun y => e y.symm) hj]
theorem lkeys_sw {seats : List Int} {q : Int} : adds (List.replicate seats.length 0) ((lots seats.length).flatMap fun l => lkeys seats q l) = swL seats q := by
  rw [adds_zero _ fun p hp => by
    obtain ⟨l, hl, hp⟩ := List.mem_flatMap.mp hp
    obtain ⟨x, hx, rfl⟩ := List.mem_map.mp hp
    exact ((lots_mem.mp hl).2 x hx).1]
  unfold swL kL
  refine List.map_congr_left fun i hi => ?_
  obtain ⟨m, hm, rfl⟩ := List.mem_map.mp hi
  have hm := List.mem_range.mp hm
  rw [sum_flat, ← Tk_key (by omega) (by omega), ← Z_lots]
  congr 1
  refine List.map_congr_left fun l hl => ?_
  have hL := lots_mem.mp hl
  unfold lkeys
  rw [List.map_map]
  refine Eq.trans (sum_one (fun x => if (won seats q l && !won seats q (del x l)) = true then 1 else 0) hL.nodup) ?_
  unfold key
  by_cases hi : (m : Int) ∈ l
  · rw [if_pos hi, has_iff.mpr hi, Bool.and_true]
  · have : has l (m : Int) = false := by rw [← Bool.not_eq_true, has_iff]; exact hi
    rw [if_neg hi, this]
    simp
theorem del_eq (l : List Int) (x : Int) : PV.tup ((l.filter fun y => !decide (y = x)).map .int) = tp (del x l) := by
  unfold del
  congr 2
  refine List.filter_congr fun y _ => ?_
  by_cases e : y = x <;> simp [e]
def bkeyAt (seats : List Int) (q : Int) (l : List Int) (x : Nat) : Int × Int := (x, if (!has l x && (!won seats q l && won seats q (l ++ [(x : Int)]))) = true then kT seats.length l.length else 0)
def bkeys (seats : List Int) (q : Int) (l : List Int) : List (Int × Int) := (List.range seats.length).map (bkeyAt seats q l)
theorem bkeys_tu {seats : List Int} {q : Int} : adds (List.replicate seats.length 0) ((lots seats.length).flatMap fun l => bkeys seats q l) = tuL seats q := by
  rw [adds_zero _ fun p hp => by
    obtain ⟨l, hl, hp⟩ := List.mem_flatMap.mp hp
    obtain ⟨x, hx, rfl⟩ := List.mem_map.mp hp
    show (0 : Int) ≤ (x : Int)
    omega]
  unfold tuL kL
  refine List.map_congr_left fun i hi => ?_
  obtain ⟨m, hm, rfl⟩ := List.mem_map.mp hi
  have hm := List.mem_range.mp hm
  rw [sum_flat]
  unfold Tk
  rw [← Z_lots]
  congr 1
  refine List.map_congr_left fun l hl => ?_
  have hL := lots_mem.mp hl
  have e1 : ((bkeys seats q l).map fun p => if p.1 = (m : Int) then p.2 else 0) = (full seats.length).map fun x => if x = (m : Int) then (if (!has l x && (!won seats q l && won seats q (l ++ [x]))) = true then kT seats.length l.length else 0) else 0 := by
    unfold bkeys full
    rw [List.map_map, List.map_map]
    rfl
  have nd : (full seats.length).Nodup := (full_lot _).nodup
  rw [e1, sum_one (fun x => if (!has l x && (!won seats q l && won seats q (l ++ [x]))) = true then kT seats.length l.length else 0) nd, if_pos hi]
  have e2 : won seats q (l ++ [(m : Int)]) = decide (q ≤ sOf seats m + S seats l) := by
    unfold won
    rw [S_app, show S seats [(m : Int)] = sOf seats m by rw [S_cons]; simp [S], Int.add_comm]
  rw [e2]
  unfold piv no
  cases has l (m : Int) <;> cases won seats q l <;> simp
theorem tp_snoc (l : List Int) (x : Int) : PV.tup (l.map .int ++ [.int x]) = tp (l ++ [x]) := by simp [tp]
end Sw
end

section
set_option maxHeartbeats 4000000
/-! all sequences: whom they win with first -/
namespace Sw
open PySem Ev Lots Cn
def nextRows (n : Nat) (row : List Int) : List (List Int) := ((List.range n).filter fun (i : Nat) => !has row i).map fun (i : Nat) => row ++ [(i : Int)]
def rowsN (n : Nat) : Nat → List (List Int)
  | 0 => [[]]
  | k + 1 => (rowsN n k).flatMap (nextRows n)
/-- a row of so many -/
structure Row (n k : Nat) (r : List Int) : Prop where
  len : r.length = k
  nd : r.Nodup
  b : ∀ x ∈ r, 0 ≤ x ∧ x < n
theorem row_of {n : Nat} : ∀ {k : Nat} {r : List Int}, r ∈ rowsN n k → Row n k r
  | 0, r, h => by
    simp only [rowsN, List.mem_singleton] at h
    subst h
    exact ⟨rfl, List.nodup_nil, fun x hx => absurd hx (by simp)⟩
  | k + 1, r, h => by
    obtain ⟨s, hs, hr⟩ := List.mem_flatMap.mp h
    obtain ⟨i, hi, rfl⟩ := List.mem_map.mp hr
    obtain ⟨h1, h2⟩ := List.mem_filter.mp hi
    have R := row_of hs
    have hi := List.mem_range.mp h1
    have hn : (i : Int) ∉ s := fun z => by rw [has_iff.mpr z] at h2; exact nomatch h2
    refine ⟨by simp [R.len], ?_, fun x hx => ?_⟩
    · rw [List.nodup_append]
      exact ⟨R.nd, by simp, fun a ha b hb => by rw [List.mem_singleton.mp hb]; exact fun z => hn (by rw [← z]; exact ha)⟩
    · rcases List.mem_append.mp hx with z | z
      · exact R.b x z
      · rw [List.mem_singleton.mp z]; omega
theorem rows_len (n : Nat) : ∀ k, (rowsN n k).length ≤ n ^ k
  | 0 => by simp [rowsN]
  | k + 1 => by
    have ih := rows_len n k
    rw [rowsN, List.length_flatMap, Nat.pow_succ]
    have : ∀ ls : List (List Int), (ls.map fun r => (nextRows n r).length).sum ≤ ls.length * n := by
      intro ls
      induction ls with
      | nil => simp
      | cons r ls ih =>
        have h1 : (nextRows n r).length ≤ n := by
          unfold nextRows
          rw [List.length_map]
          exact Nat.le_trans (List.length_filter_le _ _) (by simp)
        rw [List.map_cons, List.sum_cons, List.length_cons, Nat.add_mul]
        omega
    exact Nat.le_trans (this _) (Nat.mul_le_mul_right n ih)
/-- sorted -/
def srt (l : List Int) : List Int := l.foldr ins []
theorem srt_ok {n : Nat} : ∀ {l : List Int}, l.Nodup → (∀ x ∈ l, 0 ≤ x ∧ x < n) → Lot n (srt l) ∧ (srt l).Perm l
  | [], _, _ => ⟨⟨.nil, fun x h => absurd h (by simp [srt])⟩, .refl _⟩
  | x :: l, hd, hb => by
    obtain ⟨h1, h2⟩ := List.nodup_cons.mp hd
    obtain ⟨a, b⟩ := srt_ok h2 fun y hy => hb y (List.mem_cons_of_mem _ hy)
    have hx := hb x List.mem_cons_self
    have hn : x ∉ srt l := fun z => h1 (b.mem_iff.mp z)
    exact ⟨ins_lot a hx.1 hx.2, (ins_perm a hn).trans (b.cons x)⟩
def heads (n : Nat) (i : Int) : List (List Int) := (rowsN n n).map fun r => srt (r.take (r.idxOf i))
/-- how often -/
def cntL {α : Type} [DecidableEq α] (T : α) (xs : List α) : Nat := xs.count T
def okN (n : Nat) : Bool := (rowsN n n).all (fun r => (full n).all fun i => has r i) && (full n).all fun i => ((F n).filter (no i)).all (fun T => decide ((cntL T (heads n i) : Int) = kT n T.length))
theorem ok5 : okN 1 = true ∧ okN 2 = true ∧ okN 3 = true ∧ okN 4 = true ∧ okN 5 = true := by decide +kernel
theorem ok_of {n : Nat} (h1 : 1 ≤ n) (h5 : n ≤ 5) : okN n = true := by
  have : n = 1 ∨ n = 2 ∨ n = 3 ∨ n = 4 ∨ n = 5 := by omega
  obtain ⟨a, b, c, d, e⟩ := ok5
  rcases this with rfl | rfl | rfl | rfl | rfl
  · exact a
  · exact b
  · exact c
  · exact d
  · exact e
theorem sum_oneG {α : Type} [DecidableEq α] {j : α} (H : α → Int) : ∀ {l : List α}, l.Nodup → (l.map fun x => if x = j then H x else 0).sum = if j ∈ l then H j else 0
  | [], _ => rfl
  | x :: l, hd => by
    obtain ⟨h1, h2⟩ := List.nodup_cons.mp hd
    rw [List.map_cons, List.sum_cons, sum_oneG H h2]
    by_cases e : x = j
    · subst e
      rw [if_pos rfl, if_neg h1, if_pos List.mem_cons_self]; omega
    · rw [if_neg e, Int.zero_add]
      by_cases hj : j ∈ l
      · rw [if_pos hj, if_pos (List.mem_cons_of_mem _ hj)]
      · rw [if_neg hj, if_neg fun z => (List.mem_cons.mp z).elim (fun y => e y.symm) hj]
theorem sum_count {α : Type} [DecidableEq α] {dom : List α} (nd : dom.Nodup) (φ : α → Int) : ∀ {xs : List α}, (∀ x ∈ xs, x ∈ dom) → (xs.map φ).sum = (dom.map fun T => (cntL T xs : Int) * φ T).sum
  | [], _ => by simp [cntL, sum_map_zero]
  | x :: xs, h => by
    rw [List.map_cons, List.sum_cons, sum_count nd φ fun y hy => h y (List.mem_cons_of_mem _ hy)]
    have e : (dom.map fun T => (cntL T (x :: xs) : Int) * φ T) = dom.map fun T => (cntL T xs : Int) * φ T + if T = x then φ T else 0 := by
      refine List.map_congr_left fun T _ => ?_
      unfold cntL
      rw [List.count_cons]
      by_cases z : T = x
      · subst z
        simp only [beq_self_eq_true, if_true]
        rw [Int.natCast_add, Int.add_mul]; simp
      · have : (x == T) = false := by
          rw [beq_eq_false_iff_ne]; exact Ne.symm z
        rw [this, if_neg z]; simp
    rw [e, sum_map_add, sum_oneG φ nd, if_pos (h x List.mem_cons_self)]
    omega
theorem F_nodup : ∀ n, (F n).Nodup
  | 0 => by simp [F]
  | n + 1 => by
    rw [F, List.nodup_append]
    refine ⟨F_nodup n, ?_, fun a ha b hb => ?_⟩
    · rw [List.Nodup, List.pairwise_map]
      exact (F_nodup n).imp fun h z => h (List.append_cancel_right z)
    · obtain ⟨m, hm, rfl⟩ := List.mem_map.mp hb
      intro z
      have := (F_mem.mp ha).2 n (by rw [z]; simp)
      omega
/-- the first place at which a row wins -/
def firstAt (seats : List Int) (q : Int) (n : Nat) (r : List Int) : Option Nat := (List.range n).find? fun p => won seats q (r.take (p + 1))
theorem take_S {seats r : List Int} {p : Nat} (h : p < r.length) : S seats (r.take (p + 1)) = S seats (r.take p) + sOf seats r[p] := by
  rw [List.take_succ_eq_append_getElem h, S_app]
  congr 1
  rw [S_cons]
  simp [S]
theorem first_iff {seats r : List Int} {q : Int} {n p : Nat} (h0 : ∀ x ∈ seats, 0 ≤ x) (h1 : 1 ≤ q) (hl : r.length = n) (hp : p < n) : firstAt seats q n r = some p ↔ piv seats q (r.getD p 0) (r.take p) = true := by
  have e1 := take_S (seats := seats) (r := r) (p := p) (by omega)
  have e2 : r.getD p 0 = r[p] := by rw [List.getD, List.getElem?_eq_getElem (by omega)]; rfl
  unfold firstAt
  rw [List.find?_range_eq_some]
  unfold piv won
  rw [e2]
  simp only [decide_eq_true_eq, Bool.and_eq_true, Bool.not_eq_true', decide_eq_false_iff_not, List.mem_range]
  constructor
  · rintro ⟨a, _, b⟩
    refine ⟨?_, by omega⟩
    cases p with
    | zero =>
      show ¬ q ≤ S seats []
      show ¬ q ≤ 0
      omega
    | succ p =>
      exact b p (by omega)
  · rintro ⟨a, b⟩
    refine ⟨by omega, hp, fun j hj => ?_⟩
    have : S seats (r.take (j + 1)) ≤ S seats (r.take p) := S_mono h0 (List.take_sublist_take_left (by omega))
    omega
/-- whom a row wins with -/
def pvI (seats : List Int) (q : Int) (n : Nat) (r : List Int) : Int := r.getD ((firstAt seats q n r).getD 0) 0
theorem first_some {seats r : List Int} {q : Int} (h : Cou seats q) (hr : Row seats.length seats.length r) (hall : ∀ i ∈ full seats.length, i ∈ r) : ∃ p, p < seats.length ∧ firstAt seats q seats.length r = some p := by
  have hn := h.n1
  cases e : firstAt seats q seats.length r with
  | some p =>
    unfold firstAt at e
    exact ⟨p, List.mem_range.mp (List.mem_of_find?_eq_some e), rfl⟩
  | none =>
    exfalso
    unfold firstAt at e
    have := List.find?_eq_none.mp e (seats.length - 1) (List.mem_range.mpr (by omega))
    have e2 : seats.length - 1 + 1 = seats.length := by omega
    rw [e2, List.take_of_length_le (by rw [hr.len]; exact Nat.le_refl _)] at this
    have p : r.Perm (full seats.length) := (List.perm_ext_iff_of_nodup hr.nd (full_lot _).nodup).mpr fun x => ⟨fun hx => by
      have := hr.b x hx
      exact List.mem_map.mpr ⟨x.toNat, List.mem_range.mpr (by omega), by omega⟩, hall x⟩
    unfold won at this
    rw [S_perm p, S_full, decide_eq_true_eq] at this
    exact this h.q2
theorem all_in {n : Nat} (ok : okN n = true) {r : List Int} (hr : r ∈ rowsN n n) : ∀ i ∈ full n, i ∈ r := by
  unfold okN at ok
  rw [Bool.and_eq_true, List.all_eq_true] at ok
  intro i hi
  exact has_iff.mp (List.all_eq_true.mp (ok.1 r hr) i hi)
/-- the turning parts by all sequences -/
theorem rows_tu {seats : List Int} {q : Int} (h : Cou seats q) (h5 : seats.length ≤ 5) : adds (List.replicate seats.length 0) ((rowsN seats.length seats.length).map fun r => (pvI seats q seats.length r, 1)) = tuL seats q := by
  have ok := ok_of h.n1 h5
  have h0 : ∀ x ∈ seats, 0 ≤ x := fun x hx => (h.s x hx).1
  have place : ∀ r ∈ rowsN seats.length seats.length, ∃ p, p < seats.length ∧ firstAt seats q seats.length r = some p ∧ pvI seats q seats.length r = r.getD p 0 ∧ r.getD p 0 ∈ r := fun r hr => by
    have R := row_of hr
    obtain ⟨p, hp, e⟩ := first_some h R (all_in ok hr)
    refine ⟨p, hp, e, by unfold pvI; rw [e]; rfl, ?_⟩
    rw [List.getD, List.getElem?_eq_getElem (by rw [R.len]; exact hp)]
    exact List.getElem_mem _
  rw [adds_zero _ fun p hp => by
    obtain ⟨r, hr, rfl⟩ := List.mem_map.mp hp
    obtain ⟨p, _, _, e, m⟩ := place r hr
    show 0 ≤ pvI seats q seats.length r
    rw [e]
    exact ((row_of hr).b _ m).1]
  unfold tuL kL
  refine List.map_congr_left fun i hi => ?_
  have hL : ∀ r ∈ rowsN seats.length seats.length, (if pvI seats q seats.length r = i then (1 : Int) else 0) = if piv seats q i (srt (r.take (r.idxOf i))) = true then 1 else 0 := fun r hr => by
    have R := row_of hr
    obtain ⟨p, hp, e, e2, m⟩ := place r hr
    have hir := all_in ok hr i hi
    have hx : r.idxOf i < r.length := List.idxOf_lt_length_iff.mpr hir
    have hg : r.getD (r.idxOf i) 0 = i := by
      rw [List.getD, List.getElem?_eq_getElem hx]
      exact List.getElem_idxOf hx
    have e3 : piv seats q i (srt (r.take (r.idxOf i))) = piv seats q i (r.take (r.idxOf i)) := by
      have := (srt_ok (n := seats.length) (l := r.take (r.idxOf i)) (R.nd.sublist (List.take_sublist _ _)) fun x hx => R.b x (List.mem_of_mem_take hx)).2
      unfold piv won
      rw [S_perm this]
    have e4 := first_iff (p := r.idxOf i) h0 h.q1 R.len (by rw [← R.len]; exact hx)
    rw [hg] at e4
    rw [e3, e2]
    by_cases z : piv seats q i (r.take (r.idxOf i)) = true
    · have := e4.mpr z
      rw [e] at this
      cases this
      rw [if_pos z, if_pos hg]
    · rw [if_neg z, if_neg fun y => ?_]
      apply z
      apply e4.mp
      rw [e]
      congr 1
      have hpl : p < r.length := by rw [R.len]; exact hp
      rw [List.getD, List.getElem?_eq_getElem hpl] at y
      have y : r[p] = i := y
      rw [← y]
      exact (List.Nodup.idxOf_getElem R.nd p hpl).symm
  rw [List.map_map]
  show ((rowsN seats.length seats.length).map fun r => if pvI seats q seats.length r = i then (1 : Int) else 0).sum = _
  rw [List.map_congr_left hL]
  have hd : ∀ T ∈ heads seats.length i, T ∈ (F seats.length).filter (no i) := fun T hT => by
    obtain ⟨r, hr, rfl⟩ := List.mem_map.mp hT
    have R := row_of hr
    obtain ⟨a, b⟩ := srt_ok (n := seats.length) (l := r.take (r.idxOf i)) (R.nd.sublist (List.take_sublist _ _)) fun x hx => R.b x (List.mem_of_mem_take hx)
    refine List.mem_filter.mpr ⟨F_mem.mpr a, no_iff.mpr fun z => ?_⟩
    have z := b.mem_iff.mp z
    obtain ⟨k, hk, ek⟩ := List.getElem_of_mem z
    rw [List.getElem_take] at ek
    have hk2 : k < r.idxOf i ∧ k < r.length := by rw [List.length_take] at hk; omega
    have := List.Nodup.idxOf_getElem R.nd k hk2.2
    rw [ek] at this
    omega
  have e5 := sum_count ((F_nodup seats.length).filter (no i)) (fun T => if piv seats q i T = true then (1 : Int) else 0) hd
  unfold heads at e5
  rw [List.map_map] at e5
  refine Eq.trans e5 ?_
  unfold Tk Z
  rw [sum_filter]
  congr 1
  refine List.map_congr_left fun T hT => ?_
  cases hn : no i T with
  | false => simp
  | true =>
    have ok2 := (Bool.and_eq_true _ _ ▸ ok : _ ∧ _).2
    have := List.all_eq_true.mp (List.all_eq_true.mp ok2 i hi) T (List.mem_filter.mpr ⟨hT, hn⟩)
    rw [decide_eq_true_eq] at this
    unfold heads at this
    rw [this]
    cases piv seats q i T <;> simp
theorem rows_fct {n : Nat} (h1 : 1 ≤ n) (h5 : n ≤ 5) : ((rowsN n n).length : Int) = fct n := by
  have : n = 1 ∨ n = 2 ∨ n = 3 ∨ n = 4 ∨ n = 5 := by omega
  rcases this with rfl | rfl | rfl | rfl | rfl <;> decide +kernel
end Sw
end

section
set_option maxHeartbeats 4000000
/-! shares as fractions -/
namespace Sw
open PySem Ev Lots Cn
/-- top, bottom of a share -/
def tops (n : Nat) (x : Int) : Int := (x.toNat : Int) / (cm x.toNat (fct n).toNat : Nat)
def bots (n : Nat) (x : Int) : Int := ((fct n).toNat : Int) / (cm x.toNat (fct n).toNat : Nat)
theorem shr_eq (n : Nat) (x : Int) : shr n x = .tup [.int (tops n x), .int (bots n x)] := rfl
structure Frac (n : Nat) (x g : Int) : Prop where
  g0 : 0 < g
  t : x = g * tops n x
  b : fct n = g * bots n x
  b0 : 0 < bots n x
  t0 : 0 ≤ tops n x
theorem frac_of (n : Nat) {x : Int} (h : 0 ≤ x) : Frac n x (cm x.toNat (fct n).toNat : Nat) := by
  have hf := fct_pos n
  have hc := cm_le x.toNat (fct n).toNat (by omega)
  have hg : cm x.toNat (fct n).toNat = Nat.gcd x.toNat (fct n).toNat := by
    unfold cm
    have : 0 < Nat.gcd x.toNat (fct n).toNat := Nat.gcd_pos_of_pos_right _ (by omega)
    omega
  have d1 : ((cm x.toNat (fct n).toNat : Nat) : Int) ∣ (x.toNat : Int) := by rw [hg]; exact Int.natCast_dvd_natCast.mpr (Nat.gcd_dvd_left _ _)
  have d2 : ((cm x.toNat (fct n).toNat : Nat) : Int) ∣ ((fct n).toNat : Int) := by rw [hg]; exact Int.natCast_dvd_natCast.mpr (Nat.gcd_dvd_right _ _)
  have e2 : fct n = (cm x.toNat (fct n).toNat : Nat) * bots n x := by
    unfold bots
    rw [Int.mul_ediv_cancel' d2]; omega
  refine ⟨by omega, ?_, e2, ?_, ?_⟩
  · unfold tops
    rw [Int.mul_ediv_cancel' d1]; omega
  · refine Int.pos_of_mul_pos_right (a := ((cm x.toNat (fct n).toNat : Nat) : Int)) ?_ (by omega)
    omega
  · exact Int.ediv_nonneg (by omega) (by omega)
theorem le_mul_pos {g x : Int} (hg : 0 < g) (hx : 0 ≤ x) : x ≤ g * x := by
  have : 1 * x ≤ g * x := Int.mul_le_mul_of_nonneg_right (by omega) hx
  omega
theorem Frac.small {n : Nat} {x g : Int} (f : Frac n x g) (hx : x ≤ 40320) (hn : n ≤ 8) : tops n x ≤ 40320 ∧ bots n x ≤ 40320 := by
  have h1 := le_mul_pos f.g0 f.t0
  have h2 := le_mul_pos f.g0 (Int.le_of_lt f.b0)
  have := fct_le hn
  have := f.t
  have := f.b
  omega
theorem shr_not_less {n : Nat} {x y : Int} (hx : 0 ≤ x) (hy : 0 ≤ y) (h : y ≤ x) : ¬ (tops n x * bots n y < tops n y * bots n x) := by
  have a := frac_of n hx
  have b := frac_of n hy
  generalize (cm x.toNat (fct n).toNat : Nat) = g at a
  generalize (cm y.toNat (fct n).toNat : Nat) = k at b
  intro z
  have hN := fct_pos n
  have e1 : (g : Int) * k * (tops n x * bots n y) = x * fct n := by
    rw [show (g : Int) * k * (tops n x * bots n y) = (g * tops n x) * (k * bots n y) by ac_rfl, ← a.t, ← b.b]
  have e2 : (g : Int) * k * (tops n y * bots n x) = y * fct n := by
    rw [show (g : Int) * k * (tops n y * bots n x) = (k * tops n y) * (g * bots n x) by ac_rfl, ← b.t, ← a.b]
  have p : (0 : Int) < g * k := Int.mul_pos a.g0 b.g0
  have h1 := Int.mul_lt_mul_of_pos_left z p
  rw [e1, e2] at h1
  have h2 : y * fct n ≤ x * fct n := Int.mul_le_mul_of_nonneg_right h (by omega)
  omega
theorem shr_one {n : Nat} {x : Int} (hx : 0 ≤ x) : tops n x * (fct n / bots n x) = x := by
  have a := frac_of n hx
  generalize (cm x.toNat (fct n).toNat : Nat) = g at a
  have e : fct n / bots n x = g := by
    conv => lhs; rw [a.b]
    exact Int.mul_ediv_cancel _ (by have := a.b0; omega)
  rw [e, Int.mul_comm]
  exact a.t.symm
theorem kL_get {seats : List Int} {q : Int} {k : Nat → Int} {i : Nat} (h : i < seats.length) : (kL seats q k).getD i 0 = Tk seats q k i := by
  unfold kL full
  rw [List.getD, List.getElem?_map, List.getElem?_map, List.getElem?_range h]; rfl
theorem kL_at {seats : List Int} {q : Int} {k : Nat → Int} {i : Nat} (h : i < seats.length) : (kL seats q k)[i]? = some (Tk seats q k i) := by
  unfold kL full
  rw [List.getElem?_map, List.getElem?_map, List.getElem?_range h]; rfl
theorem kL_len {seats : List Int} {q : Int} {k : Nat → Int} : (kL seats q k).length = seats.length := by simp [kL, full]
theorem sum_set {xs : List Int} {i : Nat} {v : Int} (h : i < xs.length) : (xs.set i v).sum = xs.sum - xs[i] + v := by
  induction xs generalizing i with
  | nil => simp at h
  | cons x xs ih =>
    cases i with
    | zero => simp only [List.set_cons_zero, List.sum_cons, List.getElem_cons_zero]; omega
    | succ i =>
      have := ih (i := i) (by simpa using h)
      simp only [List.set_cons_succ, List.sum_cons, List.getElem_cons_succ, this]; omega
theorem Cou.more {seats : List Int} {q v : Int} {i : Nat} (h : Cou seats q) (hi : i < seats.length) (h1 : seats[i] ≤ v) (h2 : v ≤ 200) : Cou (seats.set i v) q := by
  have h0 := h.s seats[i] (List.getElem_mem hi)
  refine ⟨by rw [List.length_set]; exact h.n1, by rw [List.length_set]; exact h.n8, fun x hx => ?_, h.q1, ?_⟩
  · rcases List.mem_or_eq_of_mem_set hx with z | z
    · exact h.s x z
    · omega
  · rw [sum_set hi]
    have := h.q2
    omega
theorem tup_set (seats : List Int) (i : Nat) (v : Int) (h : i < seats.length) : PV.tup ((seats.map PV.int).take i ++ [.int v] ++ (seats.map PV.int).drop (i + 1)) = tp (seats.set i v) := by
  rw [List.set_eq_take_append_cons_drop, if_pos h, ← List.map_take, ← List.map_drop]
  simp [tp]
def shD (n : Nat) (x : Int) : PyData := .tuple [.int (tops n x), .int (bots n x)]
theorem tk_nn {seats : List Int} {q i : Int} {n : Nat} : 0 ≤ Tk seats q (kT n) i := Tk_pos fun n => kT_pos _ _
theorem sw_bound {seats : List Int} {q : Int} (h : Cou seats q) {x : Int} (hx : x ∈ swL seats q) : 0 ≤ x ∧ x ≤ 256 := by
  obtain ⟨i, _, rfl⟩ := List.mem_map.mp hx
  refine ⟨Tk_pos fun _ => by decide, ?_⟩
  unfold Tk
  have h1 : Z seats.length (fun l => if no i l = true ∧ piv seats q i l = true then (1 : Int) else 0) ≤ Z seats.length fun _ => 1 := Z_le fun l _ => by split <;> decide
  have h2 : Z seats.length (fun _ => 1) = 2 ^ seats.length := by
    unfold Z
    have : ∀ ls : List (List Int), (ls.map fun _ => (1 : Int)).sum = ls.length := by
      intro ls
      induction ls with
      | nil => rfl
      | cons _ ls ih => rw [List.map_cons, List.sum_cons, ih, List.length_cons]; omega
    rw [this, F_len]; simp
  have h3 : 2 ^ seats.length ≤ 2 ^ 8 := Nat.pow_le_pow_right (by decide) h.n8
  have h4 : ((2 : Int) ^ seats.length) = ((2 ^ seats.length : Nat) : Int) := by simp
  rw [h2, h4] at h1
  exact Int.le_trans h1 (by omega)
open Wp in
theorem sD_tu {seats : List Int} {q : Int} (h : Cou seats q) {k : Nat} : ShD (8 * (82 + 1)) (k + 2) (.list ((tuL seats q).map (shD seats.length))) := by
  refine sd_list (sa_map (w := 82) (fun x hx => ?_) (by unfold tuL; rw [kL_len]; exact h.n8))
  obtain ⟨x0, x1, n0, n1⟩ := tu_bound h hx
  have f := frac_of seats.length x0
  have := f.small x1 h.n8
  have := f.t0
  have := f.b0
  exact sd_tuple (sa_cons (sd_int (by omega)) (sa_cons (sd_int (by omega)) sa_nil))
open Wp in
theorem sD_sw {seats : List Int} {q : Int} (h : Cou seats q) {k : Nat} : ShD (8 * (40 + 1)) (k + 1) (.list ((swL seats q).map .int)) := by
  refine sd_list (sa_map (w := 40) (fun x hx => ?_) (by unfold swL; rw [kL_len]; exact h.n8))
  have := sw_bound h hx
  exact sd_int (by omega)
open Wp in
theorem da_tu {n : Nat} (xs : List Int) : DaA (xs.map (shr n)) (xs.map (shD n)) := dd_map fun x _ => da_tup (dd_cons da_int (dd_cons da_int dd_nil))
open Wp in
theorem da_ints (xs : List Int) : DaA (xs.map .int) (xs.map .int) := dd_map fun x _ => da_int
open Wp in
theorem as_tu {n : Nat} (c : Cs) (xs : List Int) : As c (.lst (xs.map (shr n))) (.list (xs.map (shD n))) := as_lst (aa_map fun x _ => as_tup (aa_cons as_int (aa_cons as_int aa_nil)))
end Sw
end

section
set_option maxHeartbeats 0
namespace K92
open PySem PySem.Spec PyProof.Rows L2 Ev
/-! ### the defs, told in the core language -/
abbrev b_law : CB := (.cons (.par 1 2 (.call 1 [0, 1] (.cons (.var 0) (.cons (.cst (.int 0)) .nil)) .nil) (.call 1 [0, 1] (.cons (.var 0) (.cons (.cst (.int 1)) .nil)) .nil)) (.cons (.ret (.and (.call 2 [0, 1, 2] (.cons (.var 1) (.cons (.call 29 [0, 1] (.cons (.var 1) (.cons (.cst (.int 5)) .nil)) .nil) (.cons (.cst (.bl true)) .nil))) .nil) (.call 2 [0, 1, 2] (.cons (.var 2) (.cons (.call 29 [0, 1] (.cons (.var 2) (.cons (.cst (.int 7)) .nil)) .nil) (.cons (.cst (.bl false)) .nil))) .nil))) .nil))
def f_law : FnI := ⟨"law", ["script"], ["script", "pot", "late"], b_law, [(1, [], [0])]⟩
abbrev b__law_pot : CB := (.cons (.asg (.name 2) (.ite (.cmp .Lt (.var 1) (.blt .len false (.cons (.var 0) .nil))) (.blt .abs false (.cons (.idx (.var 0) (.var 1)) .nil)) (.bin .Add false (.bin .Add false (.bin .Mult false (.cst (.int 2417)) (.var 1)) (.cst (.int 1667))) (.bin .Mod false (.blt .int false (.cons (.blt .sum false (.cons (.slc false (.var 0) .none (.some (.cst (.int 1)))) .nil)) .nil)) (.cst (.int 1000003)))))) (.cons (.ret (.lst true (.cons (.blt .max2 false (.cons (.cst (.int 0)) (.cons (.bin .Sub false (.var 2) (.bin .Pow false (.cst (.int 10)) (.cst (.int 18)))) .nil))) (.cons (.bin .Add false (.bin .Mod false (.blt .int false (.cons (.bin .Add false (.bin .Add false (.bin .Mult false (.bin .Mod false (.blt .int false (.cons (.var 2) .nil)) (.cst (.int 2147483549))) (.cst (.int 40253))) (.bin .Mult false (.cst (.int 8731)) (.var 1))) (.cst (.int 71))) .nil)) (.cst (.int 2147483563))) (.cst (.int 1))) .nil)))) .nil))
def f__law_pot : FnI := ⟨"_law_pot", ["script", "k"], ["script", "k", "cell"], b__law_pot, [(2, [], [0, 1])]⟩
abbrev b__law_right : CB := (.cons (.par 6 7 (.blt .repr false (.cons (.var 1) .nil)) (.ite (.var 2) (.call 22 [0] (.cons (.var 1) .nil) .nil) (.call 25 [0] (.cons (.var 1) .nil) .nil))) (.cons (.par 8 9 (.call 5 [0] (.cons (.var 1) .nil) .nil) (.call 8 [0] (.cons (.var 1) .nil) .nil)) (.cons (.ite (.cmp .NotEq (.blt .repr false (.cons (.lst false (.cons (.var 9) (.cons (.call 8 [0] .nil (.cons "council" (.var 1) .nil)) (.cons (.call 27 [0] (.cons (.var 1) .nil) .nil) (.cons (.call 27 [0] .nil (.cons "council" (.var 1) .nil)) .nil))))) .nil)) (.blt .repr false (.cons (.lst false (.cons (.var 7) (.cons (.var 7) (.cons (.var 8) (.cons (.var 8) .nil))))) .nil))) (.cons (.ret (.cst (.bl false))) .nil) .nil) (.cons (.app (.var 9) (.cst (.non))) (.cons (.ite (.cmp .NotEq (.blt .repr false (.cons (.call 8 [0] (.cons (.var 1) .nil) .nil) .nil)) (.blt .repr false (.cons (.var 7) .nil))) (.cons (.ret (.cst (.bl false))) .nil) .nil) (.cons (.asg (.name 3) (.call 3 [0] (.cons (.blt .len false (.cons (.idx (.var 1) (.cst (.int 1))) .nil)) .nil) .nil)) (.cons (.ite (.cmp .NotEq (.blt .sum false (.cons (.comp false (.bin .Mult false (.var 12) (.bin .FloorDiv false (.var 3) (.var 13))) (.tup (.cons (.name 12) (.cons (.name 13) .nil))) (.seq (.var 7)) .none [("top", 12), ("bottom", 13)]) .nil)) (.var 3)) (.cons (.ret (.cst (.bl false))) .nil) .nil) (.cons (.loop (.name 4) (.rng (.cons (.blt .len false (.cons (.idx (.var 1) (.cst (.int 1))) .nil)) .nil)) (.cons (.loop (.name 10) (.rng (.cons (.blt .len false (.cons (.idx (.var 1) (.cst (.int 1))) .nil)) .nil)) (.cons (.ite (.and (.cmp .GtE (.idx (.idx (.var 1) (.cst (.int 1))) (.var 4)) (.idx (.idx (.var 1) (.cst (.int 1))) (.var 10))) (.or (.cmp .Lt (.idx (.var 8) (.var 4)) (.idx (.var 8) (.var 10))) (.call 26 [0, 1] (.cons (.idx (.var 7) (.var 4)) (.cons (.idx (.var 7) (.var 10)) .nil)) .nil))) (.cons (.ret (.cst (.bl false))) .nil) .nil) .nil)) .nil)) (.cons (.asg (.name 5) (.call 4 [0, 1] (.cons (.var 0) (.cons (.blt .len false (.cons (.idx (.var 1) (.cst (.int 1))) .nil)) .nil)) .nil)) (.cons (.ite (.cmp .Lt (.idx (.idx (.var 1) (.cst (.int 1))) (.var 5)) (.cst (.int 200))) (.cons (.asg (.name 11) (.tup (.cons (.cst (.str "council")) (.cons (.bin .Add false (.bin .Add false (.slc false (.idx (.var 1) (.cst (.int 1))) .none (.some (.var 5))) (.tup (.cons (.bin .Add false (.bin .Add false (.idx (.idx (.var 1) (.cst (.int 1))) (.var 5)) (.cst (.int 1))) (.call 4 [0, 1] (.cons (.var 0) (.cons (.bin .Sub false (.cst (.int 200)) (.idx (.idx (.var 1) (.cst (.int 1))) (.var 5))) .nil)) .nil)) .nil))) (.slc false (.idx (.var 1) (.cst (.int 1))) (.some (.bin .Add false (.var 5) (.cst (.int 1)))) .none)) (.cons (.idx (.var 1) (.cst (.int 2))) .nil))))) (.cons (.ite (.or (.cmp .Lt (.idx (.call 27 [0] (.cons (.var 11) .nil) .nil) (.var 5)) (.idx (.var 8) (.var 5))) (.call 26 [0, 1] (.cons (.idx (.call 8 [0] (.cons (.var 11) .nil) .nil) (.var 5)) (.cons (.idx (.var 7) (.var 5)) .nil)) .nil)) (.cons (.ret (.cst (.bl false))) .nil) .nil) .nil)) .nil) (.cons (.ret (.cmp .Eq (.blt .repr false (.cons (.var 1) .nil)) (.var 6))) .nil)))))))))))
def f__law_right : FnI := ⟨"_law_right", ["pot", "council", "is_small"], ["pot", "council", "is_small", "whole", "one", "at", "shown", "due", "counts", "parts", "late", "more", "top", "bottom"], b__law_right, [(3, [], [0, 1, 2])]⟩
abbrev b__law_factorial : CB := (.cons (.asg (.name 1) (.cst (.int 1))) (.cons (.loop (.name 2) (.rng (.cons (.var 0) .nil)) (.cons (.asg (.name 1) (.bin .Mult false (.var 1) (.bin .Add false (.var 2) (.cst (.int 1))))) .nil)) (.cons (.ret (.var 1)) .nil)))
def f__law_factorial : FnI := ⟨"_law_factorial", ["many"], ["many", "found", "one"], b__law_factorial, [(1, [], [0])]⟩
abbrev b__law_draw : CB := (.cons (.ite (.cmp .Gt (.idx (.var 0) (.cst (.int 0))) (.cst (.int 0))) (.cons (.asg (.tup (.cons (.sub (.var 0) (.cst (.int 0))) (.cons (.name 2) .nil))) (.blt .divmod false (.cons (.idx (.var 0) (.cst (.int 0))) (.cons (.var 1) .nil)))) (.cons (.ret (.var 2)) .nil)) .nil) (.cons (.asg (.sub (.var 0) (.cst (.int 1))) (.bin .Mod false (.blt .int false (.cons (.bin .Add false (.bin .Mult false (.idx (.var 0) (.cst (.int 1))) (.cst (.int 40692))) (.cst (.int 8731))) .nil)) (.cst (.int 2147483587)))) (.cons (.ret (.bin .Mod false (.blt .int false (.cons (.bin .FloorDiv false (.bin .Mod false (.blt .int false (.cons (.bin .Mult false (.idx (.var 0) (.cst (.int 1))) (.idx (.var 0) (.cst (.int 1)))) .nil)) (.cst (.int 2147483549))) (.cst (.int 43))) .nil)) (.var 1))) .nil)))
def f__law_draw : FnI := ⟨"_law_draw", ["pot", "size"], ["pot", "size", "digit"], b__law_draw, [(2, [], [0, 1])]⟩
abbrev b__law_swings : CB := (.cons (.asg (.name 1) (.bin .Mult true (.lst false (.cons (.cst (.int 0)) .nil)) (.blt .len false (.cons (.idx (.var 0) (.cst (.int 1))) .nil)))) (.cons (.loop (.name 2) (.seq (.call 6 [0] (.cons (.blt .len false (.cons (.idx (.var 0) (.cst (.int 1))) .nil)) .nil) .nil)) (.cons (.loop (.name 3) (.seq (.var 2)) (.cons (.ite (.and (.call 7 [0, 1] (.cons (.var 0) (.cons (.var 2) .nil)) .nil) (.not (.call 7 [0, 1] (.cons (.var 0) (.cons (.blt .tuple false (.cons (.comp false (.var 4) (.name 4) (.seq (.var 2)) (.some (.cmp .NotEq (.var 4) (.var 3))) [("late", 4)]) .nil)) .nil)) .nil))) (.cons (.asg (.sub (.var 1) (.var 3)) (.bin .Add false (.idx (.var 1) (.var 3)) (.cst (.int 1)))) .nil) .nil) .nil)) .nil)) (.cons (.ret (.var 1)) .nil)))
def f__law_swings : FnI := ⟨"_law_swings", ["council"], ["council", "found", "lot", "one", "late"], b__law_swings, [(1, [], [0])]⟩
abbrev b__law_lots : CB := (.cons (.asg (.name 1) (.lst false (.cons (.tup .nil) .nil))) (.cons (.loop (.name 2) (.rng (.cons (.var 0) .nil)) (.cons (.asg (.name 1) (.bin .Add false (.var 1) (.comp false (.bin .Add false (.var 3) (.tup (.cons (.var 2) .nil))) (.name 3) (.seq (.var 1)) .none [("lot", 3)]))) .nil)) (.cons (.ret (.blt .sorted false (.cons (.var 1) .nil))) .nil)))
def f__law_lots : FnI := ⟨"_law_lots", ["many"], ["many", "found", "one", "lot"], b__law_lots, [(1, [], [0])]⟩
abbrev b__law_wins : CB := (.cons (.ret (.cmp .GtE (.blt .sum false (.cons (.comp false (.idx (.idx (.var 0) (.cst (.int 1))) (.var 2)) (.name 2) (.seq (.var 1)) .none [("one", 2)]) .nil)) (.idx (.var 0) (.cst (.int 2))))) .nil)
def f__law_wins : FnI := ⟨"_law_wins", ["council", "lot"], ["council", "lot", "one"], b__law_wins, [(2, [], [0, 1])]⟩
abbrev b_turning_shares : CB := (.cons (.drop (.call 9 [0] (.cons (.var 0) .nil) .nil)) (.cons (.asg (.name 1) (.call 14 [0] (.cons (.blt .len false (.cons (.idx (.var 0) (.cst (.int 1))) .nil)) .nil) .nil)) (.cons (.ret (.comp true (.call 15 [0, 1] (.cons (.var 2) (.cons (.var 1) .nil)) .nil) (.name 2) (.seq (.call 17 [0] (.cons (.var 0) .nil) .nil)) .none [("one", 2)])) .nil)))
def f_turning_shares : FnI := ⟨"turning_shares", ["council"], ["council", "many", "one"], b_turning_shares, [(0, ["council"], [0]), (1, [], [0])]⟩
abbrev b_want_council : CB := (.cons (.ite (.not (.call 10 [0] (.cons (.var 0) .nil) .nil)) (.cons (.never) .nil) .nil) .nil)
def f_want_council : FnI := ⟨"want_council", ["council"], ["council"], b_want_council, [(1, [], [0])]⟩
abbrev b_is_council_any : CB := (.cons (.ite (.or (.not (.call 13 [0, 1] (.cons (.var 0) (.cons (.cst (.int 3)) .nil)) .nil)) (.or (.not (.isi (.idx (.var 0) (.cst (.int 0))) ["str"] false)) (.cmp .NotEq (.idx (.var 0) (.cst (.int 0))) (.glo "COUNCIL" (.str "council"))))) (.cons (.ret (.cst (.bl false))) .nil) .nil) (.cons (.ite (.or (.not (.isi (.idx (.var 0) (.cst (.int 1))) ["tuple"] false)) (.not (.chain .LtE .LtE (.cst (.int 1)) (.blt .len false (.cons (.idx (.var 0) (.cst (.int 1))) .nil)) (.glo "MOST_LISTS" (.int 8))))) (.cons (.ret (.cst (.bl false))) .nil) .nil) (.cons (.ite (.not (.blt .all false (.cons (.comp false (.call 11 [0, 1, 2] (.cons (.var 1) (.cons (.cst (.int 0)) (.cons (.glo "MOST_SEATS" (.int 200)) .nil))) .nil) (.name 1) (.seq (.idx (.var 0) (.cst (.int 1)))) .none [("one", 1)]) .nil))) (.cons (.ret (.cst (.bl false))) .nil) .nil) (.cons (.ret (.call 11 [0, 1, 2] (.cons (.idx (.var 0) (.cst (.int 2))) (.cons (.cst (.int 1)) (.cons (.blt .sum false (.cons (.idx (.var 0) (.cst (.int 1))) .nil)) .nil))) .nil)) .nil))))
def f_is_council_any : FnI := ⟨"is_council_any", ["value"], ["value", "one"], b_is_council_any, [(1, [], [0])]⟩
abbrev b_is_within : CB := (.cons (.ret (.and (.call 12 [0] (.cons (.var 0) .nil) .nil) (.chain .LtE .LtE (.var 1) (.var 0) (.var 2)))) .nil)
def f_is_within : FnI := ⟨"is_within", ["value", "least", "most"], ["value", "least", "most"], b_is_within, [(3, [], [0, 1, 2])]⟩
abbrev b_is_integer : CB := (.cons (.ret (.and (.isi (.var 0) ["int"] false) (.not (.isi (.var 0) ["bool"] false)))) .nil)
def f_is_integer : FnI := ⟨"is_integer", ["value"], ["value"], b_is_integer, [(1, [], [0])]⟩
abbrev b_is_tuple : CB := (.cons (.ret (.and (.isi (.var 0) ["tuple"] false) (.cmp .Eq (.blt .len false (.cons (.var 0) .nil)) (.var 1)))) .nil)
def f_is_tuple : FnI := ⟨"is_tuple", ["value", "many"], ["value", "many"], b_is_tuple, [(2, [], [0, 1])]⟩
abbrev b_sequences_of : CB := (.cons (.asg (.name 1) (.cst (.int 1))) (.cons (.loop (.name 2) (.rng (.cons (.var 0) .nil)) (.cons (.asg (.name 1) (.bin .Mult false (.var 1) (.bin .Add false (.var 2) (.cst (.int 1))))) .nil)) (.cons (.ret (.var 1)) .nil)))
def f_sequences_of : FnI := ⟨"sequences_of", ["many"], ["many", "found", "one"], b_sequences_of, [(1, [], [0])]⟩
abbrev b_lowest : CB := (.cons (.asg (.name 2) (.call 16 [0, 1] (.cons (.blt .abs false (.cons (.var 0) .nil)) (.cons (.var 1) .nil)) .nil)) (.cons (.ret (.tup (.cons (.bin .FloorDiv false (.var 0) (.var 2)) (.cons (.bin .FloorDiv false (.var 1) (.var 2)) .nil)))) .nil))
def f_lowest : FnI := ⟨"lowest", ["top", "bottom"], ["top", "bottom", "many"], b_lowest, [(2, [], [0, 1])]⟩
abbrev b_common : CB := (.cons (.while (.cmp .Gt (.var 1) (.cst (.int 0))) (.cons (.par 0 1 (.var 1) (.bin .Mod false (.blt .int false (.cons (.var 0) .nil)) (.var 1))) .nil)) (.cons (.ret (.blt .max2 false (.cons (.cst (.int 1)) (.cons (.var 0) .nil)))) .nil))
def f_common : FnI := ⟨"common", ["near", "far"], ["near", "far"], b_common, [(2, [], [0, 1])]⟩
abbrev b_turning_of : CB := (.cons (.par 2 3 (.blt .len false (.cons (.idx (.var 0) (.cst (.int 1))) .nil)) (.bin .Mult true (.lst false (.cons (.cst (.int 0)) .nil)) (.blt .len false (.cons (.idx (.var 0) (.cst (.int 1))) .nil)))) (.cons (.loop (.name 1) (.seq (.call 18 [0] (.cons (.var 0) .nil) .nil)) (.cons (.loop (.tup (.cons (.name 4) (.cons (.name 5) .nil))) (.enm (.var 1)) (.cons (.ite (.not (.call 20 [0, 1] (.cons (.var 0) (.cons (.bin .Add false (.slc false (.var 1) .none (.some (.var 4))) (.slc false (.var 1) (.some (.bin .Add false (.var 4) (.cst (.int 1)))) .none)) .nil)) .nil)) (.cons (.asg (.sub (.var 3) (.var 5)) (.bin .Add false (.idx (.var 3) (.var 5)) (.bin .Mult false (.call 14 [0] (.cons (.bin .Sub false (.blt .len false (.cons (.var 1) .nil)) (.cst (.int 1))) .nil) .nil) (.call 14 [0] (.cons (.bin .Sub false (.var 2) (.blt .len false (.cons (.var 1) .nil))) .nil) .nil)))) .nil) .nil) .nil)) .nil)) (.cons (.ret (.var 3)) .nil)))
def f_turning_of : FnI := ⟨"turning_of", ["council"], ["council", "lot", "many", "found", "at", "one"], b_turning_of, [(1, [], [0])]⟩
abbrev b_won_lots : CB := (.cons (.ret (.comp true (.var 1) (.name 1) (.seq (.call 19 [0] (.cons (.blt .len false (.cons (.idx (.var 0) (.cst (.int 1))) .nil)) .nil) .nil)) (.some (.call 20 [0, 1] (.cons (.var 0) (.cons (.var 1) .nil)) .nil)) [("lot", 1)])) .nil)
def f_won_lots : FnI := ⟨"won_lots", ["council"], ["council", "lot"], b_won_lots, [(1, [], [0])]⟩
abbrev b_all_lots : CB := (.cons (.asg (.name 1) (.lst false (.cons (.tup .nil) .nil))) (.cons (.loop (.name 2) (.rng (.cons (.var 0) .nil)) (.cons (.asg (.name 1) (.bin .Add false (.var 1) (.comp false (.bin .Add false (.var 3) (.tup (.cons (.var 2) .nil))) (.name 3) (.seq (.var 1)) .none [("lot", 3)]))) .nil)) (.cons (.ret (.blt .sorted false (.cons (.var 1) .nil))) .nil)))
def f_all_lots : FnI := ⟨"all_lots", ["many"], ["many", "found", "one", "lot"], b_all_lots, [(1, [], [0])]⟩
abbrev b_is_won : CB := (.cons (.ret (.cmp .GtE (.call 21 [0, 1] (.cons (.var 0) (.cons (.var 1) .nil)) .nil) (.idx (.var 0) (.cst (.int 2))))) .nil)
def f_is_won : FnI := ⟨"is_won", ["council", "lot"], ["council", "lot"], b_is_won, [(2, [], [0, 1])]⟩
abbrev b_seats_of : CB := (.cons (.ret (.blt .sum false (.cons (.comp false (.idx (.idx (.var 0) (.cst (.int 1))) (.var 2)) (.name 2) (.seq (.var 1)) .none [("one", 2)]) .nil))) .nil)
def f_seats_of : FnI := ⟨"seats_of", ["council", "lot"], ["council", "lot", "one"], b_seats_of, [(2, [], [0, 1])]⟩
abbrev b__law_turned : CB := (.cons (.asg (.tup (.cons (.name 4) (.cons (.name 5) .nil))) (.tup (.cons (.blt .len false (.cons (.idx (.var 0) (.cst (.int 1))) .nil)) (.cons (.lst false (.cons (.tup .nil) .nil)) .nil)))) (.cons (.loop (.name 1) (.rng (.cons (.var 4) .nil)) (.cons (.asg (.name 6) (.lst true .nil)) (.cons (.loop (.name 3) (.seq (.var 5)) (.cons (.ext (.var 6) (.comp false (.bin .Add false (.var 3) (.tup (.cons (.var 8) .nil))) (.name 8) (.rng (.cons (.var 4) .nil)) (.some (.cmp .NotIn (.var 8) (.var 3))) [("one", 8)])) .nil)) (.cons (.asg (.name 5) (.var 6)) .nil)))) (.cons (.asg (.name 2) (.bin .Mult true (.lst false (.cons (.cst (.int 0)) .nil)) (.var 4))) (.cons (.loop (.name 3) (.seq (.var 5)) (.cons (.asg (.name 7) (.idx (.comp false (.var 9) (.name 9) (.rng (.cons (.var 4) .nil)) (.some (.call 7 [0, 1] (.cons (.var 0) (.cons (.slc false (.var 3) .none (.some (.bin .Add false (.var 9) (.cst (.int 1))))) .nil)) .nil)) [("place", 9)]) (.cst (.int 0)))) (.cons (.asg (.sub (.var 2) (.idx (.var 3) (.var 7))) (.bin .Add false (.idx (.var 2) (.idx (.var 3) (.var 7))) (.cst (.int 1)))) .nil))) (.cons (.ret (.comp false (.call 23 [0, 1] (.cons (.var 8) (.cons (.blt .len false (.cons (.var 5) .nil)) .nil)) .nil) (.name 8) (.seq (.var 2)) .none [("one", 8)])) .nil)))))
def f__law_turned : FnI := ⟨"_law_turned", ["council"], ["council", "turn", "found", "row", "many", "rows", "longer", "at", "one", "place"], b__law_turned, [(1, [], [0])]⟩
abbrev b__law_lowest : CB := (.cons (.asg (.name 2) (.call 24 [0, 1] (.cons (.var 0) (.cons (.var 1) .nil)) .nil)) (.cons (.ret (.tup (.cons (.bin .FloorDiv false (.var 0) (.var 2)) (.cons (.bin .FloorDiv false (.var 1) (.var 2)) .nil)))) .nil))
def f__law_lowest : FnI := ⟨"_law_lowest", ["top", "bottom"], ["top", "bottom", "many"], b__law_lowest, [(2, [], [0, 1])]⟩
abbrev b__law_divisor : CB := (.cons (.while (.cmp .Gt (.var 1) (.cst (.int 0))) (.cons (.par 0 1 (.var 1) (.bin .Mod false (.blt .int false (.cons (.var 0) .nil)) (.var 1))) .nil)) (.cons (.ret (.blt .max2 false (.cons (.cst (.int 1)) (.cons (.var 0) .nil)))) .nil))
def f__law_divisor : FnI := ⟨"_law_divisor", ["near", "far"], ["near", "far"], b__law_divisor, [(2, [], [0, 1])]⟩
abbrev b__law_by_lots : CB := (.cons (.asg (.name 1) (.blt .len false (.cons (.idx (.var 0) (.cst (.int 1))) .nil))) (.cons (.asg (.name 2) (.bin .Mult true (.lst false (.cons (.cst (.int 0)) .nil)) (.var 1))) (.cons (.loop (.name 3) (.seq (.call 6 [0] (.cons (.var 1) .nil) .nil)) (.cons (.loop (.name 4) (.rng (.cons (.var 1) .nil)) (.cons (.ite (.and (.cmp .NotIn (.var 4) (.var 3)) (.and (.not (.call 7 [0, 1] (.cons (.var 0) (.cons (.var 3) .nil)) .nil)) (.call 7 [0, 1] (.cons (.var 0) (.cons (.bin .Add false (.var 3) (.tup (.cons (.var 4) .nil))) .nil)) .nil))) (.cons (.asg (.sub (.var 2) (.var 4)) (.bin .Add false (.idx (.var 2) (.var 4)) (.bin .Mult false (.call 3 [0] (.cons (.blt .len false (.cons (.var 3) .nil)) .nil) .nil) (.call 3 [0] (.cons (.bin .Sub false (.bin .Sub false (.var 1) (.blt .len false (.cons (.var 3) .nil))) (.cst (.int 1))) .nil) .nil)))) .nil) .nil) .nil)) .nil)) (.cons (.ret (.comp false (.call 23 [0, 1] (.cons (.var 4) (.cons (.call 3 [0] (.cons (.var 1) .nil) .nil) .nil)) .nil) (.name 4) (.seq (.var 2)) .none [("one", 4)])) .nil))))
def f__law_by_lots : FnI := ⟨"_law_by_lots", ["council"], ["council", "many", "found", "lot", "one"], b__law_by_lots, [(1, [], [0])]⟩
abbrev b__law_less : CB := (.cons (.ret (.cmp .Lt (.bin .Mult false (.idx (.var 0) (.cst (.int 0))) (.idx (.var 1) (.cst (.int 1)))) (.bin .Mult false (.idx (.var 1) (.cst (.int 0))) (.idx (.var 0) (.cst (.int 1)))))) .nil)
def f__law_less : FnI := ⟨"_law_less", ["near", "far"], ["near", "far"], b__law_less, [(2, [], [0, 1])]⟩
abbrev b_swings : CB := (.cons (.drop (.call 9 [0] (.cons (.var 0) .nil) .nil)) (.cons (.ret (.call 28 [0] (.cons (.var 0) .nil) .nil)) .nil))
def f_swings : FnI := ⟨"swings", ["council"], ["council"], b_swings, [(0, ["council"], [0]), (1, [], [0])]⟩
abbrev b_swings_of : CB := (.cons (.asg (.name 1) (.bin .Mult true (.lst false (.cons (.cst (.int 0)) .nil)) (.blt .len false (.cons (.idx (.var 0) (.cst (.int 1))) .nil)))) (.cons (.loop (.name 2) (.seq (.call 18 [0] (.cons (.var 0) .nil) .nil)) (.cons (.loop (.tup (.cons (.name 3) (.cons (.name 4) .nil))) (.enm (.var 2)) (.cons (.asg (.sub (.var 1) (.var 4)) (.bin .Add false (.idx (.var 1) (.var 4)) (.ite (.call 20 [0, 1] (.cons (.var 0) (.cons (.bin .Add false (.slc false (.var 2) .none (.some (.var 3))) (.slc false (.var 2) (.some (.bin .Add false (.var 3) (.cst (.int 1)))) .none)) .nil)) .nil) (.cst (.int 0)) (.cst (.int 1))))) .nil)) .nil)) (.cons (.ret (.var 1)) .nil)))
def f_swings_of : FnI := ⟨"swings_of", ["council"], ["council", "found", "lot", "at", "one"], b_swings_of, [(1, [], [0])]⟩
abbrev b__law_council : CB := (.cons (.asg (.tup (.cons (.name 5) (.cons (.name 6) .nil))) (.tup (.cons (.bin .Add false (.cst (.int 1)) (.call 4 [0, 1] (.cons (.var 0) (.cons (.var 1) .nil)) .nil)) (.cons (.call 30 [0, 1] (.cons (.var 0) (.cons (.lst false (.cons (.cst (.int 2)) (.cons (.cst (.int 4)) (.cons (.cst (.int 6)) (.cons (.cst (.int 60)) .nil))))) .nil)) .nil) .nil)))) (.cons (.asg (.name 2) (.comp true (.call 4 [0, 1] (.cons (.var 0) (.cons (.var 6) .nil)) .nil) (.name 7) (.rng (.cons (.var 5) .nil)) .none [("turn", 7)])) (.cons (.ite (.cmp .Eq (.blt .sum false (.cons (.var 2) .nil)) (.cst (.int 0))) (.cons (.asg (.sub (.var 2) (.call 4 [0, 1] (.cons (.var 0) (.cons (.var 5) .nil)) .nil)) (.bin .Add false (.cst (.int 1)) (.call 4 [0, 1] (.cons (.var 0) (.cons (.cst (.int 200)) .nil)) .nil))) .nil) .nil) (.cons (.asg (.name 3) (.blt .sum false (.cons (.var 2) .nil))) (.cons (.asg (.name 4) (.call 30 [0, 1] (.cons (.var 0) (.cons (.lst false (.cons (.bin .Add false (.bin .FloorDiv false (.var 3) (.cst (.int 2))) (.cst (.int 1))) (.cons (.bin .Add false (.cst (.int 1)) (.call 4 [0, 1] (.cons (.var 0) (.cons (.var 3) .nil)) .nil)) (.cons (.var 3) (.cons (.bin .Add false (.cst (.int 1)) (.bin .FloorDiv false (.bin .Mult false (.cst (.int 2)) (.var 3)) (.cst (.int 3)))) .nil))))) .nil)) .nil)) (.cons (.ret (.tup (.cons (.cst (.str "council")) (.cons (.blt .tuple false (.cons (.var 2) .nil)) (.cons (.blt .min2 false (.cons (.var 3) (.cons (.var 4) .nil))) .nil))))) .nil))))))
def f__law_council : FnI := ⟨"_law_council", ["pot", "most"], ["pot", "most", "seats", "whole", "quota", "many", "size", "turn"], b__law_council, [(2, [], [0, 1])]⟩
abbrev b__law_pick : CB := (.cons (.ret (.idx (.var 1) (.call 4 [0, 1] (.cons (.var 0) (.cons (.blt .len false (.cons (.var 1) .nil)) .nil)) .nil))) .nil)
def f__law_pick : FnI := ⟨"_law_pick", ["pot", "some"], ["pot", "some"], b__law_pick, [(2, [], [0, 1])]⟩
def D : List FnI := [f_law, f__law_pot, f__law_right, f__law_factorial, f__law_draw, f__law_swings, f__law_lots, f__law_wins, f_turning_shares, f_want_council, f_is_council_any, f_is_within, f_is_integer, f_is_tuple, f_sequences_of, f_lowest, f_common, f_turning_of, f_won_lots, f_all_lots, f_is_won, f_seats_of, f__law_turned, f__law_lowest, f__law_divisor, f__law_by_lots, f__law_less, f_swings, f_swings_of, f__law_council, f__law_pick]
def G : GE := ⟨D, [("MOST_SEATS", .int 200), ("MOST_LISTS", .int 8), ("COUNCIL", .str "council")], ["abs", "all", "bool", "divmod", "enumerate", "int", "isinstance", "len", "max", "min", "range", "repr", "sorted", "str", "sum", "tuple"]⟩
/-! ### where they stand -/
def top (i : Nat) : Stmt := PySem.Challenge.pw_seatworks_k92_whole_swings_and_turning_s.main.body.getD i (.Pass ⟨0, 0, 0, 0⟩)
def d_law : He.DefD := ⟨("law", none), "law", "law", defArgs (top 44), defBody (top 44), defScope (top 44), [], []⟩
def d__law_pot : He.DefD := ⟨("_law_pot", none), "_law_pot", "_law_pot", defArgs (top 26), defBody (top 26), defScope (top 26), [], []⟩
def d__law_right : He.DefD := ⟨("_law_right", none), "_law_right", "_law_right", defArgs (top 43), defBody (top 43), defScope (top 43), [], []⟩
def d__law_factorial : He.DefD := ⟨("_law_factorial", none), "_law_factorial", "_law_factorial", defArgs (top 38), defBody (top 38), defScope (top 38), [], []⟩
def d__law_draw : He.DefD := ⟨("_law_draw", none), "_law_draw", "_law_draw", defArgs (top 27), defBody (top 27), defScope (top 27), [], []⟩
def d__law_swings : He.DefD := ⟨("_law_swings", none), "_law_swings", "_law_swings", defArgs (top 39), defBody (top 39), defScope (top 39), [], []⟩
def d__law_lots : He.DefD := ⟨("_law_lots", none), "_law_lots", "_law_lots", defArgs (top 30), defBody (top 30), defScope (top 30), [], []⟩
def d__law_wins : He.DefD := ⟨("_law_wins", none), "_law_wins", "_law_wins", defArgs (top 31), defBody (top 31), defScope (top 31), [], []⟩
def d_turning_shares : He.DefD := ⟨("turning_shares", none), "turning_shares", "turning_shares", defArgs (top 24), defBody (top 24), defScope (top 24), [], []⟩
def d_want_council : He.DefD := ⟨("want_council", none), "want_council", "want_council", defArgs (top 15), defBody (top 15), defScope (top 15), [], []⟩
def d_is_council_any : He.DefD := ⟨("is_council_any", none), "is_council_any", "is_council_any", defArgs (top 14), defBody (top 14), defScope (top 14), [], []⟩
def d_is_within : He.DefD := ⟨("is_within", none), "is_within", "is_within", defArgs (top 2), defBody (top 2), defScope (top 2), [], []⟩
def d_is_integer : He.DefD := ⟨("is_integer", none), "is_integer", "is_integer", defArgs (top 1), defBody (top 1), defScope (top 1), [], []⟩
def d_is_tuple : He.DefD := ⟨("is_tuple", none), "is_tuple", "is_tuple", defArgs (top 3), defBody (top 3), defScope (top 3), [], []⟩
def d_sequences_of : He.DefD := ⟨("sequences_of", none), "sequences_of", "sequences_of", defArgs (top 21), defBody (top 21), defScope (top 21), [], []⟩
def d_lowest : He.DefD := ⟨("lowest", none), "lowest", "lowest", defArgs (top 9), defBody (top 9), defScope (top 9), [], []⟩
def d_common : He.DefD := ⟨("common", none), "common", "common", defArgs (top 8), defBody (top 8), defScope (top 8), [], []⟩
def d_turning_of : He.DefD := ⟨("turning_of", none), "turning_of", "turning_of", defArgs (top 22), defBody (top 22), defScope (top 22), [], []⟩
def d_won_lots : He.DefD := ⟨("won_lots", none), "won_lots", "won_lots", defArgs (top 19), defBody (top 19), defScope (top 19), [], []⟩
def d_all_lots : He.DefD := ⟨("all_lots", none), "all_lots", "all_lots", defArgs (top 16), defBody (top 16), defScope (top 16), [], []⟩
def d_is_won : He.DefD := ⟨("is_won", none), "is_won", "is_won", defArgs (top 18), defBody (top 18), defScope (top 18), [], []⟩
def d_seats_of : He.DefD := ⟨("seats_of", none), "seats_of", "seats_of", defArgs (top 17), defBody (top 17), defScope (top 17), [], []⟩
def d__law_turned : He.DefD := ⟨("_law_turned", none), "_law_turned", "_law_turned", defArgs (top 40), defBody (top 40), defScope (top 40), [], []⟩
def d__law_lowest : He.DefD := ⟨("_law_lowest", none), "_law_lowest", "_law_lowest", defArgs (top 37), defBody (top 37), defScope (top 37), [], []⟩
def d__law_divisor : He.DefD := ⟨("_law_divisor", none), "_law_divisor", "_law_divisor", defArgs (top 36), defBody (top 36), defScope (top 36), [], []⟩
def d__law_by_lots : He.DefD := ⟨("_law_by_lots", none), "_law_by_lots", "_law_by_lots", defArgs (top 41), defBody (top 41), defScope (top 41), [], []⟩
def d__law_less : He.DefD := ⟨("_law_less", none), "_law_less", "_law_less", defArgs (top 42), defBody (top 42), defScope (top 42), [], []⟩
def d_swings : He.DefD := ⟨("swings", none), "swings", "swings", defArgs (top 23), defBody (top 23), defScope (top 23), [], []⟩
def d_swings_of : He.DefD := ⟨("swings_of", none), "swings_of", "swings_of", defArgs (top 20), defBody (top 20), defScope (top 20), [], []⟩
def d__law_council : He.DefD := ⟨("_law_council", none), "_law_council", "_law_council", defArgs (top 29), defBody (top 29), defScope (top 29), [], []⟩
def d__law_pick : He.DefD := ⟨("_law_pick", none), "_law_pick", "_law_pick", defArgs (top 28), defBody (top 28), defScope (top 28), [], []⟩
def fn : List He.DefD := [d_law, d__law_pot, d__law_right, d__law_factorial, d__law_draw, d__law_swings, d__law_lots, d__law_wins, d_turning_shares, d_want_council, d_is_council_any, d_is_within, d_is_integer, d_is_tuple, d_sequences_of, d_lowest, d_common, d_turning_of, d_won_lots, d_all_lots, d_is_won, d_seats_of, d__law_turned, d__law_lowest, d__law_divisor, d__law_by_lots, d__law_less, d_swings, d_swings_of, d__law_council, d__law_pick]
def fa : List He.Fa := [.glo "law", .glo "_law_pot", .glo "_law_right", .glo "_law_factorial", .glo "_law_draw", .glo "_law_swings", .glo "_law_lots", .glo "_law_wins", .glo "turning_shares", .glo "want_council", .glo "is_council_any", .glo "is_within", .glo "is_integer", .glo "is_tuple", .glo "sequences_of", .glo "lowest", .glo "common", .glo "turning_of", .glo "won_lots", .glo "all_lots", .glo "is_won", .glo "seats_of", .glo "_law_turned", .glo "_law_lowest", .glo "_law_divisor", .glo "_law_by_lots", .glo "_law_less", .glo "swings", .glo "swings_of", .glo "_law_council", .glo "_law_pick", .int "MOST_SEATS" 200, .int "MOST_LISTS" 8, .str "COUNCIL" "council", .free "abs", .free "all", .free "bool", .free "divmod", .free "enumerate", .free "int", .free "isinstance", .free "len", .free "max", .free "min", .free "range", .free "repr", .free "sorted", .free "str", .free "sum", .free "tuple"]
/-! ### the match -/
theorem c_law : chkB G ⟨f_law.N, defScope (top 44), none⟩ b_law (defBody (top 44)) = true := by decide +kernel
theorem s_law : FnScope f_law.N f_law.ps (defScope (top 44)) := ⟨rfl, rfl, rfl, by decide +kernel, rfl, by decide +kernel, by decide +kernel⟩
theorem c__law_pot : chkB G ⟨f__law_pot.N, defScope (top 26), none⟩ b__law_pot (defBody (top 26)) = true := by decide +kernel
theorem s__law_pot : FnScope f__law_pot.N f__law_pot.ps (defScope (top 26)) := ⟨rfl, rfl, rfl, by decide +kernel, rfl, by decide +kernel, by decide +kernel⟩
theorem c__law_right : chkB G ⟨f__law_right.N, defScope (top 43), none⟩ b__law_right (defBody (top 43)) = true := by decide +kernel
theorem s__law_right : FnScope f__law_right.N f__law_right.ps (defScope (top 43)) := ⟨rfl, rfl, rfl, by decide +kernel, rfl, by decide +kernel, by decide +kernel⟩
theorem c__law_factorial : chkB G ⟨f__law_factorial.N, defScope (top 38), none⟩ b__law_factorial (defBody (top 38)) = true := by decide +kernel
theorem s__law_factorial : FnScope f__law_factorial.N f__law_factorial.ps (defScope (top 38)) := ⟨rfl, rfl, rfl, by decide +kernel, rfl, by decide +kernel, by decide +kernel⟩
theorem c__law_draw : chkB G ⟨f__law_draw.N, defScope (top 27), none⟩ b__law_draw (defBody (top 27)) = true := by decide +kernel
theorem s__law_draw : FnScope f__law_draw.N f__law_draw.ps (defScope (top 27)) := ⟨rfl, rfl, rfl, by decide +kernel, rfl, by decide +kernel, by decide +kernel⟩
theorem c__law_swings : chkB G ⟨f__law_swings.N, defScope (top 39), none⟩ b__law_swings (defBody (top 39)) = true := by decide +kernel
theorem s__law_swings : FnScope f__law_swings.N f__law_swings.ps (defScope (top 39)) := ⟨rfl, rfl, rfl, by decide +kernel, rfl, by decide +kernel, by decide +kernel⟩
theorem c__law_lots : chkB G ⟨f__law_lots.N, defScope (top 30), none⟩ b__law_lots (defBody (top 30)) = true := by decide +kernel
theorem s__law_lots : FnScope f__law_lots.N f__law_lots.ps (defScope (top 30)) := ⟨rfl, rfl, rfl, by decide +kernel, rfl, by decide +kernel, by decide +kernel⟩
theorem c__law_wins : chkB G ⟨f__law_wins.N, defScope (top 31), none⟩ b__law_wins (defBody (top 31)) = true := by decide +kernel
theorem s__law_wins : FnScope f__law_wins.N f__law_wins.ps (defScope (top 31)) := ⟨rfl, rfl, rfl, by decide +kernel, rfl, by decide +kernel, by decide +kernel⟩
theorem c_turning_shares : chkB G ⟨f_turning_shares.N, defScope (top 24), none⟩ b_turning_shares (defBody (top 24)) = true := by decide +kernel
theorem s_turning_shares : FnScope f_turning_shares.N f_turning_shares.ps (defScope (top 24)) := ⟨rfl, rfl, rfl, by decide +kernel, rfl, by decide +kernel, by decide +kernel⟩
theorem c_want_council : chkB G ⟨f_want_council.N, defScope (top 15), none⟩ b_want_council (defBody (top 15)) = true := by decide +kernel
theorem s_want_council : FnScope f_want_council.N f_want_council.ps (defScope (top 15)) := ⟨rfl, rfl, rfl, by decide +kernel, rfl, by decide +kernel, by decide +kernel⟩
theorem c_is_council_any : chkB G ⟨f_is_council_any.N, defScope (top 14), none⟩ b_is_council_any (defBody (top 14)) = true := by decide +kernel
theorem s_is_council_any : FnScope f_is_council_any.N f_is_council_any.ps (defScope (top 14)) := ⟨rfl, rfl, rfl, by decide +kernel, rfl, by decide +kernel, by decide +kernel⟩
theorem c_is_within : chkB G ⟨f_is_within.N, defScope (top 2), none⟩ b_is_within (defBody (top 2)) = true := by decide +kernel
theorem s_is_within : FnScope f_is_within.N f_is_within.ps (defScope (top 2)) := ⟨rfl, rfl, rfl, by decide +kernel, rfl, by decide +kernel, by decide +kernel⟩
theorem c_is_integer : chkB G ⟨f_is_integer.N, defScope (top 1), none⟩ b_is_integer (defBody (top 1)) = true := by decide +kernel
theorem s_is_integer : FnScope f_is_integer.N f_is_integer.ps (defScope (top 1)) := ⟨rfl, rfl, rfl, by decide +kernel, rfl, by decide +kernel, by decide +kernel⟩
theorem c_is_tuple : chkB G ⟨f_is_tuple.N, defScope (top 3), none⟩ b_is_tuple (defBody (top 3)) = true := by decide +kernel
theorem s_is_tuple : FnScope f_is_tuple.N f_is_tuple.ps (defScope (top 3)) := ⟨rfl, rfl, rfl, by decide +kernel, rfl, by decide +kernel, by decide +kernel⟩
theorem c_sequences_of : chkB G ⟨f_sequences_of.N, defScope (top 21), none⟩ b_sequences_of (defBody (top 21)) = true := by decide +kernel
theorem s_sequences_of : FnScope f_sequences_of.N f_sequences_of.ps (defScope (top 21)) := ⟨rfl, rfl, rfl, by decide +kernel, rfl, by decide +kernel, by decide +kernel⟩
theorem c_lowest : chkB G ⟨f_lowest.N, defScope (top 9), none⟩ b_lowest (defBody (top 9)) = true := by decide +kernel
theorem s_lowest : FnScope f_lowest.N f_lowest.ps (defScope (top 9)) := ⟨rfl, rfl, rfl, by decide +kernel, rfl, by decide +kernel, by decide +kernel⟩
theorem c_common : chkB G ⟨f_common.N, defScope (top 8), none⟩ b_common (defBody (top 8)) = true := by decide +kernel
theorem s_common : FnScope f_common.N f_common.ps (defScope (top 8)) := ⟨rfl, rfl, rfl, by decide +kernel, rfl, by decide +kernel, by decide +kernel⟩
theorem c_turning_of : chkB G ⟨f_turning_of.N, defScope (top 22), none⟩ b_turning_of (defBody (top 22)) = true := by decide +kernel
theorem s_turning_of : FnScope f_turning_of.N f_turning_of.ps (defScope (top 22)) := ⟨rfl, rfl, rfl, by decide +kernel, rfl, by decide +kernel, by decide +kernel⟩
theorem c_won_lots : chkB G ⟨f_won_lots.N, defScope (top 19), none⟩ b_won_lots (defBody (top 19)) = true := by decide +kernel
theorem s_won_lots : FnScope f_won_lots.N f_won_lots.ps (defScope (top 19)) := ⟨rfl, rfl, rfl, by decide +kernel, rfl, by decide +kernel, by decide +kernel⟩
theorem c_all_lots : chkB G ⟨f_all_lots.N, defScope (top 16), none⟩ b_all_lots (defBody (top 16)) = true := by decide +kernel
theorem s_all_lots : FnScope f_all_lots.N f_all_lots.ps (defScope (top 16)) := ⟨rfl, rfl, rfl, by decide +kernel, rfl, by decide +kernel, by decide +kernel⟩
theorem c_is_won : chkB G ⟨f_is_won.N, defScope (top 18), none⟩ b_is_won (defBody (top 18)) = true := by decide +kernel
theorem s_is_won : FnScope f_is_won.N f_is_won.ps (defScope (top 18)) := ⟨rfl, rfl, rfl, by decide +kernel, rfl, by decide +kernel, by decide +kernel⟩
theorem c_seats_of : chkB G ⟨f_seats_of.N, defScope (top 17), none⟩ b_seats_of (defBody (top 17)) = true := by decide +kernel
theorem s_seats_of : FnScope f_seats_of.N f_seats_of.ps (defScope (top 17)) := ⟨rfl, rfl, rfl, by decide +kernel, rfl, by decide +kernel, by decide +kernel⟩
theorem c__law_turned : chkB G ⟨f__law_turned.N, defScope (top 40), none⟩ b__law_turned (defBody (top 40)) = true := by decide +kernel
theorem s__law_turned : FnScope f__law_turned.N f__law_turned.ps (defScope (top 40)) := ⟨rfl, rfl, rfl, by decide +kernel, rfl, by decide +kernel, by decide +kernel⟩
theorem c__law_lowest : chkB G ⟨f__law_lowest.N, defScope (top 37), none⟩ b__law_lowest (defBody (top 37)) = true := by decide +kernel
theorem s__law_lowest : FnScope f__law_lowest.N f__law_lowest.ps (defScope (top 37)) := ⟨rfl, rfl, rfl, by decide +kernel, rfl, by decide +kernel, by decide +kernel⟩
theorem c__law_divisor : chkB G ⟨f__law_divisor.N, defScope (top 36), none⟩ b__law_divisor (defBody (top 36)) = true := by decide +kernel
theorem s__law_divisor : FnScope f__law_divisor.N f__law_divisor.ps (defScope (top 36)) := ⟨rfl, rfl, rfl, by decide +kernel, rfl, by decide +kernel, by decide +kernel⟩
theorem c__law_by_lots : chkB G ⟨f__law_by_lots.N, defScope (top 41), none⟩ b__law_by_lots (defBody (top 41)) = true := by decide +kernel
theorem s__law_by_lots : FnScope f__law_by_lots.N f__law_by_lots.ps (defScope (top 41)) := ⟨rfl, rfl, rfl, by decide +kernel, rfl, by decide +kernel, by decide +kernel⟩
theorem c__law_less : chkB G ⟨f__law_less.N, defScope (top 42), none⟩ b__law_less (defBody (top 42)) = true := by decide +kernel
theorem s__law_less : FnScope f__law_less.N f__law_less.ps (defScope (top 42)) := ⟨rfl, rfl, rfl, by decide +kernel, rfl, by decide +kernel, by decide +kernel⟩
theorem c_swings : chkB G ⟨f_swings.N, defScope (top 23), none⟩ b_swings (defBody (top 23)) = true := by decide +kernel
theorem s_swings : FnScope f_swings.N f_swings.ps (defScope (top 23)) := ⟨rfl, rfl, rfl, by decide +kernel, rfl, by decide +kernel, by decide +kernel⟩
theorem c_swings_of : chkB G ⟨f_swings_of.N, defScope (top 20), none⟩ b_swings_of (defBody (top 20)) = true := by decide +kernel
theorem s_swings_of : FnScope f_swings_of.N f_swings_of.ps (defScope (top 20)) := ⟨rfl, rfl, rfl, by decide +kernel, rfl, by decide +kernel, by decide +kernel⟩
theorem c__law_council : chkB G ⟨f__law_council.N, defScope (top 29), none⟩ b__law_council (defBody (top 29)) = true := by decide +kernel
theorem s__law_council : FnScope f__law_council.N f__law_council.ps (defScope (top 29)) := ⟨rfl, rfl, rfl, by decide +kernel, rfl, by decide +kernel, by decide +kernel⟩
theorem c__law_pick : chkB G ⟨f__law_pick.N, defScope (top 28), none⟩ b__law_pick (defBody (top 28)) = true := by decide +kernel
theorem s__law_pick : FnScope f__law_pick.N f__law_pick.ps (defScope (top 28)) := ⟨rfl, rfl, rfl, by decide +kernel, rfl, by decide +kernel, by decide +kernel⟩
section
variable {K : PySem.W.Frag} {h : Heap} {mg : Str → Option Value}
theorem ok_law (X : K.In h) (Y : h.Ns mainGlobals mg) (c : He.SaysD fa fn K) : DefOk G K mg f_law := by
  obtain ⟨fd, F⟩ := c.def_ 0 (d := d_law) rfl
  refine ⟨⟨_, _, _, _, _, fd, F, He.glo_ok X Y (c.fact 0 (f := .glo "law") rfl), s_law, c_law, fun b hb => ?_⟩⟩
  simp only [f_law, List.mem_cons, List.not_mem_nil, or_false] at hb
  subst hb
  exact bindG_of F fun _ _ _ _ _ _ us ws h1 h2 => match us, ws, h1, h2 with | [_], [], _, _ => rfl
theorem ok__law_pot (X : K.In h) (Y : h.Ns mainGlobals mg) (c : He.SaysD fa fn K) : DefOk G K mg f__law_pot := by
  obtain ⟨fd, F⟩ := c.def_ 1 (d := d__law_pot) rfl
  refine ⟨⟨_, _, _, _, _, fd, F, He.glo_ok X Y (c.fact 1 (f := .glo "_law_pot") rfl), s__law_pot, c__law_pot, fun b hb => ?_⟩⟩
  simp only [f__law_pot, List.mem_cons, List.not_mem_nil, or_false] at hb
  subst hb
  exact bindG_of F fun _ _ _ _ _ _ us ws h1 h2 => match us, ws, h1, h2 with | [_, _], [], _, _ => rfl
theorem ok__law_right (X : K.In h) (Y : h.Ns mainGlobals mg) (c : He.SaysD fa fn K) : DefOk G K mg f__law_right := by
  obtain ⟨fd, F⟩ := c.def_ 2 (d := d__law_right) rfl
  refine ⟨⟨_, _, _, _, _, fd, F, He.glo_ok X Y (c.fact 2 (f := .glo "_law_right") rfl), s__law_right, c__law_right, fun b hb => ?_⟩⟩
  simp only [f__law_right, List.mem_cons, List.not_mem_nil, or_false] at hb
  subst hb
  exact bindG_of F fun _ _ _ _ _ _ us ws h1 h2 => match us, ws, h1, h2 with | [_, _, _], [], _, _ => rfl
theorem ok__law_factorial (X : K.In h) (Y : h.Ns mainGlobals mg) (c : He.SaysD fa fn K) : DefOk G K mg f__law_factorial := by
  obtain ⟨fd, F⟩ := c.def_ 3 (d := d__law_factorial) rfl
  refine ⟨⟨_, _, _, _, _, fd, F, He.glo_ok X Y (c.fact 3 (f := .glo "_law_factorial") rfl), s__law_factorial, c__law_factorial, fun b hb => ?_⟩⟩
  simp only [f__law_factorial, List.mem_cons, List.not_mem_nil, or_false] at hb
  subst hb
  exact bindG_of F fun _ _ _ _ _ _ us ws h1 h2 => match us, ws, h1, h2 with | [_], [], _, _ => rfl
theorem ok__law_draw (X : K.In h) (Y : h.Ns mainGlobals mg) (c : He.SaysD fa fn K) : DefOk G K mg f__law_draw := by
  obtain ⟨fd, F⟩ := c.def_ 4 (d := d__law_draw) rfl
  refine ⟨⟨_, _, _, _, _, fd, F, He.glo_ok X Y (c.fact 4 (f := .glo "_law_draw") rfl), s__law_draw, c__law_draw, fun b hb => ?_⟩⟩
  simp only [f__law_draw, List.mem_cons, List.not_mem_nil, or_false] at hb
  subst hb
  exact bindG_of F fun _ _ _ _ _ _ us ws h1 h2 => match us, ws, h1, h2 with | [_, _], [], _, _ => rfl
theorem ok__law_swings (X : K.In h) (Y : h.Ns mainGlobals mg) (c : He.SaysD fa fn K) : DefOk G K mg f__law_swings := by
  obtain ⟨fd, F⟩ := c.def_ 5 (d := d__law_swings) rfl
  refine ⟨⟨_, _, _, _, _, fd, F, He.glo_ok X Y (c.fact 5 (f := .glo "_law_swings") rfl), s__law_swings, c__law_swings, fun b hb => ?_⟩⟩
  simp only [f__law_swings, List.mem_cons, List.not_mem_nil, or_false] at hb
  subst hb
  exact bindG_of F fun _ _ _ _ _ _ us ws h1 h2 => match us, ws, h1, h2 with | [_], [], _, _ => rfl
theorem ok__law_lots (X : K.In h) (Y : h.Ns mainGlobals mg) (c : He.SaysD fa fn K) : DefOk G K mg f__law_lots := by
  obtain ⟨fd, F⟩ := c.def_ 6 (d := d__law_lots) rfl
  refine ⟨⟨_, _, _, _, _, fd, F, He.glo_ok X Y (c.fact 6 (f := .glo "_law_lots") rfl), s__law_lots, c__law_lots, fun b hb => ?_⟩⟩
  simp only [f__law_lots, List.mem_cons, List.not_mem_nil, or_false] at hb
  subst hb
  exact bindG_of F fun _ _ _ _ _ _ us ws h1 h2 => match us, ws, h1, h2 with | [_], [], _, _ => rfl
theorem ok__law_wins (X : K.In h) (Y : h.Ns mainGlobals mg) (c : He.SaysD fa fn K) : DefOk G K mg f__law_wins := by
  obtain ⟨fd, F⟩ := c.def_ 7 (d := d__law_wins) rfl
  refine ⟨⟨_, _, _, _, _, fd, F, He.glo_ok X Y (c.fact 7 (f := .glo "_law_wins") rfl), s__law_wins, c__law_wins, fun b hb => ?_⟩⟩
  simp only [f__law_wins, List.mem_cons, List.not_mem_nil, or_false] at hb
  subst hb
  exact bindG_of F fun _ _ _ _ _ _ us ws h1 h2 => match us, ws, h1, h2 with | [_, _], [], _, _ => rfl
theorem ok_turning_shares (X : K.In h) (Y : h.Ns mainGlobals mg) (c : He.SaysD fa fn K) : DefOk G K mg f_turning_shares := by
  obtain ⟨fd, F⟩ := c.def_ 8 (d := d_turning_shares) rfl
  refine ⟨⟨_, _, _, _, _, fd, F, He.glo_ok X Y (c.fact 8 (f := .glo "turning_shares") rfl), s_turning_shares, c_turning_shares, fun b hb => ?_⟩⟩
  simp only [f_turning_shares, List.mem_cons, List.not_mem_nil, or_false] at hb
  rcases hb with rfl | rfl
  · exact bindG_of F fun _ _ _ _ _ _ us ws h1 h2 => match us, ws, h1, h2 with | [], [_], _, _ => rfl
  · exact bindG_of F fun _ _ _ _ _ _ us ws h1 h2 => match us, ws, h1, h2 with | [_], [], _, _ => rfl
theorem ok_want_council (X : K.In h) (Y : h.Ns mainGlobals mg) (c : He.SaysD fa fn K) : DefOk G K mg f_want_council := by
  obtain ⟨fd, F⟩ := c.def_ 9 (d := d_want_council) rfl
  refine ⟨⟨_, _, _, _, _, fd, F, He.glo_ok X Y (c.fact 9 (f := .glo "want_council") rfl), s_want_council, c_want_council, fun b hb => ?_⟩⟩
  simp only [f_want_council, List.mem_cons, List.not_mem_nil, or_false] at hb
  subst hb
  exact bindG_of F fun _ _ _ _ _ _ us ws h1 h2 => match us, ws, h1, h2 with | [_], [], _, _ => rfl
theorem ok_is_council_any (X : K.In h) (Y : h.Ns mainGlobals mg) (c : He.SaysD fa fn K) : DefOk G K mg f_is_council_any := by
  obtain ⟨fd, F⟩ := c.def_ 10 (d := d_is_council_any) rfl
  refine ⟨⟨_, _, _, _, _, fd, F, He.glo_ok X Y (c.fact 10 (f := .glo "is_council_any") rfl), s_is_council_any, c_is_council_any, fun b hb => ?_⟩⟩
  simp only [f_is_council_any, List.mem_cons, List.not_mem_nil, or_false] at hb
  subst hb
  exact bindG_of F fun _ _ _ _ _ _ us ws h1 h2 => match us, ws, h1, h2 with | [_], [], _, _ => rfl
theorem ok_is_within (X : K.In h) (Y : h.Ns mainGlobals mg) (c : He.SaysD fa fn K) : DefOk G K mg f_is_within := by
  obtain ⟨fd, F⟩ := c.def_ 11 (d := d_is_within) rfl
  refine ⟨⟨_, _, _, _, _, fd, F, He.glo_ok X Y (c.fact 11 (f := .glo "is_within") rfl), s_is_within, c_is_within, fun b hb => ?_⟩⟩
  simp only [f_is_within, List.mem_cons, List.not_mem_nil, or_false] at hb
  subst hb
  exact bindG_of F fun _ _ _ _ _ _ us ws h1 h2 => match us, ws, h1, h2 with | [_, _, _], [], _, _ => rfl
theorem ok_is_integer (X : K.In h) (Y : h.Ns mainGlobals mg) (c : He.SaysD fa fn K) : DefOk G K mg f_is_integer := by
  obtain ⟨fd, F⟩ := c.def_ 12 (d := d_is_integer) rfl
  refine ⟨⟨_, _, _, _, _, fd, F, He.glo_ok X Y (c.fact 12 (f := .glo "is_integer") rfl), s_is_integer, c_is_integer, fun b hb => ?_⟩⟩
  simp only [f_is_integer, List.mem_cons, List.not_mem_nil, or_false] at hb
  subst hb
  exact bindG_of F fun _ _ _ _ _ _ us ws h1 h2 => match us, ws, h1, h2 with | [_], [], _, _ => rfl
theorem ok_is_tuple (X : K.In h) (Y : h.Ns mainGlobals mg) (c : He.SaysD fa fn K) : DefOk G K mg f_is_tuple := by
  obtain ⟨fd, F⟩ := c.def_ 13 (d := d_is_tuple) rfl
  refine ⟨⟨_, _, _, _, _, fd, F, He.glo_ok X Y (c.fact 13 (f := .glo "is_tuple") rfl), s_is_tuple, c_is_tuple, fun b hb => ?_⟩⟩
  simp only [f_is_tuple, List.mem_cons, List.not_mem_nil, or_false] at hb
  subst hb
  exact bindG_of F fun _ _ _ _ _ _ us ws h1 h2 => match us, ws, h1, h2 with | [_, _], [], _, _ => rfl
theorem ok_sequences_of (X : K.In h) (Y : h.Ns mainGlobals mg) (c : He.SaysD fa fn K) : DefOk G K mg f_sequences_of := by
  obtain ⟨fd, F⟩ := c.def_ 14 (d := d_sequences_of) rfl
  refine ⟨⟨_, _, _, _, _, fd, F, He.glo_ok X Y (c.fact 14 (f := .glo "sequences_of") rfl), s_sequences_of, c_sequences_of, fun b hb => ?_⟩⟩
  simp only [f_sequences_of, List.mem_cons, List.not_mem_nil, or_false] at hb
  subst hb
  exact bindG_of F fun _ _ _ _ _ _ us ws h1 h2 => match us, ws, h1, h2 with | [_], [], _, _ => rfl
theorem ok_lowest (X : K.In h) (Y : h.Ns mainGlobals mg) (c : He.SaysD fa fn K) : DefOk G K mg f_lowest := by
  obtain ⟨fd, F⟩ := c.def_ 15 (d := d_lowest) rfl
  refine ⟨⟨_, _, _, _, _, fd, F, He.glo_ok X Y (c.fact 15 (f := .glo "lowest") rfl), s_lowest, c_lowest, fun b hb => ?_⟩⟩
  simp only [f_lowest, List.mem_cons, List.not_mem_nil, or_false] at hb
  subst hb
  exact bindG_of F fun _ _ _ _ _ _ us ws h1 h2 => match us, ws, h1, h2 with | [_, _], [], _, _ => rfl
theorem ok_common (X : K.In h) (Y : h.Ns mainGlobals mg) (c : He.SaysD fa fn K) : DefOk G K mg f_common := by
  obtain ⟨fd, F⟩ := c.def_ 16 (d := d_common) rfl
  refine ⟨⟨_, _, _, _, _, fd, F, He.glo_ok X Y (c.fact 16 (f := .glo "common") rfl), s_common, c_common, fun b hb => ?_⟩⟩
  simp only [f_common, List.mem_cons, List.not_mem_nil, or_false] at hb
  subst hb
  exact bindG_of F fun _ _ _ _ _ _ us ws h1 h2 => match us, ws, h1, h2 with | [_, _], [], _, _ => rfl
theorem ok_turning_of (X : K.In h) (Y : h.Ns mainGlobals mg) (c : He.SaysD fa fn K) : DefOk G K mg f_turning_of := by
  obtain ⟨fd, F⟩ := c.def_ 17 (d := d_turning_of) rfl
  refine ⟨⟨_, _, _, _, _, fd, F, He.glo_ok X Y (c.fact 17 (f := .glo "turning_of") rfl), s_turning_of, c_turning_of, fun b hb => ?_⟩⟩
  simp only [f_turning_of, List.mem_cons, List.not_mem_nil, or_false] at hb
  subst hb
  exact bindG_of F fun _ _ _ _ _ _ us ws h1 h2 => match us, ws, h1, h2 with | [_], [], _, _ => rfl
theorem ok_won_lots (X : K.In h) (Y : h.Ns mainGlobals mg) (c : He.SaysD fa fn K) : DefOk G K mg f_won_lots := by
  obtain ⟨fd, F⟩ := c.def_ 18 (d := d_won_lots) rfl
  refine ⟨⟨_, _, _, _, _, fd, F, He.glo_ok X Y (c.fact 18 (f := .glo "won_lots") rfl), s_won_lots, c_won_lots, fun b hb => ?_⟩⟩
  simp only [f_won_lots, List.mem_cons, List.not_mem_nil, or_false] at hb
  subst hb
  exact bindG_of F fun _ _ _ _ _ _ us ws h1 h2 => match us, ws, h1, h2 with | [_], [], _, _ => rfl
theorem ok_all_lots (X : K.In h) (Y : h.Ns mainGlobals mg) (c : He.SaysD fa fn K) : DefOk G K mg f_all_lots := by
  obtain ⟨fd, F⟩ := c.def_ 19 (d := d_all_lots) rfl
  refine ⟨⟨_, _, _, _, _, fd, F, He.glo_ok X Y (c.fact 19 (f := .glo "all_lots") rfl), s_all_lots, c_all_lots, fun b hb => ?_⟩⟩
  simp only [f_all_lots, List.mem_cons, List.not_mem_nil, or_false] at hb
  subst hb
  exact bindG_of F fun _ _ _ _ _ _ us ws h1 h2 => match us, ws, h1, h2 with | [_], [], _, _ => rfl
theorem ok_is_won (X : K.In h) (Y : h.Ns mainGlobals mg) (c : He.SaysD fa fn K) : DefOk G K mg f_is_won := by
  obtain ⟨fd, F⟩ := c.def_ 20 (d := d_is_won) rfl
  refine ⟨⟨_, _, _, _, _, fd, F, He.glo_ok X Y (c.fact 20 (f := .glo "is_won") rfl), s_is_won, c_is_won, fun b hb => ?_⟩⟩
  simp only [f_is_won, List.mem_cons, List.not_mem_nil, or_false] at hb
  subst hb
  exact bindG_of F fun _ _ _ _ _ _ us ws h1 h2 => match us, ws, h1, h2 with | [_, _], [], _, _ => rfl
theorem ok_seats_of (X : K.In h) (Y : h.Ns mainGlobals mg) (c : He.SaysD fa fn K) : DefOk G K mg f_seats_of := by
  obtain ⟨fd, F⟩ := c.def_ 21 (d := d_seats_of) rfl
  refine ⟨⟨_, _, _, _, _, fd, F, He.glo_ok X Y (c.fact 21 (f := .glo "seats_of") rfl), s_seats_of, c_seats_of, fun b hb => ?_⟩⟩
  simp only [f_seats_of, List.mem_cons, List.not_mem_nil, or_false] at hb
  subst hb
  exact bindG_of F fun _ _ _ _ _ _ us ws h1 h2 => match us, ws, h1, h2 with | [_, _], [], _, _ => rfl
theorem ok__law_turned (X : K.In h) (Y : h.Ns mainGlobals mg) (c : He.SaysD fa fn K) : DefOk G K mg f__law_turned := by
  obtain ⟨fd, F⟩ := c.def_ 22 (d := d__law_turned) rfl
  refine ⟨⟨_, _, _, _, _, fd, F, He.glo_ok X Y (c.fact 22 (f := .glo "_law_turned") rfl), s__law_turned, c__law_turned, fun b hb => ?_⟩⟩
  simp only [f__law_turned, List.mem_cons, List.not_mem_nil, or_false] at hb
  subst hb
  exact bindG_of F fun _ _ _ _ _ _ us ws h1 h2 => match us, ws, h1, h2 with | [_], [], _, _ => rfl
theorem ok__law_lowest (X : K.In h) (Y : h.Ns mainGlobals mg) (c : He.SaysD fa fn K) : DefOk G K mg f__law_lowest := by
  obtain ⟨fd, F⟩ := c.def_ 23 (d := d__law_lowest) rfl
  refine ⟨⟨_, _, _, _, _, fd, F, He.glo_ok X Y (c.fact 23 (f := .glo "_law_lowest") rfl), s__law_lowest, c__law_lowest, fun b hb => ?_⟩⟩
  simp only [f__law_lowest, List.mem_cons, List.not_mem_nil, or_false] at hb
  subst hb
  exact bindG_of F fun _ _ _ _ _ _ us ws h1 h2 => match us, ws, h1, h2 with | [_, _], [], _, _ => rfl
theorem ok__law_divisor (X : K.In h) (Y : h.Ns mainGlobals mg) (c : He.SaysD fa fn K) : DefOk G K mg f__law_divisor := by
  obtain ⟨fd, F⟩ := c.def_ 24 (d := d__law_divisor) rfl
  refine ⟨⟨_, _, _, _, _, fd, F, He.glo_ok X Y (c.fact 24 (f := .glo "_law_divisor") rfl), s__law_divisor, c__law_divisor, fun b hb => ?_⟩⟩
  simp only [f__law_divisor, List.mem_cons, List.not_mem_nil, or_false] at hb
  subst hb
  exact bindG_of F fun _ _ _ _ _ _ us ws h1 h2 => match us, ws, h1, h2 with | [_, _], [], _, _ => rfl
theorem ok__law_by_lots (X : K.In h) (Y : h.Ns mainGlobals mg) (c : He.SaysD fa fn K) : DefOk G K mg f__law_by_lots := by
  obtain ⟨fd, F⟩ := c.def_ 25 (d := d__law_by_lots) rfl
  refine ⟨⟨_, _, _, _, _, fd, F, He.glo_ok X Y (c.fact 25 (f := .glo "_law_by_lots") rfl), s__law_by_lots, c__law_by_lots, fun b hb => ?_⟩⟩
  simp only [f__law_by_lots, List.mem_cons, List.not_mem_nil, or_false] at hb
  subst hb
  exact bindG_of F fun _ _ _ _ _ _ us ws h1 h2 => match us, ws, h1, h2 with | [_], [], _, _ => rfl
theorem ok__law_less (X : K.In h) (Y : h.Ns mainGlobals mg) (c : He.SaysD fa fn K) : DefOk G K mg f__law_less := by
  obtain ⟨fd, F⟩ := c.def_ 26 (d := d__law_less) rfl
  refine ⟨⟨_, _, _, _, _, fd, F, He.glo_ok X Y (c.fact 26 (f := .glo "_law_less") rfl), s__law_less, c__law_less, fun b hb => ?_⟩⟩
  simp only [f__law_less, List.mem_cons, List.not_mem_nil, or_false] at hb
  subst hb
  exact bindG_of F fun _ _ _ _ _ _ us ws h1 h2 => match us, ws, h1, h2 with | [_, _], [], _, _ => rfl
theorem ok_swings (X : K.In h) (Y : h.Ns mainGlobals mg) (c : He.SaysD fa fn K) : DefOk G K mg f_swings := by
  obtain ⟨fd, F⟩ := c.def_ 27 (d := d_swings) rfl
  refine ⟨⟨_, _, _, _, _, fd, F, He.glo_ok X Y (c.fact 27 (f := .glo "swings") rfl), s_swings, c_swings, fun b hb => ?_⟩⟩
  simp only [f_swings, List.mem_cons, List.not_mem_nil, or_false] at hb
  rcases hb with rfl | rfl
  · exact bindG_of F fun _ _ _ _ _ _ us ws h1 h2 => match us, ws, h1, h2 with | [], [_], _, _ => rfl
  · exact bindG_of F fun _ _ _ _ _ _ us ws h1 h2 => match us, ws, h1, h2 with | [_], [], _, _ => rfl
theorem ok_swings_of (X : K.In h) (Y : h.Ns mainGlobals mg) (c : He.SaysD fa fn K) : DefOk G K mg f_swings_of := by
  obtain ⟨fd, F⟩ := c.def_ 28 (d := d_swings_of) rfl
  refine ⟨⟨_, _, _, _, _, fd, F, He.glo_ok X Y (c.fact 28 (f := .glo "swings_of") rfl), s_swings_of, c_swings_of, fun b hb => ?_⟩⟩
  simp only [f_swings_of, List.mem_cons, List.not_mem_nil, or_false] at hb
  subst hb
  exact bindG_of F fun _ _ _ _ _ _ us ws h1 h2 => match us, ws, h1, h2 with | [_], [], _, _ => rfl
theorem ok__law_council (X : K.In h) (Y : h.Ns mainGlobals mg) (c : He.SaysD fa fn K) : DefOk G K mg f__law_council := by
  obtain ⟨fd, F⟩ := c.def_ 29 (d := d__law_council) rfl
  refine ⟨⟨_, _, _, _, _, fd, F, He.glo_ok X Y (c.fact 29 (f := .glo "_law_council") rfl), s__law_council, c__law_council, fun b hb => ?_⟩⟩
  simp only [f__law_council, List.mem_cons, List.not_mem_nil, or_false] at hb
  subst hb
  exact bindG_of F fun _ _ _ _ _ _ us ws h1 h2 => match us, ws, h1, h2 with | [_, _], [], _, _ => rfl
theorem ok__law_pick (X : K.In h) (Y : h.Ns mainGlobals mg) (c : He.SaysD fa fn K) : DefOk G K mg f__law_pick := by
  obtain ⟨fd, F⟩ := c.def_ 30 (d := d__law_pick) rfl
  refine ⟨⟨_, _, _, _, _, fd, F, He.glo_ok X Y (c.fact 30 (f := .glo "_law_pick") rfl), s__law_pick, c__law_pick, fun b hb => ?_⟩⟩
  simp only [f__law_pick, List.mem_cons, List.not_mem_nil, or_false] at hb
  subst hb
  exact bindG_of F fun _ _ _ _ _ _ us ws h1 h2 => match us, ws, h1, h2 with | [_, _], [], _, _ => rfl
theorem all_ok (X : K.In h) (Y : h.Ns mainGlobals mg) (c : He.SaysD fa fn K) : ∀ f ∈ G.D, DefOk G K mg f := by
  intro f hf
  simp only [G, D, List.mem_cons, List.not_mem_nil, or_false] at hf
  rcases hf with rfl | rfl | rfl | rfl | rfl | rfl | rfl | rfl | rfl | rfl | rfl | rfl | rfl | rfl | rfl | rfl | rfl | rfl | rfl | rfl | rfl | rfl | rfl | rfl | rfl | rfl | rfl | rfl | rfl | rfl | rfl
  · exact ok_law X Y c
  · exact ok__law_pot X Y c
  · exact ok__law_right X Y c
  · exact ok__law_factorial X Y c
  · exact ok__law_draw X Y c
  · exact ok__law_swings X Y c
  · exact ok__law_lots X Y c
  · exact ok__law_wins X Y c
  · exact ok_turning_shares X Y c
  · exact ok_want_council X Y c
  · exact ok_is_council_any X Y c
  · exact ok_is_within X Y c
  · exact ok_is_integer X Y c
  · exact ok_is_tuple X Y c
  · exact ok_sequences_of X Y c
  · exact ok_lowest X Y c
  · exact ok_common X Y c
  · exact ok_turning_of X Y c
  · exact ok_won_lots X Y c
  · exact ok_all_lots X Y c
  · exact ok_is_won X Y c
  · exact ok_seats_of X Y c
  · exact ok__law_turned X Y c
  · exact ok__law_lowest X Y c
  · exact ok__law_divisor X Y c
  · exact ok__law_by_lots X Y c
  · exact ok__law_less X Y c
  · exact ok_swings X Y c
  · exact ok_swings_of X Y c
  · exact ok__law_council X Y c
  · exact ok__law_pick X Y c
theorem con_ok (X : K.In h) (Y : h.Ns mainGlobals mg) (c : He.SaysD fa fn K) : ∀ x v, (x, v) ∈ G.con → ∃ u, mg x = some u ∧ ∃ y, RelV y u ∧ ∀ H M, VR K H M v y := by
  intro x v hv
  simp only [G, List.mem_cons, List.not_mem_nil, or_false, Prod.mk.injEq] at hv
  rcases hv with ⟨rfl, rfl⟩ | ⟨rfl, rfl⟩ | ⟨rfl, rfl⟩
  · exact let ⟨t, e⟩ := He.int_ok X Y (c.fact 31 (f := .int "MOST_SEATS" 200) rfl); ⟨_, e, .int 200, ⟨_, rfl⟩, fun _ _ => vr_int⟩
  · exact let ⟨t, e⟩ := He.int_ok X Y (c.fact 32 (f := .int "MOST_LISTS" 8) rfl); ⟨_, e, .int 8, ⟨_, rfl⟩, fun _ _ => vr_int⟩
  · exact let ⟨t, e⟩ := He.str_ok X Y (c.fact 33 (f := .str "COUNCIL" "council") rfl); ⟨_, e, .str "council", ⟨_, rfl⟩, fun _ _ => vr_str⟩
theorem bl_ok (X : K.In h) (Y : h.Ns mainGlobals mg) (c : He.SaysD fa fn K) : ∀ x ∈ G.bl, mg x = none := by
  intro x hx
  simp only [G, List.mem_cons, List.not_mem_nil, or_false] at hx
  rcases hx with rfl | rfl | rfl | rfl | rfl | rfl | rfl | rfl | rfl | rfl | rfl | rfl | rfl | rfl | rfl | rfl
  · exact He.free_ok X Y (c.fact 34 (f := .free "abs") rfl)
  · exact He.free_ok X Y (c.fact 35 (f := .free "all") rfl)
  · exact He.free_ok X Y (c.fact 36 (f := .free "bool") rfl)
  · exact He.free_ok X Y (c.fact 37 (f := .free "divmod") rfl)
  · exact He.free_ok X Y (c.fact 38 (f := .free "enumerate") rfl)
  · exact He.free_ok X Y (c.fact 39 (f := .free "int") rfl)
  · exact He.free_ok X Y (c.fact 40 (f := .free "isinstance") rfl)
  · exact He.free_ok X Y (c.fact 41 (f := .free "len") rfl)
  · exact He.free_ok X Y (c.fact 42 (f := .free "max") rfl)
  · exact He.free_ok X Y (c.fact 43 (f := .free "min") rfl)
  · exact He.free_ok X Y (c.fact 44 (f := .free "range") rfl)
  · exact He.free_ok X Y (c.fact 45 (f := .free "repr") rfl)
  · exact He.free_ok X Y (c.fact 46 (f := .free "sorted") rfl)
  · exact He.free_ok X Y (c.fact 47 (f := .free "str") rfl)
  · exact He.free_ok X Y (c.fact 48 (f := .free "sum") rfl)
  · exact He.free_ok X Y (c.fact 49 (f := .free "tuple") rfl)
end
end K92
end

section
set_option maxHeartbeats 0
namespace K92
open PySem Ev
abbrev ev (d : Nat) := evFn 100 D d
abbrev i_law : Nat := 0
theorem fn_law {d : Nat} {x0 : PV} {cs : Cs} {Q : PV → Cs → Prop} (h : Wp.WS (evB (ev d) 100 b_law [some x0, none, none] cs) (Wp.QF Q)) : Wp.WP (ev (d + 1) i_law [x0] cs) Q := Wp.w_fn (f := f_law) rfl rfl rfl h
abbrev i__law_pot : Nat := 1
theorem fn__law_pot {d : Nat} {x0 x1 : PV} {cs : Cs} {Q : PV → Cs → Prop} (h : Wp.WS (evB (ev d) 100 b__law_pot [some x0, some x1, none] cs) (Wp.QF Q)) : Wp.WP (ev (d + 1) i__law_pot [x0, x1] cs) Q := Wp.w_fn (f := f__law_pot) rfl rfl rfl h
abbrev i__law_right : Nat := 2
theorem fn__law_right {d : Nat} {x0 x1 x2 : PV} {cs : Cs} {Q : PV → Cs → Prop} (h : Wp.WS (evB (ev d) 100 b__law_right [some x0, some x1, some x2, none, none, none, none, none, none, none, none, none, none, none] cs) (Wp.QF Q)) : Wp.WP (ev (d + 1) i__law_right [x0, x1, x2] cs) Q := Wp.w_fn (f := f__law_right) rfl rfl rfl h
abbrev i__law_factorial : Nat := 3
theorem fn__law_factorial {d : Nat} {x0 : PV} {cs : Cs} {Q : PV → Cs → Prop} (h : Wp.WS (evB (ev d) 100 b__law_factorial [some x0, none, none] cs) (Wp.QF Q)) : Wp.WP (ev (d + 1) i__law_factorial [x0] cs) Q := Wp.w_fn (f := f__law_factorial) rfl rfl rfl h
abbrev i__law_draw : Nat := 4
theorem fn__law_draw {d : Nat} {x0 x1 : PV} {cs : Cs} {Q : PV → Cs → Prop} (h : Wp.WS (evB (ev d) 100 b__law_draw [some x0, some x1, none] cs) (Wp.QF Q)) : Wp.WP (ev (d + 1) i__law_draw [x0, x1] cs) Q := Wp.w_fn (f := f__law_draw) rfl rfl rfl h
abbrev i__law_swings : Nat := 5
theorem fn__law_swings {d : Nat} {x0 : PV} {cs : Cs} {Q : PV → Cs → Prop} (h : Wp.WS (evB (ev d) 100 b__law_swings [some x0, none, none, none, none] cs) (Wp.QF Q)) : Wp.WP (ev (d + 1) i__law_swings [x0] cs) Q := Wp.w_fn (f := f__law_swings) rfl rfl rfl h
abbrev i__law_lots : Nat := 6
theorem fn__law_lots {d : Nat} {x0 : PV} {cs : Cs} {Q : PV → Cs → Prop} (h : Wp.WS (evB (ev d) 100 b__law_lots [some x0, none, none, none] cs) (Wp.QF Q)) : Wp.WP (ev (d + 1) i__law_lots [x0] cs) Q := Wp.w_fn (f := f__law_lots) rfl rfl rfl h
abbrev i__law_wins : Nat := 7
theorem fn__law_wins {d : Nat} {x0 x1 : PV} {cs : Cs} {Q : PV → Cs → Prop} (h : Wp.WS (evB (ev d) 100 b__law_wins [some x0, some x1, none] cs) (Wp.QF Q)) : Wp.WP (ev (d + 1) i__law_wins [x0, x1] cs) Q := Wp.w_fn (f := f__law_wins) rfl rfl rfl h
abbrev i_turning_shares : Nat := 8
theorem fn_turning_shares {d : Nat} {x0 : PV} {cs : Cs} {Q : PV → Cs → Prop} (h : Wp.WS (evB (ev d) 100 b_turning_shares [some x0, none, none] cs) (Wp.QF Q)) : Wp.WP (ev (d + 1) i_turning_shares [x0] cs) Q := Wp.w_fn (f := f_turning_shares) rfl rfl rfl h
abbrev i_want_council : Nat := 9
theorem fn_want_council {d : Nat} {x0 : PV} {cs : Cs} {Q : PV → Cs → Prop} (h : Wp.WS (evB (ev d) 100 b_want_council [some x0] cs) (Wp.QF Q)) : Wp.WP (ev (d + 1) i_want_council [x0] cs) Q := Wp.w_fn (f := f_want_council) rfl rfl rfl h
abbrev i_is_council_any : Nat := 10
theorem fn_is_council_any {d : Nat} {x0 : PV} {cs : Cs} {Q : PV → Cs → Prop} (h : Wp.WS (evB (ev d) 100 b_is_council_any [some x0, none] cs) (Wp.QF Q)) : Wp.WP (ev (d + 1) i_is_council_any [x0] cs) Q := Wp.w_fn (f := f_is_council_any) rfl rfl rfl h
abbrev i_is_within : Nat := 11
theorem fn_is_within {d : Nat} {x0 x1 x2 : PV} {cs : Cs} {Q : PV → Cs → Prop} (h : Wp.WS (evB (ev d) 100 b_is_within [some x0, some x1, some x2] cs) (Wp.QF Q)) : Wp.WP (ev (d + 1) i_is_within [x0, x1, x2] cs) Q := Wp.w_fn (f := f_is_within) rfl rfl rfl h
abbrev i_is_integer : Nat := 12
theorem fn_is_integer {d : Nat} {x0 : PV} {cs : Cs} {Q : PV → Cs → Prop} (h : Wp.WS (evB (ev d) 100 b_is_integer [some x0] cs) (Wp.QF Q)) : Wp.WP (ev (d + 1) i_is_integer [x0] cs) Q := Wp.w_fn (f := f_is_integer) rfl rfl rfl h
abbrev i_is_tuple : Nat := 13
theorem fn_is_tuple {d : Nat} {x0 x1 : PV} {cs : Cs} {Q : PV → Cs → Prop} (h : Wp.WS (evB (ev d) 100 b_is_tuple [some x0, some x1] cs) (Wp.QF Q)) : Wp.WP (ev (d + 1) i_is_tuple [x0, x1] cs) Q := Wp.w_fn (f := f_is_tuple) rfl rfl rfl h
abbrev i_sequences_of : Nat := 14
theorem fn_sequences_of {d : Nat} {x0 : PV} {cs : Cs} {Q : PV → Cs → Prop} (h : Wp.WS (evB (ev d) 100 b_sequences_of [some x0, none, none] cs) (Wp.QF Q)) : Wp.WP (ev (d + 1) i_sequences_of [x0] cs) Q := Wp.w_fn (f := f_sequences_of) rfl rfl rfl h
abbrev i_lowest : Nat := 15
theorem fn_lowest {d : Nat} {x0 x1 : PV} {cs : Cs} {Q : PV → Cs → Prop} (h : Wp.WS (evB (ev d) 100 b_lowest [some x0, some x1, none] cs) (Wp.QF Q)) : Wp.WP (ev (d + 1) i_lowest [x0, x1] cs) Q := Wp.w_fn (f := f_lowest) rfl rfl rfl h
abbrev i_common : Nat := 16
theorem fn_common {d : Nat} {x0 x1 : PV} {cs : Cs} {Q : PV → Cs → Prop} (h : Wp.WS (evB (ev d) 100 b_common [some x0, some x1] cs) (Wp.QF Q)) : Wp.WP (ev (d + 1) i_common [x0, x1] cs) Q := Wp.w_fn (f := f_common) rfl rfl rfl h
abbrev i_turning_of : Nat := 17
theorem fn_turning_of {d : Nat} {x0 : PV} {cs : Cs} {Q : PV → Cs → Prop} (h : Wp.WS (evB (ev d) 100 b_turning_of [some x0, none, none, none, none, none] cs) (Wp.QF Q)) : Wp.WP (ev (d + 1) i_turning_of [x0] cs) Q := Wp.w_fn (f := f_turning_of) rfl rfl rfl h
abbrev i_won_lots : Nat := 18
theorem fn_won_lots {d : Nat} {x0 : PV} {cs : Cs} {Q : PV → Cs → Prop} (h : Wp.WS (evB (ev d) 100 b_won_lots [some x0, none] cs) (Wp.QF Q)) : Wp.WP (ev (d + 1) i_won_lots [x0] cs) Q := Wp.w_fn (f := f_won_lots) rfl rfl rfl h
abbrev i_all_lots : Nat := 19
theorem fn_all_lots {d : Nat} {x0 : PV} {cs : Cs} {Q : PV → Cs → Prop} (h : Wp.WS (evB (ev d) 100 b_all_lots [some x0, none, none, none] cs) (Wp.QF Q)) : Wp.WP (ev (d + 1) i_all_lots [x0] cs) Q := Wp.w_fn (f := f_all_lots) rfl rfl rfl h
abbrev i_is_won : Nat := 20
theorem fn_is_won {d : Nat} {x0 x1 : PV} {cs : Cs} {Q : PV → Cs → Prop} (h : Wp.WS (evB (ev d) 100 b_is_won [some x0, some x1] cs) (Wp.QF Q)) : Wp.WP (ev (d + 1) i_is_won [x0, x1] cs) Q := Wp.w_fn (f := f_is_won) rfl rfl rfl h
abbrev i_seats_of : Nat := 21
theorem fn_seats_of {d : Nat} {x0 x1 : PV} {cs : Cs} {Q : PV → Cs → Prop} (h : Wp.WS (evB (ev d) 100 b_seats_of [some x0, some x1, none] cs) (Wp.QF Q)) : Wp.WP (ev (d + 1) i_seats_of [x0, x1] cs) Q := Wp.w_fn (f := f_seats_of) rfl rfl rfl h
abbrev i__law_turned : Nat := 22
theorem fn__law_turned {d : Nat} {x0 : PV} {cs : Cs} {Q : PV → Cs → Prop} (h : Wp.WS (evB (ev d) 100 b__law_turned [some x0, none, none, none, none, none, none, none, none, none] cs) (Wp.QF Q)) : Wp.WP (ev (d + 1) i__law_turned [x0] cs) Q := Wp.w_fn (f := f__law_turned) rfl rfl rfl h
abbrev i__law_lowest : Nat := 23
theorem fn__law_lowest {d : Nat} {x0 x1 : PV} {cs : Cs} {Q : PV → Cs → Prop} (h : Wp.WS (evB (ev d) 100 b__law_lowest [some x0, some x1, none] cs) (Wp.QF Q)) : Wp.WP (ev (d + 1) i__law_lowest [x0, x1] cs) Q := Wp.w_fn (f := f__law_lowest) rfl rfl rfl h
abbrev i__law_divisor : Nat := 24
theorem fn__law_divisor {d : Nat} {x0 x1 : PV} {cs : Cs} {Q : PV → Cs → Prop} (h : Wp.WS (evB (ev d) 100 b__law_divisor [some x0, some x1] cs) (Wp.QF Q)) : Wp.WP (ev (d + 1) i__law_divisor [x0, x1] cs) Q := Wp.w_fn (f := f__law_divisor) rfl rfl rfl h
abbrev i__law_by_lots : Nat := 25
theorem fn__law_by_lots {d : Nat} {x0 : PV} {cs : Cs} {Q : PV → Cs → Prop} (h : Wp.WS (evB (ev d) 100 b__law_by_lots [some x0, none, none, none, none] cs) (Wp.QF Q)) : Wp.WP (ev (d + 1) i__law_by_lots [x0] cs) Q := Wp.w_fn (f := f__law_by_lots) rfl rfl rfl h
abbrev i__law_less : Nat := 26
theorem fn__law_less {d : Nat} {x0 x1 : PV} {cs : Cs} {Q : PV → Cs → Prop} (h : Wp.WS (evB (ev d) 100 b__law_less [some x0, some x1] cs) (Wp.QF Q)) : Wp.WP (ev (d + 1) i__law_less [x0, x1] cs) Q := Wp.w_fn (f := f__law_less) rfl rfl rfl h
abbrev i_swings : Nat := 27
theorem fn_swings {d : Nat} {x0 : PV} {cs : Cs} {Q : PV → Cs → Prop} (h : Wp.WS (evB (ev d) 100 b_swings [some x0] cs) (Wp.QF Q)) : Wp.WP (ev (d + 1) i_swings [x0] cs) Q := Wp.w_fn (f := f_swings) rfl rfl rfl h
abbrev i_swings_of : Nat := 28
theorem fn_swings_of {d : Nat} {x0 : PV} {cs : Cs} {Q : PV → Cs → Prop} (h : Wp.WS (evB (ev d) 100 b_swings_of [some x0, none, none, none, none] cs) (Wp.QF Q)) : Wp.WP (ev (d + 1) i_swings_of [x0] cs) Q := Wp.w_fn (f := f_swings_of) rfl rfl rfl h
abbrev i__law_council : Nat := 29
theorem fn__law_council {d : Nat} {x0 x1 : PV} {cs : Cs} {Q : PV → Cs → Prop} (h : Wp.WS (evB (ev d) 100 b__law_council [some x0, some x1, none, none, none, none, none, none] cs) (Wp.QF Q)) : Wp.WP (ev (d + 1) i__law_council [x0, x1] cs) Q := Wp.w_fn (f := f__law_council) rfl rfl rfl h
abbrev i__law_pick : Nat := 30
theorem fn__law_pick {d : Nat} {x0 x1 : PV} {cs : Cs} {Q : PV → Cs → Prop} (h : Wp.WS (evB (ev d) 100 b__law_pick [some x0, some x1] cs) (Wp.QF Q)) : Wp.WP (ev (d + 1) i__law_pick [x0, x1] cs) Q := Wp.w_fn (f := f__law_pick) rfl rfl rfl h
end K92
end

section
set_option maxHeartbeats 4000000
/-! k92: defs -/
namespace K92
open PySem Ev Lots Wp Cn
local macro_rules | `(tactic| kpf_c) => `(tactic| first | decide | omega | (refine ⟨?_, ?_⟩ <;> omega) | assumption | (simp only [List.length_map, List.length_cons, List.length_nil, List.length_append, List.length_range, List.length_singleton, List.length_take, List.length_drop, List.length_replicate] <;> omega))
local macro_rules | `(tactic| kct_strs) => `(tactic| first
  | with_reducible apply Wp.n_asg
  | with_reducible apply Wp.n_ret
  | with_reducible apply Wp.n_if
  | with_reducible apply Wp.n_drop
  | with_reducible apply Wp.n_par
  | with_reducible apply Wp.n_nil
  | with_reducible apply Wp.n_app
  | with_reducible apply Wp.n_loop
  | with_reducible apply Wp.n_while
  | with_reducible apply Wp.n_ext
  | with_reducible apply Wp.n_retN
  | with_reducible apply Wp.n_pass
  | with_reducible apply Wp.n_brk
  | with_reducible apply Wp.n_cnt
  | with_reducible apply Wp.qf_rt
  | with_reducible apply Wp.qf_nx
  | with_reducible apply Wp.qc_nx
  | with_reducible apply Wp.qc_rt
  | with_reducible apply Wp.ql_nx
  | with_reducible apply Wp.ql_rt
  | with_reducible apply Wp.qj_nx
  | with_reducible apply Wp.qj_rt
  | with_reducible apply Wp.qj_bk
  | with_reducible apply Wp.qj_ct
  | with_reducible apply Wp.qc_bk
  | with_reducible apply Wp.qc_ct
  | with_reducible apply Wp.ql_ct
  | with_reducible apply Wp.ql_bk
  | with_reducible apply Wp.st_succ
  | with_reducible apply Wp.st_zero
  | with_reducible apply Wp.g_name
  | ((with_reducible apply Wp.at_gt); (with_reducible apply Wp.g_tup); · exact rfl)
  | with_reducible apply Wp.g_cons
  | with_reducible apply Wp.g_nil
  | with_reducible apply Wp.g_sub
  | with_reducible apply Wp.l_turn)
local macro_rules | `(tactic| kcf_m) => `(tactic| first
  | ((with_reducible apply Wp.w_var); · exact rfl)
  | with_reducible apply Wp.w_cst
  | with_reducible apply Wp.w_cons
  | with_reducible apply Wp.w_nil
  | with_reducible apply Wp.w_knil
  | ((with_reducible apply Wp.pk_cons); · exact rfl)
  | with_reducible apply Wp.pk_nil
  | with_reducible apply Wp.w_call
  | with_reducible apply Wp.w_bin
  | with_reducible apply Wp.w_cmp
  | with_reducible apply Wp.w_idx
  | with_reducible apply Wp.w_blt
  | with_reducible apply Wp.w_tup
  | with_reducible apply Wp.w_lstF
  | with_reducible apply Wp.w_lstT
  | with_reducible apply Wp.w_glo
  | with_reducible apply Wp.w_and
  | with_reducible apply Wp.w_or
  | with_reducible apply Wp.w_not
  | with_reducible apply Wp.w_ite
  | with_reducible apply Wp.w_isi
  | with_reducible apply Wp.w_chain
  | with_reducible apply Wp.w_compF
  | with_reducible apply Wp.w_compT
  | with_reducible apply Wp.w_slc
  | with_reducible apply Wp.w_onone
  | with_reducible apply Wp.w_osome
  | with_reducible apply Wp.w_kcons
  | with_reducible apply Wp.w_neg
  | with_reducible apply Wp.w_rev
  | with_reducible apply Wp.w_dct0
  | ((with_reducible apply Wp.w_mv); · exact rfl; · exact rfl)
  | with_reducible apply Wp.i_seq
  | with_reducible apply Wp.i_rng
  | with_reducible apply Wp.i_enm
  | with_reducible apply Wp.i_zip
  | with_reducible apply Wp.wi_cons
  | with_reducible apply Wp.wi_nil
  | kct_strs
  | with_reducible apply Wp.if_T
  | with_reducible apply Wp.if_F
  | with_reducible apply Wp.and_T
  | with_reducible apply Wp.and_F
  | with_reducible apply Wp.or_T
  | with_reducible apply Wp.or_F
  | with_reducible apply Wp.not_T
  | with_reducible apply Wp.not_F
  | with_reducible apply Wp.not_K
  | with_reducible apply Wp.neg_K
  | with_reducible apply Wp.c_eqI
  | with_reducible apply Wp.c_neI
  | with_reducible apply Wp.c_eqS_same
  | with_reducible apply Wp.c_neS_same
  | with_reducible apply Wp.c_eqS
  | with_reducible apply Wp.c_neS
  | with_reducible apply Wp.c_lt
  | with_reducible apply Wp.c_le
  | with_reducible apply Wp.c_gt
  | with_reducible apply Wp.c_ge
  | with_reducible apply Wp.o_add
  | with_reducible apply Wp.o_sub
  | ((with_reducible apply Wp.o_mulL); · kpf_c)
  | ((with_reducible apply Wp.o_mulR); · kpf_c)
  | ((with_reducible apply Wp.o_div); · kpf_c)
  | ((with_reducible apply Wp.o_mod); · kpf_c)
  | ((with_reducible apply Wp.o_pow); · kpf_c)
  | ((with_reducible apply Wp.at_fn); got_up)
  | ((with_reducible apply Wp.at_wk); first | with_reducible apply Wp.wk_lst | with_reducible apply Wp.wk_tup | with_reducible apply Wp.wk_par)
  | ((with_reducible apply Wp.at_ix); first | with_reducible apply Wp.ix0 | with_reducible apply Wp.ix1 | with_reducible apply Wp.ix2 | with_reducible apply Wp.ix3 | with_reducible apply Wp.lx0 | with_reducible apply Wp.lx1)
  | ((with_reducible apply Wp.at_is); first | ((with_reducible apply Wp.is_T); · exact rfl) | ((with_reducible apply Wp.is_F); · exact rfl))
  | ((with_reducible apply Wp.at_rg); first | ((with_reducible apply Wp.rg_nat); · (simp only [LIM]; omega)) | ((with_reducible apply Wp.rg_int); · kpf_c))
  | ((with_reducible apply Wp.at_zp); first | with_reducible apply Wp.zp_tt | with_reducible apply Wp.zp_ll)
  | ((with_reducible apply Wp.at_en); first | with_reducible apply Wp.en_lstM | with_reducible apply Wp.en_tupM | with_reducible apply Wp.en_lst | with_reducible apply Wp.en_tup)
  | ((with_reducible apply Wp.at_slc); first
    | with_reducible apply Wp.s_frpT
    | with_reducible apply Wp.s_frpL
    | with_reducible apply Wp.s_topT
    | with_reducible apply Wp.s_topL
    | with_reducible apply Wp.s_fr1T
    | with_reducible apply Wp.s_fr1L
    | with_reducible apply Wp.s_to1T
    | with_reducible apply Wp.s_to1L
    | with_reducible apply Wp.s_to1P
    | with_reducible apply Wp.s_toT
    | with_reducible apply Wp.s_toL
    | with_reducible apply Wp.s_frT
    | with_reducible apply Wp.s_frL)
  | ((with_reducible apply Wp.at_add); first
    | ((with_reducible apply Wp.o_addT); · kpf_c)
    | ((with_reducible apply Wp.o_addL); · kpf_c)
    | ((with_reducible apply Wp.o_addLT); · kpf_c))
  | ((with_reducible apply Wp.at_mul); first
    | ((with_reducible apply Wp.o_mulT); · kpf_c)
    | ((with_reducible apply Wp.o_mulTI); · kpf_c)
    | ((with_reducible apply Wp.o_mulLN); · kpf_c)
    | ((with_reducible apply Wp.o_mulLT); · kpf_c)
    | ((with_reducible apply Wp.o_mulL1); · kpf_c))
  | ((with_reducible apply Wp.at_sum); first | with_reducible apply Wp.u_sum | with_reducible apply Wp.u_sumT | with_reducible apply Wp.u_sumM)
  | ((with_reducible apply Wp.at_len); first | with_reducible apply Wp.u_lenL | with_reducible apply Wp.u_lenT | with_reducible apply Wp.u_lenP | (apply Wp.wp_bl; · exact rfl))
  | with_reducible apply Wp.u_all
  | with_reducible apply Wp.u_any
  | ((with_reducible apply Wp.u_divmod); · kpf_c)
  | ((with_reducible first | apply Wp.at_abs | apply Wp.at_max2 | apply Wp.at_min2 | apply Wp.at_int | apply Wp.at_tuple | apply Wp.at_list); apply Wp.wp_bl; · exact rfl)
  | ((with_reducible apply Wp.at_cpM); apply Wp.cp_map; · (intro x hx; apply Wp.t_none; kcj_m; exact ⟨rfl, rfl⟩))
  | ((with_reducible apply Wp.at_cpF); apply Wp.cp_filt; · (intro x hx; kcj_m; refine ⟨rfl, rfl, fun _ => ?_⟩; kcj_m; exact ⟨rfl, rfl⟩))
  | ((with_reducible apply Wp.and_P); · (intro _; kcj_m; exact ⟨rfl, rfl⟩))
  | ((with_reducible apply Wp.or_P); · (intro _; kcj_m; exact ⟨rfl, rfl⟩))
  | ((with_reducible apply Wp.ch_P); · (intro _; kcj_m; exact ⟨rfl, rfl⟩)))
local macro_rules | `(tactic| kcj_m) => `(tactic| repeat kcf_m)
local macro_rules | `(tactic| kqd_in) => `(tactic| ((try simp only [List.append_assoc, List.cons_append, List.nil_append, List.length_append, List.length_cons, List.length_nil]); first | exact Wp.cell_in (k := 0) (by omega) rfl | exact Wp.cell_in (k := 1) (by omega) rfl | exact Wp.cell_in (k := 2) (by omega) rfl | exact Wp.cell_in (k := 3) (by omega) rfl | exact Wp.cell_in (k := 4) (by omega) rfl | exact Wp.cell_in (k := 5) (by omega) rfl | exact Wp.cell_in (k := 6) (by omega) rfl | exact Wp.cell_in (k := 7) (by omega) rfl | exact Wp.cell_in (k := 8) (by omega) rfl | exact Wp.cell_in (k := 9) (by omega) rfl | exact Wp.cell_in (k := 10) (by omega) rfl | exact Wp.cell_in (k := 11) (by omega) rfl | exact Wp.cell_in (k := 12) (by omega) rfl | exact Wp.cell_in (k := 13) (by omega) rfl | exact Wp.cell_in (k := 14) (by omega) rfl | exact Wp.cell_in (k := 15) (by omega) rfl | exact Wp.cell_in (k := 16) (by omega) rfl | exact Wp.cell_in (k := 17) (by omega) rfl | exact Wp.cell_in (k := 18) (by omega) rfl | exact Wp.cell_in (k := 19) (by omega) rfl))
variable {seats : List Int} {q : Int}
theorem e_is_integer (d : Nat) (i : Int) (cs : Cs) : ev (d + 1) i_is_integer [.int i] cs = some (.bl true, cs) := rfl
local macro_rules | `(tactic| got_up) => `(tactic| with_reducible apply Wp.wp_ok (e_is_integer _ _ _))
theorem e_is_within (d : Nat) (i lo hi : Int) (cs : Cs) : ev (d + 2) i_is_within [.int i, .int lo, .int hi] cs = some (.bl (decide (lo ≤ i) && decide (i ≤ hi)), cs) := by
  refine wp_eq (fn_is_within ?_)
  kcj_m
  exact ⟨rfl, rfl⟩
local macro_rules | `(tactic| got_up) => `(tactic| with_reducible apply Wp.wp_ok (e_is_within _ _ _ _ _))
theorem e_is_tuple (d : Nat) (vs : List PV) (k : Int) (cs : Cs) : ev (d + 1) i_is_tuple [.tup vs, .int k] cs = some (.bl (decide ((vs.length : Int) = k)), cs) := by
  refine wp_eq (fn_is_tuple ?_)
  kcj_m
  exact ⟨rfl, rfl⟩
local macro_rules | `(tactic| got_up) => `(tactic| with_reducible apply Wp.wp_ok (e_is_tuple _ _ _ _))
theorem e_is_tuple3 (d : Nat) (a b c : PV) (cs : Cs) : ev (d + 1) i_is_tuple [.tup [a, b, c], .int 3] cs = some (.bl true, cs) := by
  rw [e_is_tuple]; rfl
local macro_rules | `(tactic| got_up) => `(tactic| with_reducible apply Wp.wp_ok (e_is_tuple3 _ _ _ _ _))
theorem e_is_council_any (h : Cou seats q) (d : Nat) (cs : Cs) : ev (d + 3) i_is_council_any [co seats q] cs = some (.bl true, cs) := by
  have h1 := h.n1
  have h2 := h.n8
  refine wp_eq (fn_is_council_any ?_)
  kcj_m
  refine if_f (by simp; omega) ?_
  kcj_m
  refine if_f (by
    simp only [Bool.not_eq_false', List.all_eq_true, Bool.and_eq_true, decide_eq_true_eq]
    exact h.s) ?_
  kcj_m
  exact ⟨by rw [decide_eq_true h.q1, decide_eq_true h.q2]; rfl, rfl⟩
local macro_rules | `(tactic| got_up) => `(tactic| with_reducible apply Wp.wp_ok (e_is_council_any (by assumption) _ _))
theorem e_want_council (h : Cou seats q) (d : Nat) (cs : Cs) : ev (d + 4) i_want_council [co seats q] cs = some (.non, cs) := by
  refine wp_eq (fn_want_council ?_)
  kcj_m
  exact ⟨rfl, rfl⟩
local macro_rules | `(tactic| got_up) => `(tactic| with_reducible apply Wp.wp_ok (e_want_council (by assumption) _ _))
theorem e_all_lots (d n : Nat) (hn : n ≤ 8) (cs : Cs) : ev (d + 1) i_all_lots [.int n] cs = some (.lst ((lots n).map tp), cs) := by
  refine wp_eq (fn_all_lots ?_)
  kcj_m
  refine l_inv (fun pre sl c => c = cs ∧ ∃ o, sl = [some (.int n), some (.lst ((F pre.length).map tp)), o, none]) ⟨rfl, none, rfl⟩ (fun pre i post sl c e hi => ?_) fun sl c hi => ?_
  · obtain ⟨rfl, o, rfl⟩ := hi
    have hp := range_cut e
    subst hp
    have hin : pre.length < n := by have := congrArg List.length e; simp at this; omega
    have h2 : 2 ^ pre.length ≤ 2 ^ 8 := Nat.pow_le_pow_right (by decide) (by omega)
    kcj_m
    apply cp_map
    · intro l hl
      have hlen := (F_mem.mp hl).len
      refine t_none ?_
      kcj_m
      exact ⟨rfl, rfl⟩
    refine o_addL (by simp only [List.length_map, F_len]; omega) ?_
    kcj_m
    refine ⟨rfl, some (.int pre.length), ?_⟩
    rw [List.length_append, List.length_singleton, F, List.map_append, List.map_map]
    simp only [Function.comp_def, tp, List.map_append, List.map_cons, List.map_nil]
  · obtain ⟨rfl, o, rfl⟩ := hi
    rw [List.length_range]
    kcj_m
    refine wp_ok (sort_lots n c) ?_
    kcj_m
    exact ⟨rfl, rfl⟩
local macro_rules | `(tactic| got_up) => `(tactic| with_reducible apply Wp.wp_ok (e_all_lots _ _ (by omega) _))
theorem e_law_lots (d n : Nat) (hn : n ≤ 8) (cs : Cs) : ev (d + 1) i__law_lots [.int n] cs = some (.lst ((lots n).map tp), cs) := by
  refine wp_eq (fn__law_lots ?_)
  kcj_m
  refine l_inv (fun pre sl c => c = cs ∧ ∃ o, sl = [some (.int n), some (.lst ((F pre.length).map tp)), o, none]) ⟨rfl, none, rfl⟩ (fun pre i post sl c e hi => ?_) fun sl c hi => ?_
  · obtain ⟨rfl, o, rfl⟩ := hi
    have hp := range_cut e
    subst hp
    have hin : pre.length < n := by have := congrArg List.length e; simp at this; omega
    have h2 : 2 ^ pre.length ≤ 2 ^ 8 := Nat.pow_le_pow_right (by decide) (by omega)
    kcj_m
    apply cp_map
    · intro l hl
      have hlen := (F_mem.mp hl).len
      refine t_none ?_
      kcj_m
      exact ⟨rfl, rfl⟩
    refine o_addL (by simp only [List.length_map, F_len]; omega) ?_
    kcj_m
    refine ⟨rfl, some (.int pre.length), ?_⟩
    rw [List.length_append, List.length_singleton, F, List.map_append, List.map_map]
    simp only [Function.comp_def, tp, List.map_append, List.map_cons, List.map_nil]
  · obtain ⟨rfl, o, rfl⟩ := hi
    rw [List.length_range]
    kcj_m
    refine wp_ok (sort_lots n c) ?_
    kcj_m
    exact ⟨rfl, rfl⟩
local macro_rules | `(tactic| got_up) => `(tactic| with_reducible apply Wp.wp_ok (e_law_lots _ _ (by omega) _))
theorem e_seats_of {l : List Int} (hl : ∀ x ∈ l, 0 ≤ x ∧ x < seats.length) (d : Nat) (cs : Cs) : ev (d + 1) i_seats_of [co seats q, tp l] cs = some (.int (S seats l), cs) := by
  refine wp_eq (fn_seats_of ?_)
  kcj_m
  apply cp_map (g := fun x => .int (seats.getD x.toNat 0))
  · intro x hx
    refine t_none ?_
    kcj_m
    refine ix_ok (ixI _ seats (hl x hx).1 (hl x hx).2) ?_
    exact ⟨rfl, rfl⟩
  kcj_m
  exact ⟨rfl, rfl⟩
theorem e_is_won {l : List Int} (hl : ∀ x ∈ l, 0 ≤ x ∧ x < seats.length) (d : Nat) (cs : Cs) : ev (d + 2) i_is_won [co seats q, tp l] cs = some (.bl (won seats q l), cs) := by
  refine wp_eq (fn_is_won ?_)
  kcj_m
  refine wp_ok (e_seats_of hl _ _) ?_
  kcj_m
  exact ⟨rfl, rfl⟩
theorem e_law_wins {l : List Int} (hl : ∀ x ∈ l, 0 ≤ x ∧ x < seats.length) (d : Nat) (cs : Cs) : ev (d + 1) i__law_wins [co seats q, tp l] cs = some (.bl (won seats q l), cs) := by
  refine wp_eq (fn__law_wins ?_)
  kcj_m
  apply cp_map (g := fun x => .int (seats.getD x.toNat 0))
  · intro x hx
    refine t_none ?_
    kcj_m
    refine ix_ok (ixI _ seats (hl x hx).1 (hl x hx).2) ?_
    exact ⟨rfl, rfl⟩
  kcj_m
  exact ⟨rfl, rfl⟩
theorem e_won_lots (h : Cou seats q) (d : Nat) (cs : Cs) : ev (d + 3) i_won_lots [co seats q] cs = some (.ref cs.length, cs ++ [⟨true, (Wn seats q).map tp⟩]) := by
  have h8 := h.n8
  refine wp_eq (fn_won_lots ?_)
  kcj_m
  apply cp_filt (p := won seats q) (g := tp)
  · intro l hl
    kcj_m
    refine wp_ok (e_is_won (in_of hl) _ _) ?_
    refine ⟨rfl, rfl, fun _ => ?_⟩
    kcj_m
    exact ⟨rfl, rfl⟩
  kcj_m
  exact ⟨rfl, rfl⟩
local macro_rules | `(tactic| got_up) => `(tactic| with_reducible apply Wp.wp_ok (e_won_lots (by assumption) _ _))
theorem p_draw (d n : Nat) (k : Int) (h0 : 0 < k) (h1 : k < 1073741824) (cs : Cs) (p : Pot cs n) : WP (ev (d + 1) i__law_draw [.ref n, .int k] cs) fun v c => ∃ r, v = .int r ∧ 0 ≤ r ∧ r < k ∧ PotTo n cs c := by
  obtain ⟨a, b, hp⟩ := p
  obtain ⟨i0, i1⟩ := idx_pot hp
  refine fn__law_draw ?_
  kcj_m
  refine ix_ok i0 ?_
  kcj_m
  refine if_B (fun ha => ?_) fun ha => ?_
  · kcj_m
    refine ix_ok i0 ?_
    kcj_m
    refine sub_ok (set_pot0 hp _) ?_
    kcj_m
    exact ⟨_, rfl, Int.emod_nonneg _ (by omega), Int.emod_lt_of_pos _ h0, ⟨_, _, rfl⟩⟩
  · kcj_m
    refine ix_ok i1 ?_
    kcj_m
    refine sub_ok (set_pot1 hp _) ?_
    generalize hb : (b * 40692 + _) % 2147483587 = b'
    have hb0 : 0 ≤ b' := by rw [← hb]; exact Int.emod_nonneg _ (by decide)
    have hb1 : b' < 2147483587 := by rw [← hb]; exact Int.emod_lt_of_pos _ (by decide)
    have hp2 : (cs.set n ⟨true, [.int a, .int b']⟩)[n]? = some ⟨true, [.int a, .int b']⟩ := List.getElem?_set_self (List.getElem?_eq_some_iff.mp hp).1
    obtain ⟨_, j1⟩ := idx_pot hp2
    kcj_m
    refine ix_ok j1 ?_
    kcj_m
    refine ix_ok j1 ?_
    refine o_mulL (by omega) ?_
    kcj_m
    exact ⟨_, rfl, Int.emod_nonneg _ (by omega), Int.emod_lt_of_pos _ h0, ⟨_, _, rfl⟩⟩
theorem p_pick (d n : Nat) (vs : List PV) (h0 : vs ≠ []) (h1 : vs.length < 1000) (cs : Cs) (p : Pot cs n) : WP (ev (d + 2) i__law_pick [.ref n, .lst vs] cs) fun v c => v ∈ vs ∧ PotTo n cs c := by
  have hl : 0 < vs.length := List.length_pos_iff.mpr h0
  refine fn__law_pick ?_
  kcj_m
  refine wp_use (p_draw d n _ (by omega) (by omega) _ p) fun v c ⟨r, e, r0, r1, t⟩ => ?_
  subst e
  obtain ⟨m, rfl⟩ := Int.eq_ofNat_of_zero_le r0
  have hr : m < vs.length := by omega
  refine ix_ok (v := vs[m]) (by show L2.atI vs (m : Int) = _; rw [at_nat _ _ hr, List.getElem?_eq_getElem hr]) ?_
  kcj_m
  exact ⟨List.getElem_mem hr, t⟩
theorem p_pot (d : Nat) (ns : List Int) (k : Nat) (hk : k < 1000) (cs : Cs) : WP (ev (d + 1) i__law_pot [.par (ns.map .int), .int k] cs) fun v c => v = .ref cs.length ∧ ∃ a b : Int, c = cs ++ [⟨true, [.int a, .int b]⟩] := by
  refine fn__law_pot ?_
  kcj_m
  refine if_B (fun h => ?_) fun h => ?_
  · rw [decide_eq_true_eq] at h
    kcj_m
    refine ix_ok (v := .int (ns.getD k 0)) (by show L2.atI (ns.map PV.int) (k : Int) = _; exact atI_int (by omega)) ?_
    kcj_m
    exact ⟨rfl, _, _, rfl⟩
  · kcj_m
    rw [← List.map_take]
    kcj_m
    exact ⟨rfl, _, _, rfl⟩
theorem p_council (d n most : Nat) (h1 : 1 ≤ most) (h6 : most ≤ 7) (cs : Cs) (p : Pot cs n) : WP (ev (d + 3) i__law_council [.ref n, .int most] cs) fun v c => ∃ seats q, v = co seats q ∧ Cou seats q ∧ seats.length ≤ most ∧ Pot c n ∧ Kx n cs c := by
  refine fn__law_council ?_
  kcj_m
  refine wp_use (p_draw (d + 1) n _ (by omega) (by omega) _ p) fun v c1 ⟨r, e, r0, r1, t1⟩ => ?_
  subst e
  kcj_m
  refine wp_use (p_pick d n _ (by simp) (by simp) _ (t1.pot p)) fun v c2 ⟨hv, t2⟩ => ?_
  obtain ⟨k, rfl, k0, k1⟩ : ∃ k : Int, v = .int k ∧ 0 < k ∧ k ≤ 60 := by
    simp only [List.mem_cons, List.not_mem_nil, or_false] at hv
    rcases hv with rfl | rfl | rfl | rfl <;> exact ⟨_, rfl, by decide, by decide⟩
  have p2 := t2.pot (t1.pot p)
  have kx := ((Kx.refl n cs).pot t1).pot t2
  obtain ⟨m, rfl⟩ := Int.eq_ofNat_of_zero_le r0
  kcj_m
  refine cp_inv (fun pre ws c => ∃ rs : List Int, ws = rs.map .int ∧ rs.length = pre.length ∧ (∀ x ∈ rs, 0 ≤ x ∧ x ≤ 200) ∧ Pot c n ∧ Kx n cs c) ⟨[], rfl, rfl, fun _ q => absurd q (by simp), p2, kx⟩ (fun pre x post ws c _ I => ?_) fun ws c I => ?_
  · obtain ⟨rs, rfl, hl, hr, pc, kc⟩ := I
    refine t_none ?_
    kcj_m
    refine wp_use (p_draw (d + 1) n k k0 (by omega) _ pc) fun v c' ⟨r, e, a0, a1, t⟩ => ?_
    subst e
    refine ⟨rs ++ [r], by simp, by simp [hl], fun x hx => ?_, t.pot pc, kc.pot t⟩
    rcases List.mem_append.mp hx with z | z
    · exact hr x z
    · rw [List.mem_singleton.mp z]; omega
  obtain ⟨rs, rfl, hl, hr, pc, kc⟩ := I
  have hzc : cs.length ≤ c.length := kc.1
  have kc := kc.app [⟨true, rs.map .int⟩]
  have hl : rs.length = m + 1 := by rw [hl, List.length_range]; omega
  have hn : n < c.length := by
    obtain ⟨a, b, q⟩ := pc
    exact (List.getElem?_eq_some_iff.mp q).1
  have tw : Two n c.length (c ++ [⟨true, rs.map .int⟩]) rs := ⟨by
    obtain ⟨a, b, q⟩ := pc
    exact ⟨a, b, by rw [List.getElem?_append_left hn]; exact q⟩, hn, by simp⟩
  generalize hz : c.length = z at *
  generalize hcc : c ++ [⟨true, rs.map .int⟩] = c3 at *
  kcj_m
  refine wp_ok (tw.sum _) ?_
  kcj_m
  have h0 : ∀ r ∈ rs, 0 ≤ r := fun r q => (hr r q).1
  refine if_join (fun sl c4 => ∃ ss : List Int, sl = [some (.ref n), some (.int most), some (.ref z), none, none, some (.int (1 + m)), some (.int k), none] ∧ ss.length = m + 1 ∧ (∀ x ∈ ss, 0 ≤ x ∧ x ≤ 200) ∧ 1 ≤ ss.sum ∧ Two n z c4 ss ∧ Kx n cs c4) (if_B (fun hs => ?_) fun hs => ?_) ?_
  · rw [decide_eq_true_eq] at hs
    kcj_m
    refine wp_use (p_draw (d + 1) n _ (by decide) (by decide) _ tw.p) fun v c4 ⟨r, e, a0, a1, t⟩ => ?_
    subst e
    have tw := tw.to t
    have kc := kc.pot t
    kcj_m
    refine wp_use (p_draw (d + 1) n _ (by omega) (by omega) _ tw.p) fun v c5 ⟨i, e, i0, i1, t⟩ => ?_
    subst e
    have tw := tw.to t
    have kc := kc.pot t
    obtain ⟨j, rfl⟩ := Int.eq_ofNat_of_zero_le i0
    have hj : j < rs.length := by omega
    refine sub_ok (tw.put j hj _) ?_
    kcj_m
    refine ⟨rs.set j (1 + r), rfl, by simpa using hl, fun x hx => ?_, set_sum_pos hj h0 (by omega), tw.set, kc.set hzc⟩
    rcases List.mem_or_eq_of_mem_set hx with q | q
    · exact hr x q
    · omega
  · rw [decide_eq_false_iff_not] at hs
    kcj_m
    have := sum_nonneg h0
    exact ⟨rs, rfl, hl, hr, by omega, tw, kc⟩
  rintro _ c4 ⟨ss, rfl, sl, sr, s1, tw, kc⟩
  have hsum : ss.sum ≤ 1600 := by
    have := sum_le (hi := 200) (by decide) fun x hx => (sr x hx).2
    omega
  kcj_m
  refine wp_ok (tw.sum _) ?_
  kcj_m
  refine wp_use (p_draw (d + 1) n _ (by omega) (by omega) _ tw.p) fun v c5 ⟨r, e, a0, a1, t⟩ => ?_
  subst e
  have tw := tw.to t
  have kc := kc.pot t
  kcj_m
  refine wp_use (p_pick d n _ (by simp) (by simp) _ tw.p) fun v c6 ⟨hv, t⟩ => ?_
  have tw := tw.to t
  have kc := kc.pot t
  obtain ⟨g, rfl, g1⟩ : ∃ g : Int, v = .int g ∧ 1 ≤ g := by
    simp only [List.mem_cons, List.not_mem_nil, or_false] at hv
    rcases hv with rfl | rfl | rfl | rfl
    · exact ⟨_, rfl, by omega⟩
    · exact ⟨_, rfl, by omega⟩
    · exact ⟨_, rfl, by omega⟩
    · exact ⟨_, rfl, by omega⟩
  kcj_m
  refine wp_ok (tw.tup _) ?_
  kcj_m
  exact ⟨ss, _, rfl, ⟨by omega, by omega, sr, by split <;> omega, by split <;> omega⟩, by omega, tw.p, kc⟩

end K92
end

section
set_option maxHeartbeats 4000000
/-! k92: swings, turning parts -/
namespace K92
open PySem Ev Lots Wp Cn Sw
local macro_rules | `(tactic| kpf_c) => `(tactic| first | decide | omega | (refine ⟨?_, ?_⟩ <;> omega) | assumption | (simp only [List.length_map, List.length_cons, List.length_nil, List.length_append, List.length_range, List.length_singleton, List.length_take, List.length_drop, List.length_replicate] <;> omega))
local macro_rules | `(tactic| kct_strs) => `(tactic| first
  | with_reducible apply Wp.n_asg
  | with_reducible apply Wp.n_ret
  | with_reducible apply Wp.n_if
  | with_reducible apply Wp.n_drop
  | with_reducible apply Wp.n_par
  | with_reducible apply Wp.n_nil
  | with_reducible apply Wp.n_app
  | with_reducible apply Wp.n_loop
  | with_reducible apply Wp.n_while
  | with_reducible apply Wp.n_ext
  | with_reducible apply Wp.n_retN
  | with_reducible apply Wp.n_pass
  | with_reducible apply Wp.n_brk
  | with_reducible apply Wp.n_cnt
  | with_reducible apply Wp.qf_rt
  | with_reducible apply Wp.qf_nx
  | with_reducible apply Wp.qc_nx
  | with_reducible apply Wp.qc_rt
  | with_reducible apply Wp.ql_nx
  | with_reducible apply Wp.ql_rt
  | with_reducible apply Wp.qj_nx
  | with_reducible apply Wp.qj_rt
  | with_reducible apply Wp.qj_bk
  | with_reducible apply Wp.qj_ct
  | with_reducible apply Wp.qc_bk
  | with_reducible apply Wp.qc_ct
  | with_reducible apply Wp.ql_ct
  | with_reducible apply Wp.ql_bk
  | with_reducible apply Wp.st_succ
  | with_reducible apply Wp.st_zero
  | with_reducible apply Wp.g_name
  | ((with_reducible apply Wp.at_gt); (with_reducible apply Wp.g_tup); · exact rfl)
  | with_reducible apply Wp.g_cons
  | with_reducible apply Wp.g_nil
  | with_reducible apply Wp.g_sub
  | with_reducible apply Wp.l_turn)
local macro_rules | `(tactic| kcf_m) => `(tactic| first
  | ((with_reducible apply Wp.w_var); · exact rfl)
  | with_reducible apply Wp.w_cst
  | with_reducible apply Wp.w_cons
  | with_reducible apply Wp.w_nil
  | with_reducible apply Wp.w_knil
  | ((with_reducible apply Wp.pk_cons); · exact rfl)
  | with_reducible apply Wp.pk_nil
  | with_reducible apply Wp.w_call
  | with_reducible apply Wp.w_bin
  | with_reducible apply Wp.w_cmp
  | with_reducible apply Wp.w_idx
  | with_reducible apply Wp.w_blt
  | with_reducible apply Wp.w_tup
  | with_reducible apply Wp.w_lstF
  | with_reducible apply Wp.w_lstT
  | with_reducible apply Wp.w_glo
  | with_reducible apply Wp.w_and
  | with_reducible apply Wp.w_or
  | with_reducible apply Wp.w_not
  | with_reducible apply Wp.w_ite
  | with_reducible apply Wp.w_isi
  | with_reducible apply Wp.w_chain
  | with_reducible apply Wp.w_compF
  | with_reducible apply Wp.w_compT
  | with_reducible apply Wp.w_slc
  | with_reducible apply Wp.w_onone
  | with_reducible apply Wp.w_osome
  | with_reducible apply Wp.w_kcons
  | with_reducible apply Wp.w_neg
  | with_reducible apply Wp.w_rev
  | with_reducible apply Wp.w_dct0
  | ((with_reducible apply Wp.w_mv); · exact rfl; · exact rfl)
  | with_reducible apply Wp.i_seq
  | with_reducible apply Wp.i_rng
  | with_reducible apply Wp.i_enm
  | with_reducible apply Wp.i_zip
  | with_reducible apply Wp.wi_cons
  | with_reducible apply Wp.wi_nil
  | kct_strs
  | with_reducible apply Wp.if_T
  | with_reducible apply Wp.if_F
  | with_reducible apply Wp.and_T
  | with_reducible apply Wp.and_F
  | with_reducible apply Wp.or_T
  | with_reducible apply Wp.or_F
  | with_reducible apply Wp.not_T
  | with_reducible apply Wp.not_F
  | with_reducible apply Wp.not_K
  | with_reducible apply Wp.neg_K
  | with_reducible apply Wp.c_eqI
  | with_reducible apply Wp.c_neI
  | with_reducible apply Wp.c_eqS_same
  | with_reducible apply Wp.c_neS_same
  | with_reducible apply Wp.c_eqS
  | with_reducible apply Wp.c_neS
  | with_reducible apply Wp.c_lt
  | with_reducible apply Wp.c_le
  | with_reducible apply Wp.c_gt
  | with_reducible apply Wp.c_ge
  | with_reducible apply Wp.o_add
  | with_reducible apply Wp.o_sub
  | ((with_reducible apply Wp.o_mulL); · kpf_c)
  | ((with_reducible apply Wp.o_mulR); · kpf_c)
  | ((with_reducible apply Wp.o_div); · kpf_c)
  | ((with_reducible apply Wp.o_mod); · kpf_c)
  | ((with_reducible apply Wp.o_pow); · kpf_c)
  | ((with_reducible apply Wp.at_fn); got_up)
  | ((with_reducible apply Wp.at_wk); first | with_reducible apply Wp.wk_lst | with_reducible apply Wp.wk_tup | with_reducible apply Wp.wk_par)
  | ((with_reducible apply Wp.at_ix); first | with_reducible apply Wp.ix0 | with_reducible apply Wp.ix1 | with_reducible apply Wp.ix2 | with_reducible apply Wp.ix3 | with_reducible apply Wp.lx0 | with_reducible apply Wp.lx1)
  | ((with_reducible apply Wp.at_is); first | ((with_reducible apply Wp.is_T); · exact rfl) | ((with_reducible apply Wp.is_F); · exact rfl))
  | ((with_reducible apply Wp.at_rg); first | ((with_reducible apply Wp.rg_nat); · (simp only [LIM]; omega)) | ((with_reducible apply Wp.rg_int); · kpf_c))
  | ((with_reducible apply Wp.at_zp); first | with_reducible apply Wp.zp_tt | with_reducible apply Wp.zp_ll)
  | ((with_reducible apply Wp.at_en); first | with_reducible apply Wp.en_lstM | with_reducible apply Wp.en_tupM | with_reducible apply Wp.en_lst | with_reducible apply Wp.en_tup)
  | ((with_reducible apply Wp.at_slc); first
    | with_reducible apply Wp.s_frpT
    | with_reducible apply Wp.s_frpL
    | with_reducible apply Wp.s_topT
    | with_reducible apply Wp.s_topL
    | with_reducible apply Wp.s_fr1T
    | with_reducible apply Wp.s_fr1L
    | with_reducible apply Wp.s_to1T
    | with_reducible apply Wp.s_to1L
    | with_reducible apply Wp.s_to1P
    | with_reducible apply Wp.s_toT
    | with_reducible apply Wp.s_toL
    | with_reducible apply Wp.s_frT
    | with_reducible apply Wp.s_frL)
  | ((with_reducible apply Wp.at_add); first
    | ((with_reducible apply Wp.o_addT); · kpf_c)
    | ((with_reducible apply Wp.o_addL); · kpf_c)
    | ((with_reducible apply Wp.o_addLT); · kpf_c))
  | ((with_reducible apply Wp.at_mul); first
    | ((with_reducible apply Wp.o_mulT); · kpf_c)
    | ((with_reducible apply Wp.o_mulTI); · kpf_c)
    | ((with_reducible apply Wp.o_mulLN); · kpf_c)
    | ((with_reducible apply Wp.o_mulLT); · kpf_c)
    | ((with_reducible apply Wp.o_mulL1); · kpf_c))
  | ((with_reducible apply Wp.at_sum); first | with_reducible apply Wp.u_sum | with_reducible apply Wp.u_sumT | with_reducible apply Wp.u_sumM)
  | ((with_reducible apply Wp.at_len); first | with_reducible apply Wp.u_lenL | with_reducible apply Wp.u_lenT | with_reducible apply Wp.u_lenP | (apply Wp.wp_bl; · exact rfl))
  | with_reducible apply Wp.u_all
  | with_reducible apply Wp.u_any
  | ((with_reducible apply Wp.u_divmod); · kpf_c)
  | ((with_reducible first | apply Wp.at_abs | apply Wp.at_max2 | apply Wp.at_min2 | apply Wp.at_int | apply Wp.at_tuple | apply Wp.at_list); apply Wp.wp_bl; · exact rfl)
  | ((with_reducible apply Wp.at_cpM); apply Wp.cp_map; · (intro x hx; apply Wp.t_none; kcj_m; exact ⟨rfl, rfl⟩))
  | ((with_reducible apply Wp.at_cpF); apply Wp.cp_filt; · (intro x hx; kcj_m; refine ⟨rfl, rfl, fun _ => ?_⟩; kcj_m; exact ⟨rfl, rfl⟩))
  | ((with_reducible apply Wp.and_P); · (intro _; kcj_m; exact ⟨rfl, rfl⟩))
  | ((with_reducible apply Wp.or_P); · (intro _; kcj_m; exact ⟨rfl, rfl⟩))
  | ((with_reducible apply Wp.ch_P); · (intro _; kcj_m; exact ⟨rfl, rfl⟩)))
local macro_rules | `(tactic| kcj_m) => `(tactic| repeat kcf_m)
local macro_rules | `(tactic| kqd_in) => `(tactic| ((try simp only [List.append_assoc, List.cons_append, List.nil_append, List.length_append, List.length_cons, List.length_nil]); first | exact Wp.cell_in (k := 0) (by omega) rfl | exact Wp.cell_in (k := 1) (by omega) rfl | exact Wp.cell_in (k := 2) (by omega) rfl | exact Wp.cell_in (k := 3) (by omega) rfl | exact Wp.cell_in (k := 4) (by omega) rfl | exact Wp.cell_in (k := 5) (by omega) rfl | exact Wp.cell_in (k := 6) (by omega) rfl | exact Wp.cell_in (k := 7) (by omega) rfl | exact Wp.cell_in (k := 8) (by omega) rfl | exact Wp.cell_in (k := 9) (by omega) rfl | exact Wp.cell_in (k := 10) (by omega) rfl | exact Wp.cell_in (k := 11) (by omega) rfl | exact Wp.cell_in (k := 12) (by omega) rfl | exact Wp.cell_in (k := 13) (by omega) rfl | exact Wp.cell_in (k := 14) (by omega) rfl | exact Wp.cell_in (k := 15) (by omega) rfl | exact Wp.cell_in (k := 16) (by omega) rfl | exact Wp.cell_in (k := 17) (by omega) rfl | exact Wp.cell_in (k := 18) (by omega) rfl | exact Wp.cell_in (k := 19) (by omega) rfl))
local macro_rules | `(tactic| got_up) => `(tactic| with_reducible apply Wp.wp_ok (e_is_integer _ _ _))
local macro_rules | `(tactic| got_up) => `(tactic| with_reducible apply Wp.wp_ok (e_is_within _ _ _ _ _))
local macro_rules | `(tactic| got_up) => `(tactic| with_reducible apply Wp.wp_ok (e_is_tuple _ _ _ _))
local macro_rules | `(tactic| got_up) => `(tactic| with_reducible apply Wp.wp_ok (e_is_tuple3 _ _ _ _ _))
local macro_rules | `(tactic| got_up) => `(tactic| with_reducible apply Wp.wp_ok (e_is_council_any (by assumption) _ _))
local macro_rules | `(tactic| got_up) => `(tactic| with_reducible apply Wp.wp_ok (e_want_council (by assumption) _ _))
local macro_rules | `(tactic| got_up) => `(tactic| with_reducible apply Wp.wp_ok (e_all_lots _ _ (by omega) _))
local macro_rules | `(tactic| got_up) => `(tactic| with_reducible apply Wp.wp_ok (e_law_lots _ _ (by omega) _))
local macro_rules | `(tactic| got_up) => `(tactic| with_reducible apply Wp.wp_ok (e_won_lots (by assumption) _ _))
variable {seats : List Int} {q : Int}
theorem e_swings_of (h : Cou seats q) (d : Nat) (cs : Cs) : ev (d + 4) i_swings_of [co seats q] cs = some (.ref cs.length, cs ++ [⟨true, (swL seats q).map .int⟩, ⟨false, (Wn seats q).map tp⟩]) := by
  have h8 := h.n8
  refine wp_eq (fn_swings_of ?_)
  kcj_m
  refine wk_ref (l := true) (vs := (Wn seats q).map tp) (by simp) ?_
  rw [rep_int, two_cells, two_set]
  refine l_inv (fun pre sl c => c = cs ++ [⟨true, (adds (List.replicate seats.length 0) (pre.flatMap fun l => keys seats q (fun _ => 1) l)).map .int⟩, ⟨false, (Wn seats q).map tp⟩] ∧ ∃ o2 o3 o4, sl = [some (co seats q), some (.ref cs.length), o2, o3, o4]) ⟨rfl, _, _, _, rfl⟩ (fun pre l post sl c e hi => ?_) fun sl c hi => ?_
  · obtain ⟨rfl, o2, o3, o4, rfl⟩ := hi
    have hl : Lot seats.length l := Wn_lot (q := q) (by rw [e]; simp)
    have hlen := hl.len
    generalize hf : adds (List.replicate seats.length 0) (pre.flatMap fun l => keys seats q (fun _ => 1) l) = f0
    have hf0 : f0.length = seats.length := by rw [← hf, adds_len, List.length_replicate]
    kcj_m
    refine l_inv (fun pre sl c => c = cs ++ [⟨true, (adds f0 (pre.map (keyAt seats q (fun _ => 1) l))).map .int⟩, ⟨false, (Wn seats q).map tp⟩] ∧ ∃ o3 o4, sl = [some (co seats q), some (.ref cs.length), some (tp l), o3, o4]) ⟨rfl, _, _, rfl⟩ (fun pre p post sl c e hi => ?_) fun sl c hi => ?_
    · obtain ⟨rfl, o3, o4, rfl⟩ := hi
      obtain ⟨p1, p2⟩ := zip_cut e
      have hm := hl.2 p.1 (List.mem_of_getElem? p2)
      kcj_m
      refine ix_cell hm.1 (by rw [adds_len]; omega) ?_
      kcj_m
      rw [cut_out]
      refine wp_ok (e_is_won (erase_lot hl _).2 _ _) ?_
      kcj_m
      refine if_B (fun hw => ?_) fun hw => ?_
      · kcj_m
        refine sub_cell hm.1 (by rw [adds_len]; omega) ?_
        kcj_m
        refine ⟨?_, _, _, rfl⟩
        rw [List.map_append, adds_app]
        simp [keyAt, hw, adds, addAt]
      · kcj_m
        refine sub_cell hm.1 (by rw [adds_len]; omega) ?_
        kcj_m
        refine ⟨?_, _, _, rfl⟩
        rw [List.map_append, adds_app]
        simp [keyAt, hw, adds, addAt]
    · obtain ⟨rfl, o3, o4, rfl⟩ := hi
      kcj_m
      refine ⟨?_, _, _, _, rfl⟩
      rw [List.flatMap_append, adds_app, hf]
      simp [keys]
  · obtain ⟨rfl, o2, o3, o4, rfl⟩ := hi
    kcj_m
    exact ⟨rfl, by rw [keys_sw]⟩
theorem e_swings (h : Cou seats q) (d : Nat) (cs : Cs) : ev (d + 5) i_swings [co seats q] cs = some (.ref cs.length, cs ++ [⟨true, (swL seats q).map .int⟩, ⟨false, (Wn seats q).map tp⟩]) := by
  refine wp_eq (fn_swings ?_)
  kcj_m
  refine wp_ok (e_swings_of h _ _) ?_
  kcj_m
  exact ⟨rfl, rfl⟩
local macro_rules | `(tactic| got_up) => `(tactic| with_reducible apply Wp.wp_ok (e_swings (by assumption) _ _))
theorem e_sequences_of (d n : Nat) (hn : n ≤ 20) (cs : Cs) : ev (d + 1) i_sequences_of [.int n] cs = some (.int (fct n), cs) := by
  refine wp_eq (fn_sequences_of ?_)
  kcj_m
  refine l_inv (fun pre sl c => c = cs ∧ ∃ o, sl = [some (.int n), some (.int (fct pre.length)), o]) ⟨rfl, _, rfl⟩ (fun pre i post sl c e hi => ?_) fun sl c hi => ?_
  · obtain ⟨rfl, o, rfl⟩ := hi
    have hp := range_cut e
    have hin : i < n := by have := congrArg List.length e; simp at this; omega
    kcj_m
    refine ⟨rfl, some (.int i), ?_⟩
    rw [List.length_append, List.length_singleton, ← hp]
    rfl
  · obtain ⟨rfl, o, rfl⟩ := hi
    rw [List.length_range]
    kcj_m
    exact ⟨rfl, rfl⟩
theorem e_law_factorial (d n : Nat) (hn : n ≤ 20) (cs : Cs) : ev (d + 1) i__law_factorial [.int n] cs = some (.int (fct n), cs) := by
  refine wp_eq (fn__law_factorial ?_)
  kcj_m
  refine l_inv (fun pre sl c => c = cs ∧ ∃ o, sl = [some (.int n), some (.int (fct pre.length)), o]) ⟨rfl, _, rfl⟩ (fun pre i post sl c e hi => ?_) fun sl c hi => ?_
  · obtain ⟨rfl, o, rfl⟩ := hi
    have hp := range_cut e
    have hin : i < n := by have := congrArg List.length e; simp at this; omega
    kcj_m
    refine ⟨rfl, some (.int i), ?_⟩
    rw [List.length_append, List.length_singleton, ← hp]
    rfl
  · obtain ⟨rfl, o, rfl⟩ := hi
    rw [List.length_range]
    kcj_m
    exact ⟨rfl, rfl⟩
theorem e_turning_of (h : Cou seats q) (d : Nat) (cs : Cs) : ev (d + 4) i_turning_of [co seats q] cs = some (.ref cs.length, cs ++ [⟨true, (tuL seats q).map .int⟩, ⟨false, (Wn seats q).map tp⟩]) := by
  have h8 := h.n8
  refine wp_eq (fn_turning_of ?_)
  kcj_m
  refine wk_ref (l := true) (vs := (Wn seats q).map tp) (by simp) ?_
  rw [rep_int, two_cells, two_set]
  refine l_inv (fun pre sl c => c = cs ++ [⟨true, (adds (List.replicate seats.length 0) (pre.flatMap fun l => keys seats q (kT seats.length) l)).map .int⟩, ⟨false, (Wn seats q).map tp⟩] ∧ ∃ o1 o4 o5, sl = [some (co seats q), o1, some (.int seats.length), some (.ref cs.length), o4, o5]) ⟨rfl, _, _, _, rfl⟩ (fun pre l post sl c e hi => ?_) fun sl c hi => ?_
  · obtain ⟨rfl, o1, o4, o5, rfl⟩ := hi
    have hl : Lot seats.length l := Wn_lot (q := q) (by rw [e]; simp)
    have hlen := hl.len
    generalize hf : adds (List.replicate seats.length 0) (pre.flatMap fun l => keys seats q (kT seats.length) l) = f0
    have hf0 : f0.length = seats.length := by rw [← hf, adds_len, List.length_replicate]
    kcj_m
    refine l_inv (fun pre sl c => c = cs ++ [⟨true, (adds f0 (pre.map (keyAt seats q (kT seats.length) l))).map .int⟩, ⟨false, (Wn seats q).map tp⟩] ∧ ∃ o4 o5, sl = [some (co seats q), some (tp l), some (.int seats.length), some (.ref cs.length), o4, o5]) ⟨rfl, _, _, rfl⟩ (fun pre p post sl c e hi => ?_) fun sl c hi => ?_
    · obtain ⟨rfl, o4, o5, rfl⟩ := hi
      obtain ⟨p1, p2⟩ := zip_cut e
      have hm := hl.2 p.1 (List.mem_of_getElem? p2)
      have hpos : 1 ≤ l.length := by have := (List.getElem?_eq_some_iff.mp p2).1; omega
      kcj_m
      rw [cut_out]
      refine wp_ok (e_is_won (erase_lot hl _).2 _ _) ?_
      kcj_m
      refine if_B (fun hw => ?_) fun hw => ?_
      · simp only [Bool.not_eq_true'] at hw
        kcj_m
        refine ix_cell hm.1 (by rw [adds_len]; omega) ?_
        kcj_m
        rw [show (l.length : Int) - 1 = ((l.length - 1 : Nat) : Int) by omega]
        refine wp_ok (e_sequences_of _ _ (by omega) _) ?_
        kcj_m
        rw [show (seats.length : Int) - l.length = ((seats.length - l.length : Nat) : Int) by omega]
        refine wp_ok (e_sequences_of _ _ (by omega) _) ?_
        refine o_mulL (fct_small (by omega)) ?_
        kcj_m
        refine sub_cell hm.1 (by rw [adds_len]; omega) ?_
        kcj_m
        refine ⟨?_, _, _, rfl⟩
        rw [List.map_append, adds_app]
        have e3 : seats.length - (l.length - 1) - 1 = seats.length - l.length := by omega
        simp [keyAt, hw, adds, addAt, kT, e3]
      · simp only [Bool.not_eq_false'] at hw
        kcj_m
        refine ⟨?_, _, _, rfl⟩
        rw [List.map_append, adds_app]
        simp only [keyAt, hw, adds, List.map_cons, List.map_nil, List.foldl_cons, List.foldl_nil, if_true]
        rw [addAt_zero]
    · obtain ⟨rfl, o4, o5, rfl⟩ := hi
      kcj_m
      refine ⟨?_, _, _, _, rfl⟩
      rw [List.flatMap_append, adds_app, hf]
      simp [keys]
  · obtain ⟨rfl, o1, o4, o5, rfl⟩ := hi
    kcj_m
    exact ⟨rfl, by rw [keys_k]; rfl⟩
theorem e_common (d a b : Nat) (h : a * b < 2 ^ 96) (cs : Cs) : ev (d + 1) i_common [.int a, .int b] cs = some (.int (cm a b), cs) := by
  refine wp_eq (fn_common ?_)
  kcj_m
  refine l_while (fun k sl c => c = cs ∧ ∃ x y : Nat, sl = [some (.int x), some (.int y)] ∧ Nat.gcd x y = Nat.gcd a b ∧ Euc k x y) 98 (by decide) ⟨rfl, a, b, rfl, rfl, .inr ⟨96, rfl, h⟩⟩ fun k s c hi => ?_
  obtain ⟨rfl, x, y, rfl, hg, hE⟩ := hi
  kcj_m
  refine if_B (fun hy => ?_) fun hy => ?_
  · rw [decide_eq_true_eq] at hy
    have hy : 0 < y := by omega
    obtain ⟨k', rfl, hE'⟩ := hE.step hy
    refine ⟨k', rfl, ?_⟩
    kcj_m
    refine ⟨rfl, y, x % y, rfl, ?_, hE'⟩
    rw [← hg, Nat.gcd_comm x y, Nat.gcd_rec y x, Nat.gcd_comm]
  · rw [decide_eq_false_iff_not] at hy
    have hy : y = 0 := by omega
    subst hy
    kcj_m
    refine ⟨?_, rfl⟩
    rw [Nat.gcd_zero_right] at hg
    rw [hg]
    exact cm_eq a b
theorem e_lowest (d a b : Nat) (h : a * b < 2 ^ 96) (hb : 0 < b ∧ b < 1073741824) (cs : Cs) : ev (d + 2) i_lowest [.int a, .int b] cs = some (fr a b, cs) := by
  refine wp_eq (fn_lowest ?_)
  have hc := cm_le a b hb.1
  kcj_m
  rw [if_neg (by omega)]
  refine wp_ok (e_common _ _ _ h _) ?_
  kcj_m
  exact ⟨rfl, rfl⟩
theorem e_law_divisor (d a b : Nat) (h : a * b < 2 ^ 96) (cs : Cs) : ev (d + 1) i__law_divisor [.int a, .int b] cs = some (.int (cm a b), cs) := by
  refine wp_eq (fn__law_divisor ?_)
  kcj_m
  refine l_while (fun k sl c => c = cs ∧ ∃ x y : Nat, sl = [some (.int x), some (.int y)] ∧ Nat.gcd x y = Nat.gcd a b ∧ Euc k x y) 98 (by decide) ⟨rfl, a, b, rfl, rfl, .inr ⟨96, rfl, h⟩⟩ fun k s c hi => ?_
  obtain ⟨rfl, x, y, rfl, hg, hE⟩ := hi
  kcj_m
  refine if_B (fun hy => ?_) fun hy => ?_
  · rw [decide_eq_true_eq] at hy
    have hy : 0 < y := by omega
    obtain ⟨k', rfl, hE'⟩ := hE.step hy
    refine ⟨k', rfl, ?_⟩
    kcj_m
    refine ⟨rfl, y, x % y, rfl, ?_, hE'⟩
    rw [← hg, Nat.gcd_comm x y, Nat.gcd_rec y x, Nat.gcd_comm]
  · rw [decide_eq_false_iff_not] at hy
    have hy : y = 0 := by omega
    subst hy
    kcj_m
    refine ⟨?_, rfl⟩
    rw [Nat.gcd_zero_right] at hg
    rw [hg]
    exact cm_eq a b
theorem e_law_lowest (d a b : Nat) (h : a * b < 2 ^ 96) (hb : 0 < b ∧ b < 1073741824) (cs : Cs) : ev (d + 2) i__law_lowest [.int a, .int b] cs = some (fr a b, cs) := by
  refine wp_eq (fn__law_lowest ?_)
  have hc := cm_le a b hb.1
  kcj_m
  refine wp_ok (e_law_divisor _ _ _ h _) ?_
  kcj_m
  exact ⟨rfl, rfl⟩
theorem e_turning_shares (h : Cou seats q) (d : Nat) (cs : Cs) : ev (d + 5) i_turning_shares [co seats q] cs = some (.ref (cs.length + 2), cs ++ [⟨false, (tuL seats q).map .int⟩, ⟨false, (Wn seats q).map tp⟩, ⟨true, (tuL seats q).map (shr seats.length)⟩]) := by
  have h8 := h.n8
  refine wp_eq (fn_turning_shares ?_)
  kcj_m
  refine wp_ok (e_sequences_of _ _ (by omega) _) ?_
  kcj_m
  refine wp_ok (e_turning_of h _ _) ?_
  kcj_m
  refine wk_ref (l := true) (vs := (tuL seats q).map .int) (by simp) ?_
  kcj_m
  apply cp_map (g := shr seats.length)
  · intro x hx
    obtain ⟨x0, x1, n0, n1⟩ := tu_bound h hx
    refine t_none ?_
    kcj_m
    rw [show x = ((x.toNat : Nat) : Int) by omega, show fct seats.length = (((fct seats.length).toNat : Nat) : Int) by omega]
    refine wp_ok (e_lowest _ _ _ (small_mul (by omega) (by omega)) (by omega) _) ?_
    exact ⟨rfl, rfl⟩
  kcj_m
  refine ⟨by simp, by simp⟩
theorem e_law_swings (h : Cou seats q) (d : Nat) (cs : Cs) : ev (d + 2) i__law_swings [co seats q] cs = some (.ref cs.length, cs ++ [⟨true, (swL seats q).map .int⟩]) := by
  have h8 := h.n8
  refine wp_eq (fn__law_swings ?_)
  kcj_m
  rw [rep_int]
  refine l_inv (fun pre sl c => c = cs ++ [⟨true, (adds (List.replicate seats.length 0) (pre.flatMap fun l => lkeys seats q l)).map .int⟩] ∧ ∃ o2 o3 o4, sl = [some (co seats q), some (.ref cs.length), o2, o3, o4]) ⟨rfl, _, _, _, rfl⟩ (fun pre l post sl c e hi => ?_) fun sl c hi => ?_
  · obtain ⟨rfl, o2, o3, o4, rfl⟩ := hi
    have hl : Lot seats.length l := lots_mem.mp (by rw [e]; simp)
    have hlen := hl.len
    generalize hf : adds (List.replicate seats.length 0) (pre.flatMap fun l => lkeys seats q l) = f0
    have hf0 : f0.length = seats.length := by rw [← hf, adds_len, List.length_replicate]
    kcj_m
    refine l_inv (fun pre sl c => c = cs ++ [⟨true, (adds f0 (pre.map (lkeyAt seats q l))).map .int⟩] ∧ ∃ o3 o4, sl = [some (co seats q), some (.ref cs.length), some (tp l), o3, o4]) ⟨rfl, _, _, rfl⟩ (fun pre x post sl c e hi => ?_) fun sl c hi => ?_
    · obtain ⟨rfl, o3, o4, rfl⟩ := hi
      have hm := hl.2 x (by rw [e]; simp)
      kcj_m
      refine wp_ok (e_law_wins hl.2 _ _) ?_
      apply and_P
      · intro _
        kcj_m
        rw [del_eq]
        refine wp_ok (e_law_wins (del_lot hl).2 _ _) ?_
        kcj_m
        exact ⟨rfl, rfl⟩
      refine if_B (fun hw => ?_) fun hw => ?_
      · kcj_m
        refine ix_cell hm.1 (by rw [adds_len]; omega) ?_
        kcj_m
        refine sub_cell hm.1 (by rw [adds_len]; omega) ?_
        kcj_m
        refine ⟨?_, _, _, rfl⟩
        rw [List.map_append, adds_app]
        simp [lkeyAt, hw, adds, addAt]
      · kcj_m
        refine ⟨?_, _, _, rfl⟩
        rw [List.map_append, adds_app]
        simp only [lkeyAt, hw, adds, List.map_cons, List.map_nil, List.foldl_cons, List.foldl_nil, Bool.false_eq_true, if_false]
        rw [addAt_zero]
    · obtain ⟨rfl, o3, o4, rfl⟩ := hi
      kcj_m
      refine ⟨?_, _, _, _, rfl⟩
      rw [List.flatMap_append, adds_app, hf]
      simp [lkeys]
  · obtain ⟨rfl, o2, o3, o4, rfl⟩ := hi
    kcj_m
    exact ⟨rfl, by rw [lkeys_sw]⟩
theorem e_law_by_lots (h : Cou seats q) (d : Nat) (cs : Cs) : ∃ c', ev (d + 3) i__law_by_lots [co seats q] cs = some (.lst ((tuL seats q).map (shr seats.length)), cs ++ [c']) := by
  have h8 := h.n8
  refine ⟨⟨false, (tuL seats q).map .int⟩, wp_eq (fn__law_by_lots ?_)⟩
  kcj_m
  rw [rep_int]
  refine l_inv (fun pre sl c => c = cs ++ [⟨true, (adds (List.replicate seats.length 0) (pre.flatMap fun l => bkeys seats q l)).map .int⟩] ∧ ∃ o3 o4, sl = [some (co seats q), some (.int seats.length), some (.ref cs.length), o3, o4]) ⟨rfl, _, _, rfl⟩ (fun pre l post sl c e hi => ?_) fun sl c hi => ?_
  · obtain ⟨rfl, o3, o4, rfl⟩ := hi
    have hl : Lot seats.length l := lots_mem.mp (by rw [e]; simp)
    have hlen := hl.len
    generalize hf : adds (List.replicate seats.length 0) (pre.flatMap fun l => bkeys seats q l) = f0
    have hf0 : f0.length = seats.length := by rw [← hf, adds_len, List.length_replicate]
    kcj_m
    refine l_inv (fun pre sl c => c = cs ++ [⟨true, (adds f0 (pre.map (bkeyAt seats q l))).map .int⟩] ∧ ∃ o4, sl = [some (co seats q), some (.int seats.length), some (.ref cs.length), some (tp l), o4]) ⟨rfl, _, rfl⟩ (fun pre x post sl c e hi => ?_) fun sl c hi => ?_
    · obtain ⟨rfl, o4, rfl⟩ := hi
      have hx : x < seats.length := List.mem_range.mp (by rw [e]; simp)
      have hb : ∀ y ∈ l ++ [(x : Int)], 0 ≤ y ∧ y < seats.length := fun y hy => by
        rcases List.mem_append.mp hy with z | z
        · exact hl.2 y z
        · rw [List.mem_singleton.mp z]; omega
      kcj_m
      refine c_ok (by show (inO _ _ _).map _ = _; rw [in_tp]; rfl) ?_
      apply and_P
      · intro _
        kcj_m
        refine wp_ok (e_law_wins hl.2 _ _) ?_
        kcj_m
        apply and_P
        · intro _
          kcj_m
          rw [tp_snoc]
          refine wp_ok (e_law_wins hb _ _) ?_
          exact ⟨rfl, rfl⟩
        exact ⟨rfl, rfl⟩
      refine if_B (fun hw => ?_) fun hw => ?_
      · have hnl : x ∉ l.map Int.toNat ∧ l.length + 1 ≤ seats.length := by
          simp only [Bool.and_eq_true, Bool.not_eq_true'] at hw
          have h1 : (x : Int) ∉ l := fun z => by rw [has_iff.mpr z] at hw; exact nomatch hw.1
          refine ⟨fun z => ?_, ?_⟩
          · obtain ⟨y, hy, e⟩ := List.mem_map.mp z
            have := hl.2 y hy
            exact h1 (by rw [show (x : Int) = y by omega]; exact hy)
          · have := (ins_lot hl (i := (x : Int)) (by omega) (by omega)).len
            rw [len_ins hl h1] at this
            exact this
        kcj_m
        refine ix_cell (by omega) (by rw [adds_len]; omega) ?_
        kcj_m
        refine wp_ok (e_law_factorial _ _ (by omega) _) ?_
        kcj_m
        rw [show (seats.length : Int) - l.length - 1 = ((seats.length - l.length - 1 : Nat) : Int) by omega]
        refine wp_ok (e_law_factorial _ _ (by omega) _) ?_
        refine o_mulL (fct_small (by omega)) ?_
        kcj_m
        refine sub_cell (by omega) (by rw [adds_len]; omega) ?_
        kcj_m
        refine ⟨?_, _, rfl⟩
        rw [List.map_append, adds_app]
        simp [bkeyAt, hw, adds, addAt, kT]
      · kcj_m
        refine ⟨?_, _, rfl⟩
        rw [List.map_append, adds_app]
        simp only [bkeyAt, hw, adds, List.map_cons, List.map_nil, List.foldl_cons, List.foldl_nil, Bool.false_eq_true, if_false]
        rw [addAt_zero]
    · obtain ⟨rfl, o4, rfl⟩ := hi
      kcj_m
      refine ⟨?_, _, _, rfl⟩
      rw [List.flatMap_append, adds_app, hf]
      simp [bkeys]
  · obtain ⟨rfl, o3, o4, rfl⟩ := hi
    rw [bkeys_tu]
    kcj_m
    refine wk_ref (l := true) (vs := (tuL seats q).map .int) (by simp) ?_
    kcj_m
    apply cp_map (g := shr seats.length)
    · intro x hx
      obtain ⟨x0, x1, n0, n1⟩ := tu_bound h hx
      refine t_none ?_
      kcj_m
      refine wp_ok (e_law_factorial _ _ (by omega) _) ?_
      kcj_m
      rw [show x = ((x.toNat : Nat) : Int) by omega, show fct seats.length = (((fct seats.length).toNat : Nat) : Int) by omega]
      refine wp_ok (e_law_lowest _ _ _ (small_mul (by omega) (by omega)) (by omega) _) ?_
      exact ⟨rfl, rfl⟩
    kcj_m
    exact ⟨rfl, by simp⟩

end K92
end

section
set_option maxHeartbeats 4000000
/-! k92: all sequences -/
namespace K92
open PySem Ev Lots Wp Cn Sw
local macro_rules | `(tactic| kpf_c) => `(tactic| first | decide | omega | (refine ⟨?_, ?_⟩ <;> omega) | assumption | (simp only [List.length_map, List.length_cons, List.length_nil, List.length_append, List.length_range, List.length_singleton, List.length_take, List.length_drop, List.length_replicate] <;> omega))
local macro_rules | `(tactic| kct_strs) => `(tactic| first
  | with_reducible apply Wp.n_asg
  | with_reducible apply Wp.n_ret
  | with_reducible apply Wp.n_if
  | with_reducible apply Wp.n_drop
  | with_reducible apply Wp.n_par
  | with_reducible apply Wp.n_nil
  | with_reducible apply Wp.n_app
  | with_reducible apply Wp.n_loop
  | with_reducible apply Wp.n_while
  | with_reducible apply Wp.n_ext
  | with_reducible apply Wp.n_retN
  | with_reducible apply Wp.n_pass
  | with_reducible apply Wp.n_brk
  | with_reducible apply Wp.n_cnt
  | with_reducible apply Wp.qf_rt
  | with_reducible apply Wp.qf_nx
  | with_reducible apply Wp.qc_nx
  | with_reducible apply Wp.qc_rt
  | with_reducible apply Wp.ql_nx
  | with_reducible apply Wp.ql_rt
  | with_reducible apply Wp.qj_nx
  | with_reducible apply Wp.qj_rt
  | with_reducible apply Wp.qj_bk
  | with_reducible apply Wp.qj_ct
  | with_reducible apply Wp.qc_bk
  | with_reducible apply Wp.qc_ct
  | with_reducible apply Wp.ql_ct
  | with_reducible apply Wp.ql_bk
  | with_reducible apply Wp.st_succ
  | with_reducible apply Wp.st_zero
  | with_reducible apply Wp.g_name
  | ((with_reducible apply Wp.at_gt); (with_reducible apply Wp.g_tup); · exact rfl)
  | with_reducible apply Wp.g_cons
  | with_reducible apply Wp.g_nil
  | with_reducible apply Wp.g_sub
  | with_reducible apply Wp.l_turn)
local macro_rules | `(tactic| kcf_m) => `(tactic| first
  | ((with_reducible apply Wp.w_var); · exact rfl)
  | with_reducible apply Wp.w_cst
  | with_reducible apply Wp.w_cons
  | with_reducible apply Wp.w_nil
  | with_reducible apply Wp.w_knil
  | ((with_reducible apply Wp.pk_cons); · exact rfl)
  | with_reducible apply Wp.pk_nil
  | with_reducible apply Wp.w_call
  | with_reducible apply Wp.w_bin
  | with_reducible apply Wp.w_cmp
  | with_reducible apply Wp.w_idx
  | with_reducible apply Wp.w_blt
  | with_reducible apply Wp.w_tup
  | with_reducible apply Wp.w_lstF
  | with_reducible apply Wp.w_lstT
  | with_reducible apply Wp.w_glo
  | with_reducible apply Wp.w_and
  | with_reducible apply Wp.w_or
  | with_reducible apply Wp.w_not
  | with_reducible apply Wp.w_ite
  | with_reducible apply Wp.w_isi
  | with_reducible apply Wp.w_chain
  | with_reducible apply Wp.w_compF
  | with_reducible apply Wp.w_compT
  | with_reducible apply Wp.w_slc
  | with_reducible apply Wp.w_onone
  | with_reducible apply Wp.w_osome
  | with_reducible apply Wp.w_kcons
  | with_reducible apply Wp.w_neg
  | with_reducible apply Wp.w_rev
  | with_reducible apply Wp.w_dct0
  | ((with_reducible apply Wp.w_mv); · exact rfl; · exact rfl)
  | with_reducible apply Wp.i_seq
  | with_reducible apply Wp.i_rng
  | with_reducible apply Wp.i_enm
  | with_reducible apply Wp.i_zip
  | with_reducible apply Wp.wi_cons
  | with_reducible apply Wp.wi_nil
  | kct_strs
  | with_reducible apply Wp.if_T
  | with_reducible apply Wp.if_F
  | with_reducible apply Wp.and_T
  | with_reducible apply Wp.and_F
  | with_reducible apply Wp.or_T
  | with_reducible apply Wp.or_F
  | with_reducible apply Wp.not_T
  | with_reducible apply Wp.not_F
  | with_reducible apply Wp.not_K
  | with_reducible apply Wp.neg_K
  | with_reducible apply Wp.c_eqI
  | with_reducible apply Wp.c_neI
  | with_reducible apply Wp.c_eqS_same
  | with_reducible apply Wp.c_neS_same
  | with_reducible apply Wp.c_eqS
  | with_reducible apply Wp.c_neS
  | with_reducible apply Wp.c_lt
  | with_reducible apply Wp.c_le
  | with_reducible apply Wp.c_gt
  | with_reducible apply Wp.c_ge
  | with_reducible apply Wp.o_add
  | with_reducible apply Wp.o_sub
  | ((with_reducible apply Wp.o_mulL); · kpf_c)
  | ((with_reducible apply Wp.o_mulR); · kpf_c)
  | ((with_reducible apply Wp.o_div); · kpf_c)
  | ((with_reducible apply Wp.o_mod); · kpf_c)
  | ((with_reducible apply Wp.o_pow); · kpf_c)
  | ((with_reducible apply Wp.at_fn); got_up)
  | ((with_reducible apply Wp.at_wk); first | with_reducible apply Wp.wk_lst | with_reducible apply Wp.wk_tup | with_reducible apply Wp.wk_par)
  | ((with_reducible apply Wp.at_ix); first | with_reducible apply Wp.ix0 | with_reducible apply Wp.ix1 | with_reducible apply Wp.ix2 | with_reducible apply Wp.ix3 | with_reducible apply Wp.lx0 | with_reducible apply Wp.lx1)
  | ((with_reducible apply Wp.at_is); first | ((with_reducible apply Wp.is_T); · exact rfl) | ((with_reducible apply Wp.is_F); · exact rfl))
  | ((with_reducible apply Wp.at_rg); first | ((with_reducible apply Wp.rg_nat); · (simp only [LIM]; omega)) | ((with_reducible apply Wp.rg_int); · kpf_c))
  | ((with_reducible apply Wp.at_zp); first | with_reducible apply Wp.zp_tt | with_reducible apply Wp.zp_ll)
  | ((with_reducible apply Wp.at_en); first | with_reducible apply Wp.en_lstM | with_reducible apply Wp.en_tupM | with_reducible apply Wp.en_lst | with_reducible apply Wp.en_tup)
  | ((with_reducible apply Wp.at_slc); first
    | with_reducible apply Wp.s_frpT
    | with_reducible apply Wp.s_frpL
    | with_reducible apply Wp.s_topT
    | with_reducible apply Wp.s_topL
    | with_reducible apply Wp.s_fr1T
    | with_reducible apply Wp.s_fr1L
    | with_reducible apply Wp.s_to1T
    | with_reducible apply Wp.s_to1L
    | with_reducible apply Wp.s_to1P
    | with_reducible apply Wp.s_toT
    | with_reducible apply Wp.s_toL
    | with_reducible apply Wp.s_frT
    | with_reducible apply Wp.s_frL)
  | ((with_reducible apply Wp.at_add); first
    | ((with_reducible apply Wp.o_addT); · kpf_c)
    | ((with_reducible apply Wp.o_addL); · kpf_c)
    | ((with_reducible apply Wp.o_addLT); · kpf_c))
  | ((with_reducible apply Wp.at_mul); first
    | ((with_reducible apply Wp.o_mulT); · kpf_c)
    | ((with_reducible apply Wp.o_mulTI); · kpf_c)
    | ((with_reducible apply Wp.o_mulLN); · kpf_c)
    | ((with_reducible apply Wp.o_mulLT); · kpf_c)
    | ((with_reducible apply Wp.o_mulL1); · kpf_c))
  | ((with_reducible apply Wp.at_sum); first | with_reducible apply Wp.u_sum | with_reducible apply Wp.u_sumT | with_reducible apply Wp.u_sumM)
  | ((with_reducible apply Wp.at_len); first | with_reducible apply Wp.u_lenL | with_reducible apply Wp.u_lenT | with_reducible apply Wp.u_lenP | (apply Wp.wp_bl; · exact rfl))
  | with_reducible apply Wp.u_all
  | with_reducible apply Wp.u_any
  | ((with_reducible apply Wp.u_divmod); · kpf_c)
  | ((with_reducible first | apply Wp.at_abs | apply Wp.at_max2 | apply Wp.at_min2 | apply Wp.at_int | apply Wp.at_tuple | apply Wp.at_list); apply Wp.wp_bl; · exact rfl)
  | ((with_reducible apply Wp.at_cpM); apply Wp.cp_map; · (intro x hx; apply Wp.t_none; kcj_m; exact ⟨rfl, rfl⟩))
  | ((with_reducible apply Wp.at_cpF); apply Wp.cp_filt; · (intro x hx; kcj_m; refine ⟨rfl, rfl, fun _ => ?_⟩; kcj_m; exact ⟨rfl, rfl⟩))
  | ((with_reducible apply Wp.and_P); · (intro _; kcj_m; exact ⟨rfl, rfl⟩))
  | ((with_reducible apply Wp.or_P); · (intro _; kcj_m; exact ⟨rfl, rfl⟩))
  | ((with_reducible apply Wp.ch_P); · (intro _; kcj_m; exact ⟨rfl, rfl⟩)))
local macro_rules | `(tactic| kcj_m) => `(tactic| repeat kcf_m)
local macro_rules | `(tactic| kqd_in) => `(tactic| ((try simp only [List.append_assoc, List.cons_append, List.nil_append, List.length_append, List.length_cons, List.length_nil]); first | exact Wp.cell_in (k := 0) (by omega) rfl | exact Wp.cell_in (k := 1) (by omega) rfl | exact Wp.cell_in (k := 2) (by omega) rfl | exact Wp.cell_in (k := 3) (by omega) rfl | exact Wp.cell_in (k := 4) (by omega) rfl | exact Wp.cell_in (k := 5) (by omega) rfl | exact Wp.cell_in (k := 6) (by omega) rfl | exact Wp.cell_in (k := 7) (by omega) rfl | exact Wp.cell_in (k := 8) (by omega) rfl | exact Wp.cell_in (k := 9) (by omega) rfl | exact Wp.cell_in (k := 10) (by omega) rfl | exact Wp.cell_in (k := 11) (by omega) rfl | exact Wp.cell_in (k := 12) (by omega) rfl | exact Wp.cell_in (k := 13) (by omega) rfl | exact Wp.cell_in (k := 14) (by omega) rfl | exact Wp.cell_in (k := 15) (by omega) rfl | exact Wp.cell_in (k := 16) (by omega) rfl | exact Wp.cell_in (k := 17) (by omega) rfl | exact Wp.cell_in (k := 18) (by omega) rfl | exact Wp.cell_in (k := 19) (by omega) rfl))
local macro_rules | `(tactic| got_up) => `(tactic| with_reducible apply Wp.wp_ok (e_is_integer _ _ _))
local macro_rules | `(tactic| got_up) => `(tactic| with_reducible apply Wp.wp_ok (e_is_within _ _ _ _ _))
local macro_rules | `(tactic| got_up) => `(tactic| with_reducible apply Wp.wp_ok (e_is_tuple _ _ _ _))
local macro_rules | `(tactic| got_up) => `(tactic| with_reducible apply Wp.wp_ok (e_is_tuple3 _ _ _ _ _))
local macro_rules | `(tactic| got_up) => `(tactic| with_reducible apply Wp.wp_ok (e_is_council_any (by assumption) _ _))
local macro_rules | `(tactic| got_up) => `(tactic| with_reducible apply Wp.wp_ok (e_want_council (by assumption) _ _))
local macro_rules | `(tactic| got_up) => `(tactic| with_reducible apply Wp.wp_ok (e_all_lots _ _ (by omega) _))
local macro_rules | `(tactic| got_up) => `(tactic| with_reducible apply Wp.wp_ok (e_law_lots _ _ (by omega) _))
local macro_rules | `(tactic| got_up) => `(tactic| with_reducible apply Wp.wp_ok (e_won_lots (by assumption) _ _))
local macro_rules | `(tactic| got_up) => `(tactic| with_reducible apply Wp.wp_ok (e_swings (by assumption) _ _))
variable {seats : List Int} {q : Int}
/-- a list of rows: settled, or in a cell -/
def IsR (k : Nat) (c : Cs) (v : PV) (ls : List (List Int)) : Prop := v = .lst (ls.map tp) ∨ ∃ m b, k ≤ m ∧ v = .ref m ∧ c[m]? = some ⟨b, ls.map tp⟩
theorem IsR.walk {k : Nat} {c : Cs} {v : PV} {ls : List (List Int)} {Q : List PV → Cs → Prop} (h : IsR k c v ls) (q : ∀ c', c'.length = c.length → (∀ m, m < k → c'[m]? = c[m]?) → IsR k c' v ls → Q (ls.map tp) c') : WalkK v c Q := by
  rcases h with rfl | ⟨m, b, hm, rfl, e⟩
  · exact wk_lst (q c rfl (fun _ _ => rfl) (.inl rfl))
  · refine wk_ref e (q _ (by simp) (fun j hj => by rw [List.getElem?_set_ne (by omega)]) (.inr ⟨m, false, hm, rfl, List.getElem?_set_self (List.getElem?_eq_some_iff.mp e).1⟩))
theorem IsR.walk1 {k : Nat} {c : Cs} {x : Cell} {v : PV} {ls : List (List Int)} {Q : List PV → Cs → Prop} (h : IsR k c v ls) (q : ∀ c', c'.length = c.length → (∀ m, m < k → c'[m]? = c[m]?) → IsR k c' v ls → Q (ls.map tp) (c' ++ [x])) : WalkK v (c ++ [x]) Q := by
  rcases h with rfl | ⟨m, b, hm, rfl, e⟩
  · exact wk_lst (q c rfl (fun _ _ => rfl) (.inl rfl))
  · have hlt := (List.getElem?_eq_some_iff.mp e).1
    refine wk_ref (l := b) (by rw [List.getElem?_append_left hlt]; exact e) ?_
    rw [List.set_append_left _ _ hlt]
    exact q _ (by simp) (fun j hj => by rw [List.getElem?_set_ne (by omega)]) (.inr ⟨m, false, hm, rfl, List.getElem?_set_self hlt⟩)
theorem IsR.len {k : Nat} {c : Cs} {v : PV} {ls : List (List Int)} {Q : PV → Cs → Prop} {b : Bool} (h : IsR k c v ls) (q : Q (.int ls.length) c) : WP (bltO .len b c [v]) Q := by
  rcases h with rfl | ⟨m, l, hm, rfl, e⟩
  · exact u_lenL q
  · refine wp_ok (v := .int ls.length) ?_ q
    show ((c[m]?).map (·.vs)).map (fun xs => (PV.int xs.length, c)) = _
    rw [e]
    show some (PV.int (ls.map tp).length, c) = _
    rw [List.length_map]
/-- the cells up to k stand -/
def Keep (k : Nat) (cs c : Cs) : Prop := k ≤ c.length ∧ ∀ m, m < k → c[m]? = cs[m]?
theorem e_law_turned (h : Cou seats q) (h5 : seats.length ≤ 5) (d : Nat) (cs : Cs) : WP (ev (d + 3) i__law_turned [co seats q] cs) fun v c => v = .lst ((tuL seats q).map (shr seats.length)) ∧ Keep cs.length cs c := by
  have h1 := h.n1
  have ok := ok_of h1 h5
  have hpow : ∀ k, k ≤ 5 → seats.length ^ k ≤ 3125 := fun k hk => Nat.le_trans (Nat.pow_le_pow_left h5 k) (Nat.le_trans (Nat.pow_le_pow_right (by decide) hk) (by decide))
  refine fn__law_turned ?_
  kcj_m
  refine l_inv (fun pre sl c => Keep cs.length cs c ∧ ∃ o1 o2 o3 v o6 o7 o8 o9, sl = [some (co seats q), o1, o2, o3, some (.int seats.length), some v, o6, o7, o8, o9] ∧ IsR cs.length c v (rowsN seats.length pre.length)) ⟨⟨Nat.le_refl _, fun _ _ => rfl⟩, _, _, _, _, _, _, _, _, rfl, .inl rfl⟩ (fun pre i post sl c e hi => ?_) fun sl c hi => ?_
  · obtain ⟨⟨k1, k2⟩, o1, o2, o3, v, o6, o7, o8, o9, rfl, hv⟩ := hi
    have hp := range_cut e
    have hin : i < seats.length := List.mem_range.mp (by rw [e]; simp)
    kcj_m
    refine hv.walk1 fun c' l1 l2 l3 => ?_
    have rl := rows_len seats.length pre.length
    have hp5 : seats.length ^ (pre.length + 1) ≤ 3125 := hpow _ (by omega)
    have hp4 : seats.length ^ pre.length ≤ 3125 := hpow _ (by omega)
    rw [← l1]
    refine l_inv (fun pr sl c => c = c' ++ [⟨true, (pr.flatMap (nextRows seats.length)).map tp⟩] ∧ ∃ o3 o7 o8 o9, sl = [some (co seats q), some (.int i), o2, o3, some (.int seats.length), some v, some (.ref c'.length), o7, o8, o9]) ⟨rfl, _, _, _, _, rfl⟩ (fun pr r post sl c e hi => ?_) fun sl c hi => ?_
    · obtain ⟨rfl, o3, o7, o8, o9, rfl⟩ := hi
      have hr : r ∈ rowsN seats.length pre.length := by rw [e]; simp
      have R := row_of hr
      have hrl := R.len
      kcj_m
      apply cp_filt (p := fun (x : Nat) => !has r x) (g := fun (x : Nat) => tp (r ++ [(x : Int)]))
      · intro x hx
        kcj_m
        refine c_ok (by show (inO _ _ _).map _ = _; rw [in_tp]; rfl) ?_
        refine ⟨rfl, rfl, fun _ => ?_⟩
        kcj_m
        rw [tp_snoc]
        exact ⟨rfl, rfl⟩
      kcj_m
      refine ext_cell ?_ ?_
      · have a1 : ((pr.flatMap (nextRows seats.length))).length ≤ (rowsN seats.length (pre.length + 1)).length := by
          rw [rowsN, e, List.flatMap_append, List.length_append]; omega
        have a2 := rows_len seats.length (pre.length + 1)
        have a3 : (((List.range seats.length).filter fun (x : Nat) => !has r x).map fun (x : Nat) => tp (r ++ [(x : Int)])).length ≤ seats.length := by
          rw [List.length_map]
          exact Nat.le_trans (List.length_filter_le _ _) (by simp)
        rw [List.length_map]
        omega
      kcj_m
      refine ⟨?_, _, _, _, _, rfl⟩
      rw [List.flatMap_append, List.map_append]
      simp [nextRows]
    · obtain ⟨rfl, o3, o7, o8, o9, rfl⟩ := hi
      kcj_m
      refine ⟨⟨by simp; omega, fun m hm => by rw [List.getElem?_append_left (by omega), l2 m hm, k2 m hm]⟩, _, _, _, _, _, _, _, _, rfl, .inr ⟨c'.length, true, by omega, rfl, ?_⟩⟩
      rw [List.length_append, List.length_singleton, rowsN]
      simp
  · obtain ⟨⟨k1, k2⟩, o1, o2, o3, v, o6, o7, o8, o9, rfl, hv⟩ := hi
    rw [List.length_range] at hv
    kcj_m
    rw [rep_int]
    refine hv.walk1 fun c' l1 l2 l3 => ?_
    rw [← l1]
    refine l_inv (fun pr sl c => c = c' ++ [⟨true, (adds (List.replicate seats.length 0) (pr.map fun r => (pvI seats q seats.length r, 1))).map .int⟩] ∧ ∃ o3 o7 o8 o9, sl = [some (co seats q), o1, some (.ref c'.length), o3, some (.int seats.length), some v, o6, o7, o8, o9]) ⟨rfl, _, _, _, _, rfl⟩ (fun pr r post sl c e hi => ?_) fun sl c hi => ?_
    · obtain ⟨rfl, o3, o7, o8, o9, rfl⟩ := hi
      have hr : r ∈ rowsN seats.length seats.length := by rw [e]; simp
      have R := row_of hr
      obtain ⟨p, hp, ep⟩ := first_some h R (all_in ok hr)
      have hrl := R.len
      generalize hf : adds (List.replicate seats.length 0) (pr.map fun r => (pvI seats q seats.length r, 1)) = f0
      have hf0 : f0.length = seats.length := by rw [← hf, adds_len, List.length_replicate]
      have hm := R.b r[p] (List.getElem_mem _)
      have epv : pvI seats q seats.length r = r[p] := by
        unfold pvI
        rw [ep]
        show r.getD p 0 = _
        rw [List.getD, List.getElem?_eq_getElem (by omega)]; rfl
      kcj_m
      apply cp_filt (p := fun (x : Nat) => won seats q (r.take (x + 1))) (g := fun (x : Nat) => .int x)
      · intro x hx
        kcj_m
        rw [← List.map_take]
        refine wp_ok (e_law_wins (fun y hy => R.b y (List.mem_of_mem_take hy)) _ _) ?_
        refine ⟨rfl, rfl, fun _ => ?_⟩
        kcj_m
        exact ⟨rfl, rfl⟩
      kcj_m
      refine ix_ok (v := .int p) ?_ ?_
      · have e1 : ((List.range seats.length).filter fun (x : Nat) => won seats q (r.take (x + 1)))[0]? = some p := by
          rw [← List.head?_eq_getElem?, List.head?_filter]; exact ep
        show L2.atI (((List.range seats.length).filter fun (x : Nat) => won seats q (r.take (x + 1))).map fun (x : Nat) => PV.int x) ((0 : Nat) : Int) = _
        rw [at_nat _ _ (by rw [List.length_map]; exact (List.getElem?_eq_some_iff.mp e1).1), List.getElem?_map, e1]; rfl
      kcj_m
      refine ix_ok (v := .int r[p]) (by show L2.atI (r.map PV.int) (p : Int) = _; rw [at_nat _ _ (by rw [List.length_map]; omega), List.getElem?_map, List.getElem?_eq_getElem (by omega)]; rfl) ?_
      refine ix_cell hm.1 (by omega) ?_
      kcj_m
      refine ix_ok (v := .int r[p]) (by show L2.atI (r.map PV.int) (p : Int) = _; rw [at_nat _ _ (by rw [List.length_map]; omega), List.getElem?_map, List.getElem?_eq_getElem (by omega)]; rfl) ?_
      refine sub_cell hm.1 (by omega) ?_
      kcj_m
      refine ⟨?_, _, _, _, _, rfl⟩
      rw [List.map_append, adds_app, hf]
      simp [adds, addAt, epv]
    · obtain ⟨rfl, o3, o7, o8, o9, rfl⟩ := hi
      rw [rows_tu h h5]
      kcj_m
      refine wk_ref (l := true) (vs := (tuL seats q).map .int) (by simp) ?_
      rw [List.set_append_right _ _ (Nat.le_refl _), Nat.sub_self]
      have hv2 : IsR cs.length (c' ++ [⟨false, (tuL seats q).map .int⟩]) v (rowsN seats.length seats.length) := by
        rcases l3 with rfl | ⟨m, b, hm, rfl, e⟩
        · exact .inl rfl
        · exact .inr ⟨m, b, hm, rfl, by rw [List.getElem?_append_left (List.getElem?_eq_some_iff.mp e).1]; exact e⟩
      kcj_m
      apply cp_map (g := shr seats.length)
      · intro x hx
        obtain ⟨x0, x1, n0, n1⟩ := tu_bound h hx
        refine t_none ?_
        kcj_m
        refine hv2.len ?_
        kcj_m
        rw [rows_fct h1 h5]
        rw [show x = ((x.toNat : Nat) : Int) by omega, show fct seats.length = (((fct seats.length).toNat : Nat) : Int) by omega]
        refine wp_ok (e_law_lowest _ _ _ (small_mul (by omega) (by omega)) (by omega) _) ?_
        exact ⟨rfl, rfl⟩
      kcj_m
      exact ⟨rfl, by simp; omega, fun m hm => by rw [List.getElem?_append_left (by omega), l2 m hm, k2 m hm]⟩
end K92
end

section
set_option maxHeartbeats 4000000
/-! k92: the law -/
namespace K92
open PySem Ev Lots Wp Cn Sw
local macro_rules | `(tactic| kpf_c) => `(tactic| first | decide | omega | (refine ⟨?_, ?_⟩ <;> omega) | assumption | (simp only [List.length_map, List.length_cons, List.length_nil, List.length_append, List.length_range, List.length_singleton, List.length_take, List.length_drop, List.length_replicate] <;> omega))
local macro_rules | `(tactic| kct_strs) => `(tactic| first
  | with_reducible apply Wp.n_asg
  | with_reducible apply Wp.n_ret
  | with_reducible apply Wp.n_if
  | with_reducible apply Wp.n_drop
  | with_reducible apply Wp.n_par
  | with_reducible apply Wp.n_nil
  | with_reducible apply Wp.n_app
  | with_reducible apply Wp.n_loop
  | with_reducible apply Wp.n_while
  | with_reducible apply Wp.n_ext
  | with_reducible apply Wp.n_retN
  | with_reducible apply Wp.n_pass
  | with_reducible apply Wp.n_brk
  | with_reducible apply Wp.n_cnt
  | with_reducible apply Wp.qf_rt
  | with_reducible apply Wp.qf_nx
  | with_reducible apply Wp.qc_nx
  | with_reducible apply Wp.qc_rt
  | with_reducible apply Wp.ql_nx
  | with_reducible apply Wp.ql_rt
  | with_reducible apply Wp.qj_nx
  | with_reducible apply Wp.qj_rt
  | with_reducible apply Wp.qj_bk
  | with_reducible apply Wp.qj_ct
  | with_reducible apply Wp.qc_bk
  | with_reducible apply Wp.qc_ct
  | with_reducible apply Wp.ql_ct
  | with_reducible apply Wp.ql_bk
  | with_reducible apply Wp.st_succ
  | with_reducible apply Wp.st_zero
  | with_reducible apply Wp.g_name
  | ((with_reducible apply Wp.at_gt); (with_reducible apply Wp.g_tup); · exact rfl)
  | with_reducible apply Wp.g_cons
  | with_reducible apply Wp.g_nil
  | with_reducible apply Wp.g_sub
  | with_reducible apply Wp.l_turn)
local macro_rules | `(tactic| kcf_m) => `(tactic| first
  | ((with_reducible apply Wp.w_var); · exact rfl)
  | with_reducible apply Wp.w_cst
  | with_reducible apply Wp.w_cons
  | with_reducible apply Wp.w_nil
  | with_reducible apply Wp.w_knil
  | ((with_reducible apply Wp.pk_cons); · exact rfl)
  | with_reducible apply Wp.pk_nil
  | with_reducible apply Wp.w_call
  | with_reducible apply Wp.w_bin
  | with_reducible apply Wp.w_cmp
  | with_reducible apply Wp.w_idx
  | with_reducible apply Wp.w_blt
  | with_reducible apply Wp.w_tup
  | with_reducible apply Wp.w_lstF
  | with_reducible apply Wp.w_lstT
  | with_reducible apply Wp.w_glo
  | with_reducible apply Wp.w_and
  | with_reducible apply Wp.w_or
  | with_reducible apply Wp.w_not
  | with_reducible apply Wp.w_ite
  | with_reducible apply Wp.w_isi
  | with_reducible apply Wp.w_chain
  | with_reducible apply Wp.w_compF
  | with_reducible apply Wp.w_compT
  | with_reducible apply Wp.w_slc
  | with_reducible apply Wp.w_onone
  | with_reducible apply Wp.w_osome
  | with_reducible apply Wp.w_kcons
  | with_reducible apply Wp.w_neg
  | with_reducible apply Wp.w_rev
  | with_reducible apply Wp.w_dct0
  | ((with_reducible apply Wp.w_mv); · exact rfl; · exact rfl)
  | with_reducible apply Wp.i_seq
  | with_reducible apply Wp.i_rng
  | with_reducible apply Wp.i_enm
  | with_reducible apply Wp.i_zip
  | with_reducible apply Wp.wi_cons
  | with_reducible apply Wp.wi_nil
  | kct_strs
  | with_reducible apply Wp.if_T
  | with_reducible apply Wp.if_F
  | with_reducible apply Wp.and_T
  | with_reducible apply Wp.and_F
  | with_reducible apply Wp.or_T
  | with_reducible apply Wp.or_F
  | with_reducible apply Wp.not_T
  | with_reducible apply Wp.not_F
  | with_reducible apply Wp.not_K
  | with_reducible apply Wp.neg_K
  | with_reducible apply Wp.c_eqI
  | with_reducible apply Wp.c_neI
  | with_reducible apply Wp.c_eqS_same
  | with_reducible apply Wp.c_neS_same
  | with_reducible apply Wp.c_eqS
  | with_reducible apply Wp.c_neS
  | with_reducible apply Wp.c_lt
  | with_reducible apply Wp.c_le
  | with_reducible apply Wp.c_gt
  | with_reducible apply Wp.c_ge
  | with_reducible apply Wp.o_add
  | with_reducible apply Wp.o_sub
  | ((with_reducible apply Wp.o_mulL); · kpf_c)
  | ((with_reducible apply Wp.o_mulR); · kpf_c)
  | ((with_reducible apply Wp.o_div); · kpf_c)
  | ((with_reducible apply Wp.o_mod); · kpf_c)
  | ((with_reducible apply Wp.o_pow); · kpf_c)
  | ((with_reducible apply Wp.at_fn); got_up)
  | ((with_reducible apply Wp.at_wk); first | with_reducible apply Wp.wk_lst | with_reducible apply Wp.wk_tup | with_reducible apply Wp.wk_par)
  | ((with_reducible apply Wp.at_ix); first | with_reducible apply Wp.ix0 | with_reducible apply Wp.ix1 | with_reducible apply Wp.ix2 | with_reducible apply Wp.ix3 | with_reducible apply Wp.lx0 | with_reducible apply Wp.lx1)
  | ((with_reducible apply Wp.at_is); first | ((with_reducible apply Wp.is_T); · exact rfl) | ((with_reducible apply Wp.is_F); · exact rfl))
  | ((with_reducible apply Wp.at_rg); first | ((with_reducible apply Wp.rg_nat); · (simp only [LIM]; omega)) | ((with_reducible apply Wp.rg_int); · kpf_c))
  | ((with_reducible apply Wp.at_zp); first | with_reducible apply Wp.zp_tt | with_reducible apply Wp.zp_ll)
  | ((with_reducible apply Wp.at_en); first | with_reducible apply Wp.en_lstM | with_reducible apply Wp.en_tupM | with_reducible apply Wp.en_lst | with_reducible apply Wp.en_tup)
  | ((with_reducible apply Wp.at_slc); first
    | with_reducible apply Wp.s_frpT
    | with_reducible apply Wp.s_frpL
    | with_reducible apply Wp.s_topT
    | with_reducible apply Wp.s_topL
    | with_reducible apply Wp.s_fr1T
    | with_reducible apply Wp.s_fr1L
    | with_reducible apply Wp.s_to1T
    | with_reducible apply Wp.s_to1L
    | with_reducible apply Wp.s_to1P
    | with_reducible apply Wp.s_toT
    | with_reducible apply Wp.s_toL
    | with_reducible apply Wp.s_frT
    | with_reducible apply Wp.s_frL)
  | ((with_reducible apply Wp.at_add); first
    | ((with_reducible apply Wp.o_addT); · kpf_c)
    | ((with_reducible apply Wp.o_addL); · kpf_c)
    | ((with_reducible apply Wp.o_addLT); · kpf_c))
  | ((with_reducible apply Wp.at_mul); first
    | ((with_reducible apply Wp.o_mulT); · kpf_c)
    | ((with_reducible apply Wp.o_mulTI); · kpf_c)
    | ((with_reducible apply Wp.o_mulLN); · kpf_c)
    | ((with_reducible apply Wp.o_mulLT); · kpf_c)
    | ((with_reducible apply Wp.o_mulL1); · kpf_c))
  | ((with_reducible apply Wp.at_sum); first | with_reducible apply Wp.u_sum | with_reducible apply Wp.u_sumT | with_reducible apply Wp.u_sumM)
  | ((with_reducible apply Wp.at_len); first | with_reducible apply Wp.u_lenL | with_reducible apply Wp.u_lenT | with_reducible apply Wp.u_lenP | (apply Wp.wp_bl; · exact rfl))
  | with_reducible apply Wp.u_all
  | with_reducible apply Wp.u_any
  | ((with_reducible apply Wp.u_divmod); · kpf_c)
  | ((with_reducible first | apply Wp.at_abs | apply Wp.at_max2 | apply Wp.at_min2 | apply Wp.at_int | apply Wp.at_tuple | apply Wp.at_list); apply Wp.wp_bl; · exact rfl)
  | ((with_reducible apply Wp.at_cpM); apply Wp.cp_map; · (intro x hx; apply Wp.t_none; kcj_m; exact ⟨rfl, rfl⟩))
  | ((with_reducible apply Wp.at_cpF); apply Wp.cp_filt; · (intro x hx; kcj_m; refine ⟨rfl, rfl, fun _ => ?_⟩; kcj_m; exact ⟨rfl, rfl⟩))
  | ((with_reducible apply Wp.and_P); · (intro _; kcj_m; exact ⟨rfl, rfl⟩))
  | ((with_reducible apply Wp.or_P); · (intro _; kcj_m; exact ⟨rfl, rfl⟩))
  | ((with_reducible apply Wp.ch_P); · (intro _; kcj_m; exact ⟨rfl, rfl⟩)))
local macro_rules | `(tactic| kcj_m) => `(tactic| repeat kcf_m)
local macro_rules | `(tactic| kqd_in) => `(tactic| ((try simp only [List.append_assoc, List.cons_append, List.nil_append, List.length_append, List.length_cons, List.length_nil]); first | exact Wp.cell_in (k := 0) (by omega) rfl | exact Wp.cell_in (k := 1) (by omega) rfl | exact Wp.cell_in (k := 2) (by omega) rfl | exact Wp.cell_in (k := 3) (by omega) rfl | exact Wp.cell_in (k := 4) (by omega) rfl | exact Wp.cell_in (k := 5) (by omega) rfl | exact Wp.cell_in (k := 6) (by omega) rfl | exact Wp.cell_in (k := 7) (by omega) rfl | exact Wp.cell_in (k := 8) (by omega) rfl | exact Wp.cell_in (k := 9) (by omega) rfl | exact Wp.cell_in (k := 10) (by omega) rfl | exact Wp.cell_in (k := 11) (by omega) rfl | exact Wp.cell_in (k := 12) (by omega) rfl | exact Wp.cell_in (k := 13) (by omega) rfl | exact Wp.cell_in (k := 14) (by omega) rfl | exact Wp.cell_in (k := 15) (by omega) rfl | exact Wp.cell_in (k := 16) (by omega) rfl | exact Wp.cell_in (k := 17) (by omega) rfl | exact Wp.cell_in (k := 18) (by omega) rfl | exact Wp.cell_in (k := 19) (by omega) rfl))
local macro_rules | `(tactic| got_up) => `(tactic| with_reducible apply Wp.wp_ok (e_is_integer _ _ _))
local macro_rules | `(tactic| got_up) => `(tactic| with_reducible apply Wp.wp_ok (e_is_within _ _ _ _ _))
local macro_rules | `(tactic| got_up) => `(tactic| with_reducible apply Wp.wp_ok (e_is_tuple _ _ _ _))
local macro_rules | `(tactic| got_up) => `(tactic| with_reducible apply Wp.wp_ok (e_is_tuple3 _ _ _ _ _))
local macro_rules | `(tactic| got_up) => `(tactic| with_reducible apply Wp.wp_ok (e_is_council_any (by assumption) _ _))
local macro_rules | `(tactic| got_up) => `(tactic| with_reducible apply Wp.wp_ok (e_want_council (by assumption) _ _))
local macro_rules | `(tactic| got_up) => `(tactic| with_reducible apply Wp.wp_ok (e_all_lots _ _ (by omega) _))
local macro_rules | `(tactic| got_up) => `(tactic| with_reducible apply Wp.wp_ok (e_law_lots _ _ (by omega) _))
local macro_rules | `(tactic| got_up) => `(tactic| with_reducible apply Wp.wp_ok (e_won_lots (by assumption) _ _))
local macro_rules | `(tactic| got_up) => `(tactic| with_reducible apply Wp.wp_ok (e_swings (by assumption) _ _))
variable {seats : List Int} {q : Int}
theorem e_law_less (d : Nat) (a b x y : Int) (h1 : 0 ≤ a ∧ a ≤ 40320) (h2 : 0 ≤ x ∧ x ≤ 40320) (cs : Cs) : ev (d + 1) i__law_less [.tup [.int a, .int b], .tup [.int x, .int y]] cs = some (.bl (decide (a * y < x * b)), cs) := by
  refine wp_eq (fn__law_less ?_)
  kcj_m
  exact ⟨rfl, rfl⟩
theorem p_right (n : Nat) (h : Cou seats q) (b : Bool) (hb : b = true → seats.length ≤ 5) (d : Nat) (cs : Cs) (p : Pot cs n) : WP (ev (d + 6) i__law_right [.ref n, co seats q, .bl b] cs) fun v c => v = .bl true ∧ Kx n cs c := by
  have h8 := h.n8
  refine fn__law_right ?_
  kcj_m
  refine u_repr (asD_co _) (sh_co h) (by decide) ?_
  kcj_m
  refine if_joinE (fun v c => v = .lst ((tuL seats q).map (shr seats.length)) ∧ Keep cs.length cs c) (if_B (fun hk => ?_) fun hk => ?_) ?_
  · kcj_m
    exact e_law_turned h (hb hk) _ _
  · kcj_m
    obtain ⟨c', e⟩ := e_law_by_lots h (d + 2) cs
    exact wp_ok e ⟨rfl, by simp, fun m hm => by rw [List.getElem?_append_left hm]⟩
  rintro _ c1 ⟨rfl, k1, k2⟩
  have kx : Kx n cs c1 := ⟨k1, fun m hm _ => k2 m hm⟩
  have pc : Pot c1 n := by
    obtain ⟨a, b, e⟩ := p
    exact ⟨a, b, by rw [k2 n (List.getElem?_eq_some_iff.mp e).1]; exact e⟩
  clear k1 k2
  kcj_m
  refine wp_ok (e_law_swings h _ _) ?_
  kcj_m
  refine wp_ok (e_turning_shares h _ _) ?_
  kcj_m
  refine wp_ok (e_turning_shares h _ _) ?_
  kcj_m
  refine u_repr (h := 6) (as_lst (aa_cons (as_ref (b := true) (vs := (tuL seats q).map (shr seats.length)) (by kqd_in) (da_tu _)) (aa_cons (as_ref (b := true) (vs := (tuL seats q).map (shr seats.length)) (by kqd_in) (da_tu _)) (aa_cons (as_ref (b := true) (vs := (swL seats q).map .int) (by kqd_in) (da_ints _)) (aa_cons (as_ref (b := true) (vs := (swL seats q).map .int) (by kqd_in) (da_ints _)) aa_nil))))) (sd_list (sa_cons (sD_tu h) (sa_cons (sD_tu h) (sa_cons (sD_sw h) (sa_cons (sD_sw h) sa_nil))))) (by decide) ?_
  kcj_m
  refine u_repr (h := 6) (as_lst (aa_cons (as_tu _ _) (aa_cons (as_tu _ _) (aa_cons (as_ref (b := true) (vs := (swL seats q).map .int) (by kqd_in) (da_ints _)) (aa_cons (as_ref (b := true) (vs := (swL seats q).map .int) (by kqd_in) (da_ints _)) aa_nil))))) (sd_list (sa_cons (sD_tu h) (sa_cons (sD_tu h) (sa_cons (sD_sw h) (sa_cons (sD_sw h) sa_nil))))) (by decide) ?_
  kcj_m
  refine app_ref (vs := (tuL seats q).map (shr seats.length)) (by kqd_in) (by rw [List.length_map]; unfold tuL; rw [kL_len]; omega) ?_
  have F : ∀ (r : Cs) (z : Nat) (x : Cell), c1.length < z → ((c1 ++ ⟨true, (swL seats q).map .int⟩ :: r).set z x)[c1.length]? = some ⟨true, (swL seats q).map .int⟩ ∧ Pot ((c1 ++ ⟨true, (swL seats q).map .int⟩ :: r).set z x) n ∧ Kx n cs ((c1 ++ ⟨true, (swL seats q).map .int⟩ :: r).set z x) := fun r z x hz => by
    have := pc.lt
    exact ⟨by rw [List.getElem?_set_ne (by omega)]; simp, (pc.app _).set (by omega), (kx.app _).set (by have := kx.1; omega)⟩
  simp only [List.append_assoc, List.cons_append, List.nil_append]
  generalize hz : List.set (α := Cell) _ _ _ = c2
  obtain ⟨hc, pc2, kx2⟩ : c2[c1.length]? = some ⟨true, (swL seats q).map .int⟩ ∧ Pot c2 n ∧ Kx n cs c2 := by
    rw [← hz]; exact F _ _ _ (by simp only [List.length_append, List.length_cons, List.length_nil]; omega)
  have hnm : n < c1.length := pc.lt
  clear hz F pc kx
  generalize c1.length = m1 at *
  kcj_m
  refine wp_ok (e_turning_shares h _ _) ?_
  kcj_m
  refine u_repr (h := 6) (as_ref (b := true) (vs := (tuL seats q).map (shr seats.length)) (by kqd_in) (da_tu _)) (sD_tu h) (by decide) ?_
  kcj_m
  refine u_repr (h := 6) (as_tu _ _) (sD_tu h) (by decide) ?_
  kcj_m
  have hc : ∀ r : Cs, (c2 ++ r)[m1]? = some ⟨true, (swL seats q).map .int⟩ := fun r => by rw [List.getElem?_append_left (List.getElem?_eq_some_iff.mp hc).1]; exact hc
  refine wp_ok (e_law_factorial _ _ (by omega) _) ?_
  kcj_m
  apply cp_map (g := fun x => .int x)
  · intro x hx
    obtain ⟨x0, x1, n0, n1⟩ := tu_bound h hx
    have f := frac_of seats.length x0
    have fs := f.small x1 h.n8
    have f0 := f.b0
    have f1 := f.t0
    rw [shr_eq]
    refine t_none ?_
    kcj_m
    rw [shr_one x0]
    exact ⟨rfl, rfl⟩
  kcj_m
  rw [tu_sum h]
  refine if_f (by simp) ?_
  kcj_m
  have dueAt : ∀ i : Nat, i < seats.length → ((tuL seats q).map (shr seats.length))[i]? = some (shr seats.length (Tk seats q (kT seats.length) i)) := fun i hi => by
    unfold tuL
    rw [List.getElem?_map, kL_at hi]; rfl
  have swAt : ∀ i : Nat, i < seats.length → (swL seats q).getD i 0 = Tk seats q (fun _ => 1) i := fun i hi => by
    unfold swL
    rw [kL_get hi]
  have swlen : (swL seats q).length = seats.length := by unfold swL; rw [kL_len]
  have seAt : ∀ i : Nat, i < seats.length → (seats.map PV.int)[i]? = some (.int (sOf seats i)) := fun i hi => by
    unfold sOf
    rw [List.getElem?_map, List.getElem?_eq_getElem hi, Int.toNat_natCast, List.getD, List.getElem?_eq_getElem hi]; rfl
  have tb : ∀ i : Nat, i < seats.length → 0 ≤ Tk seats q (kT seats.length) i ∧ Tk seats q (kT seats.length) i ≤ 40320 := fun i hi => by
    have := tu_bound h (x := Tk seats q (kT seats.length) i) (by
      have := kL_at (seats := seats) (q := q) (k := kT seats.length) hi
      exact List.mem_of_getElem? this)
    exact ⟨this.1, this.2.1⟩
  have lessOk : ∀ (x y : Int), 0 ≤ x → 0 ≤ y → y ≤ x → decide (tops seats.length x * bots seats.length y < tops seats.length y * bots seats.length x) = false := fun x y hx hy hxy => by
    rw [decide_eq_false_iff_not]; exact shr_not_less hx hy hxy
  generalize hcz : c2 ++ _ = c3
  have hc3 : c3[m1]? = some ⟨true, (swL seats q).map .int⟩ := by rw [← hcz]; exact hc _
  have pc3 : Pot c3 n := by rw [← hcz]; exact pc2.app _
  have kx3 : Kx n cs c3 := by rw [← hcz]; exact kx2.app _
  clear hcz hc pc2 kx2
  refine l_inv (fun pre sl c => c = c3 ∧ ∃ o4 o9 o10, sl = [some (.ref n), some (co seats q), some (.bl b), some (.int (fct seats.length)), o4, none, some (.str (coD seats q).shown), some (.lst ((tuL seats q).map (shr seats.length))), some (.ref m1), o9, o10, none, none, none]) ⟨rfl, _, _, _, rfl⟩ (fun pre i post sl c e hi => ?_) fun sl c hi => ?_
  · obtain ⟨rfl, o4, o9, o10, rfl⟩ := hi
    have hi : i < seats.length := List.mem_range.mp (by rw [e]; simp)
    kcj_m
    refine l_inv (fun pre sl c' => c' = c ∧ ∃ o10, sl = [some (.ref n), some (co seats q), some (.bl b), some (.int (fct seats.length)), some (.int i), none, some (.str (coD seats q).shown), some (.lst ((tuL seats q).map (shr seats.length))), some (.ref m1), o9, o10, none, none, none]) ⟨rfl, _, rfl⟩ (fun pre j post sl c' e hj => ?_) fun sl c' hj => ?_
    · obtain ⟨rfl, o10, rfl⟩ := hj
      have hj : j < seats.length := List.mem_range.mp (by rw [e]; simp)
      obtain ⟨ti0, ti1⟩ := tb i hi
      obtain ⟨tj0, tj1⟩ := tb j hj
      have fi := (frac_of seats.length ti0).small ti1 h8
      have fj := (frac_of seats.length tj0).small tj1 h8
      have fi0 := (frac_of seats.length ti0).t0
      have fj0 := (frac_of seats.length tj0).t0
      kcj_m
      refine ix_tup (seAt i hi) ?_
      kcj_m
      refine ix_tup (seAt j hj) ?_
      kcj_m
      apply and_P (k' := false)
      · intro hs
        rw [decide_eq_true_eq] at hs
        kcj_m
        refine ix_ref hc3 (by omega) ?_
        kcj_m
        refine ix_ref hc3 (by omega) ?_
        kcj_m
        refine or_F' (by
          rw [decide_eq_false_iff_not, swAt i hi, swAt j hj]
          have := Tk_mono (q := q) (k := fun _ => 1) (fun _ => by decide) (i := (i : Int)) (j := (j : Int)) (by omega) (by omega) (by omega) (by omega) hs
          omega) ?_
        kcj_m
        refine ix_lst (dueAt i hi) ?_
        kcj_m
        refine ix_lst (dueAt j hj) ?_
        kcj_m
        refine wp_ok (e_law_less _ _ _ _ _ ⟨fi0, fi.1⟩ ⟨fj0, fj.1⟩ _) ?_
        exact ⟨congrArg PV.bl (lessOk _ _ ti0 tj0 (Tk_mono (fun _ => kT_pos _ _) (by omega) (by omega) (by omega) (by omega) hs)), rfl⟩
      refine if_f (by simp) ?_
      kcj_m
      exact ⟨rfl, _, rfl⟩
    · obtain ⟨rfl, o10, rfl⟩ := hj
      kcj_m
      exact ⟨rfl, _, _, _, rfl⟩
  · obtain ⟨rfl, o4, o9, o10, rfl⟩ := hi
    have h1 := h.n1
    kcj_m
    refine wp_use (p_draw _ n _ (by omega) (by omega) _ pc3) fun v c4 ⟨r, e, r0, r1, t1⟩ => ?_
    subst e
    obtain ⟨i, rfl⟩ := Int.eq_ofNat_of_zero_le r0
    have hi : i < seats.length := by omega
    have kx4 := kx3.pot t1
    have pc4 := t1.pot pc3
    have hs := h.s seats[i] (List.getElem_mem hi)
    have esi : sOf seats i = seats[i] := by
      unfold sOf
      rw [Int.toNat_natCast, List.getD, List.getElem?_eq_getElem hi]; rfl
    have hc4 : c4[m1]? = some ⟨true, (swL seats q).map .int⟩ := by
      obtain ⟨a, b, rfl⟩ := t1
      rw [List.getElem?_set_ne (by omega)]; exact hc3
    kcj_m
    refine ix_tup (seAt i hi) ?_
    kcj_m
    refine if_B (fun hlt => ?_) fun hlt => ?_
    · rw [decide_eq_true_eq, esi] at hlt
      kcj_m
      refine ix_tup (seAt i hi) ?_
      kcj_m
      refine ix_tup (seAt i hi) ?_
      kcj_m
      refine wp_use (p_draw _ n _ (by omega) (by omega) _ pc4) fun v c5 ⟨r, e, a0, a1, t2⟩ => ?_
      subst e
      rw [esi] at a1 ⊢
      have kx5 := kx4.pot t2
      have hc5 : c5[m1]? = some ⟨true, (swL seats q).map .int⟩ := by
        obtain ⟨a, b, rfl⟩ := t2
        rw [List.getElem?_set_ne (by omega)]; exact hc4
      have hm : Cou (seats.set i (seats[i] + 1 + r)) q := Sw.Cou.more h hi (by omega) (by omega)
      kcj_m
      rw [tup_set seats i _ hi]
      have mono : ∀ k : Nat → Int, (∀ n, 0 ≤ k n) → Tk seats q k i ≤ Tk (seats.set i (seats[i] + 1 + r)) q k i := fun k hk => Tk_more (i := (i : Int)) hk (by omega) (by omega) (by rw [esi]; omega)
      generalize hme : seats.set i (seats[i] + 1 + r) = more at *
      have ml : more.length = seats.length := by rw [← hme, List.length_set]
      refine wp_ok (e_swings hm _ _) ?_
      have hc6 : ∀ r : Cs, (c5 ++ r)[m1]? = some ⟨true, (swL seats q).map .int⟩ := fun r => by rw [List.getElem?_append_left (List.getElem?_eq_some_iff.mp hc5).1]; exact hc5
      kcj_m
      refine ix_ref (b := true) (xs := swL more q) (by kqd_in) (by unfold swL; rw [kL_len]; omega) ?_
      kcj_m
      refine ix_ref (hc6 _) (by omega) ?_
      kcj_m
      have e1 : (swL more q).getD i 0 = Tk more q (fun _ => 1) i := by
        unfold swL
        rw [kL_get (by omega)]
      refine or_F' (by
        rw [decide_eq_false_iff_not, swAt i hi, e1]
        have := mono (fun _ => 1) (fun _ => by decide)
        omega) ?_
      kcj_m
      refine wp_ok (e_turning_shares hm _ _) ?_
      kcj_m
      have e2 : ((tuL more q).map (shr more.length))[i]? = some (shr more.length (Tk more q (kT more.length) i)) := by
        unfold tuL
        rw [List.getElem?_map, kL_at (by omega)]; rfl
      refine ix_refV (b := true) (vs := (tuL more q).map (shr more.length)) (by kqd_in) e2 ?_
      kcj_m
      refine ix_lst (dueAt i hi) ?_
      kcj_m
      obtain ⟨ti0, ti1⟩ := tb i hi
      have tm := tu_bound hm (x := Tk more q (kT more.length) i) (List.mem_of_getElem? (kL_at (by omega)))
      have fi := (frac_of seats.length ti0).small ti1 h8
      have fm := (frac_of more.length tm.1).small tm.2.1 hm.n8
      have fi0 := (frac_of seats.length ti0).t0
      have fm0 := (frac_of more.length tm.1).t0
      refine wp_ok (e_law_less _ _ _ _ _ ⟨fm0, fm.1⟩ ⟨fi0, fi.1⟩ _) ?_
      kcj_m
      refine if_f ?_ ?_
      · have := mono (kT seats.length) fun _ => kT_pos _ _
        rw [← ml] at this ti0
        have z := shr_not_less (n := more.length) tm.1 ti0 this
        rw [decide_eq_false_iff_not]
        rw [ml] at z
        rw [ml]
        exact z
      kcj_m
      refine u_repr (asD_co _) (sh_co h) (by decide) ?_
      kcj_m
      exact ⟨rfl, (kx5.app _).app _⟩
    · kcj_m
      refine u_repr (asD_co _) (sh_co h) (by decide) ?_
      kcj_m
      exact ⟨rfl, kx4⟩
theorem law_ok (ns : List Int) : ∃ cs', ev 41 i_law [.par (ns.map .int)] [] = some (.bl true, cs') := by
  have : WP (ev 41 i_law [.par (ns.map .int)] []) fun v _ => v = .bl true := by
    refine fn_law ?_
    kcj_m
    refine wp_use (p_pot 39 ns 0 (by decide) _) fun v c1 ⟨e, a, b, ec⟩ => ?_
    subst e
    subst ec
    kcj_m
    refine wp_use (p_pot 39 ns 1 (by decide) _) fun v c2 ⟨e, x, y, ec⟩ => ?_
    subst e
    subst ec
    kcj_m
    have p0 : Pot ([] ++ [⟨true, [.int a, .int b]⟩] ++ [⟨true, [.int x, .int y]⟩]) 0 := ⟨a, b, rfl⟩
    have p1 : Pot ([] ++ [⟨true, [.int a, .int b]⟩] ++ [⟨true, [.int x, .int y]⟩]) 1 := ⟨x, y, rfl⟩
    refine wp_use (p_council 37 0 5 (by decide) (by decide) _ p0) fun v c3 ⟨seats, q, e, C, l6, p3, kx⟩ => ?_
    subst e
    have p4 := kx.pot_of (by decide) p1
    kcj_m
    refine wp_use (p_right 0 C true (fun _ => l6) 34 c3 p3) fun v c4 ⟨e, kx4⟩ => ?_
    subst e
    have p5 := kx4.pot_of (by decide) p4
    kcj_m
    refine wp_use (p_council 37 1 7 (by decide) (by decide) _ p5) fun v c5 ⟨seats, q, e, C, l6, p3, kx⟩ => ?_
    subst e
    kcj_m
    refine wp_use (p_right 1 C false (fun z => nomatch z) 34 c5 p3) fun v c6 ⟨e, kx4⟩ => ?_
    subst e
    kcj_m
    rfl
  obtain ⟨v, c, e, rfl⟩ := this
  exact ⟨c, e⟩
end K92
end

section
set_option maxHeartbeats 0
open PySem PySem.Spec PyProof.Rows L2 Ev
namespace K92
abbrev hk : PySem.W.Hook := He.hookD 4 fa fn
def ob (s : PySem.W.SharedT) : He.AlD := He.obsDG 4 fa fn (HandSHeadRun.getT s)
theorem ob_eq (s : PySem.W.SharedT) : ob s = hk.obs s.abs := He.obsDG_eq (HandSHeadRun.getT_eq s)
abbrev R : PySem.W.OpenRow := PySem.W.OpenLaw.row PySem.Challenge.rw_seatworks_k92_whole_swings_and_turning_s
theorem run (w : World) : HandSHeadRun.RunEq R (PySem.W.view R.prog [44]) hk ob 4000 ((["is_integer", "is_within", "is_tuple", "WorkError", "InvalidCouncil", "common", "lowest", "COUNCIL", "MOST_LISTS", "MOST_SEATS", "is_council_any", "want_council"] : List PySem.Str) ++ (["all_lots", "seats_of", "is_won", "won_lots", "swings_of", "sequences_of", "turning_of", "swings", "turning_shares", "_law_pot", "_law_draw", "_law_pick"] : List PySem.Str) ++ (["_law_council", "_law_lots", "_law_wins", "_law_is_in", "_law_least", "_law_rest", "_law_is_count", "_law_divisor", "_law_lowest", "_law_factorial", "_law_swings", "_law_turned"] : List PySem.Str) ++ (["_law_by_lots", "_law_less", "_law_right"] : List PySem.Str)) w := by
  intro os
  kernel_rfl
theorem goal_of (ev : ∀ ns : List Int, ns.length ≤ 63 → ∃ cs', evFn 100 D (40 + 1) 0 [.par (ns.map .int)] [] = some (.bl true, cs')) (P : Program) (w : World) (mg : Str → Option Value) (fa' : Addr) (h : Heap) (Y : ∃ K : PySem.W.Frag, K.In h ∧ He.SaysD fa fn K) (hns : h.Ns mainGlobals mg) (hfa : mg ("law" : Str) = some (.ref fa')) :
    ∃ (K : PySem.W.Frag) (fd : FuncData) (Φ : EvΦ) (j : Nat), K.In h ∧ (∀ (s : Shared) (u : Value), BindsTo s fd ⟨[u], []⟩ [("script", u)]) ∧ (∀ ns : List Int, ns.length ≤ 63 → ∃ cs', Φ j [.par (ns.map .int)] [] = some (.bl true, cs')) ∧
      ∀ (base : Heap) (mm : Str → Option Value), K.In base → base.Ns mainGlobals mg → base.Ns sysModules mm → FnG P w K mg base (40 + 1) fa' fd ["script"] (spG K Φ j 1) := by
  obtain ⟨K, X, c⟩ := Y
  obtain ⟨qual, params, body, scope, a, fd, F, hm, S, hc, hb⟩ := (ok_law X hns c).ex
  have e : a = fa' := by
    have z : mg ("law" : Str) = some (.ref a) := hm
    rw [hfa] at z
    cases z
    rfl
  subst e
  have b := hb (1, [], [0]) (by simp [f_law])
  exact ⟨K, fd, evFn 100 D (40 + 1), 0, X, fun s u => b s [u] [] rfl rfl, ev, fun base mm KB NB SM => fn_step (f := f_law) (gf_all (all_ok X hns c) (con_ok X hns c) (bl_ok X hns c) ⟨mm, SM⟩ 40) rfl F S hc⟩
end K92
open PySem PySem.W PySem.Calls PyProof.Rows
theorem holds_K92 (ev : ∀ ns : List Int, ns.length ≤ 63 → ∃ cs', Ev.evFn 100 K92.D (40 + 1) 0 [.par (ns.map .int)] [] = some (.bl true, cs')) : PySem.Challenge.rw_seatworks_k92_whole_swings_and_turning_s.Holds := by
  w_on; o_law
  refine HandSHeadRun.head_any (r := OpenLaw.row PySem.Challenge.rw_seatworks_k92_whole_swings_and_turning_s) (q := view (OpenLaw.row PySem.Challenge.rw_seatworks_k92_whole_swings_and_turning_s).prog [44]) (H := K92.hk) (ob := K92.ob) (M := 4000) (loose := ((["is_integer", "is_within", "is_tuple", "WorkError", "InvalidCouncil", "common", "lowest", "COUNCIL", "MOST_LISTS", "MOST_SEATS", "is_council_any", "want_council"] : List PySem.Str) ++ (["all_lots", "seats_of", "is_won", "won_lots", "swings_of", "sequences_of", "turning_of", "swings", "turning_shares", "_law_pot", "_law_draw", "_law_pick"] : List PySem.Str) ++ (["_law_council", "_law_lots", "_law_wins", "_law_is_in", "_law_least", "_law_rest", "_law_is_count", "_law_divisor", "_law_lowest", "_law_factorial", "_law_swings", "_law_turned"] : List PySem.Str) ++ (["_law_by_lots", "_law_less", "_law_right"] : List PySem.Str))) (d := HandSHeadRun.topDef (OpenLaw.row PySem.Challenge.rw_seatworks_k92_whole_swings_and_turning_s).prog 44) (kwd := []) K92.ob_eq
    (by kernel_rfl) (fun s => by kernel_rfl) K92.run (by kernel_rfl) (by kernel_rfl) (by kernel_rfl) (by rfl) (by first | assumption | decide +kernel) (by decide +kernel) ⟨rfl, rfl, rfl, rfl, rfl, by decide +kernel⟩ ?hw ?hc
  case hw => w_witness2
  case hc =>
    refine Ev.walkG (l := PySem.Challenge.rw_seatworks_k92_whole_swings_and_turning_s) (k := 40 + 1) (x := "script") rfl (by kernel_rfl) ⟨rfl, by decide, by decide⟩ (by decide +kernel) ?F
    intro w mg fa h Y G hmg0
    have hmg : mg ("law" : PySem.Str) = some (.ref fa) := by
      have e : (HandSHeadRun.topDef (OpenLaw.row PySem.Challenge.rw_seatworks_k92_whole_swings_and_turning_s).prog 44).name = ("law" : PySem.Str) := by kernel_rfl
      rw [← e]
      exact hmg0
    exact K92.goal_of ev _ w mg fa h Y G hmg
end
theorem PySem.Challenge.cw_seatworks_k92_whole_swings_and_turning_s_holds : PySem.Challenge.rw_seatworks_k92_whole_swings_and_turning_s.Holds :=
  holds_K92 fun ns _ => K92.law_ok ns
