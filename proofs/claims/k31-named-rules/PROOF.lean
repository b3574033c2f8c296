import PyProof.Rows.All
import Wide.All
import OpenK.AllK
import Wide.FinOn
import HandS.ForMost
import HandS.Deep
import KE.SortData
import HandS.TupAny
import HandS.TupMul
import HandS.Conv
import HandS.Style
import PyProof.Rows.InDataRows
import HandS.Star
import HandS.Flow
import HandS.Strs
import HandS.IsInst
import HandS.Iter
import KE.GoesEnum
import KE.GoesMore
import KE.KAssignIn
import HandS.Codes
import HandS.HeadWalk
import HandS.More
import PySem.Challenge.RW_selfsort_k31_whole_named_rules
set_option Elab.async false
set_option linter.all false
set_option maxRecDepth 100000
/-! VL: a small value language; its functional semantics. -/
namespace VL
open PySem

inductive Fld | d (x : PyData) | l (xs : List PyData)
inductive OV | lst (l : List PyData) | obj (c : Str) (fs : List (Str × Fld))
inductive Slot | un | shr (d : PyData) | own (o : OV) | io (o : OV) | scr (ns : List Int)
abbrev Env := List Slot
inductive AV | sh (d : PyData) | io (o : OV) | scr (ns : List Int)
inductive PK | sh | io | scr
inductive Opv | st (d : PyData) | sl (i : Nat)

inductive P2 | bin (o : Operator) | cmp (o : CmpOp)
inductive Bi | len | int | max | min | list | tuple | sorted | all | any | repr | abs
inductive Me | index | count

/-- targets -/
inductive Tg | nm (i : Nat) | fl (i : Nat) (f : Str) | tp (l : List Tg)

mutual
inductive E
  | var (i : Nat)
  | lit (d : PyData)
  | glb (x : Str) (d : PyData)
  | neg (a : E)
  | op2 (p : P2) (a b : E)
  | chain (o1 o2 : CmpOp) (a b c : E)
  | and (es : Es)
  | or (es : Es)
  | not (a : E)
  | ite (c a b : E)
  | tup (es : Es)
  | lst (es : Es)
  | idx (a b : E)
  | slc (a : E) (lo hi : Eo)
  | scut (i : Nat) (lo hi : Eo)
  | rev (a : E)
  | bi (b : Bi) (es : Es)
  | lrange (tup : Bool) (a : E)
  | me (m : Me) (o a : E)
  | pop (i : Nat) (a : E)
  | call (f : Str) (as : As)
  | callL (f : Str) (es : Es)
  | comp (elt : E) (tg : Tg) (src : Src) (cond : Eo) (own : List Nat)
  | fld (i : Nat) (f : Str)
  | lfld (i : Nat) (f : Str)
  | meth (i : Nat) (c : Str) (m : Str) (as : As)
  | isin (n : Str) (a : E)
  | dsel (ks : List Str) (es : Es) (k : E)
  | dsor (ks : List Str) (es : Es) (k d : E)
inductive Es
  | nil
  | cons (star : Bool) (e : E) (r : Es)
inductive Eo
  | no
  | so (e : E)
inductive As
  | nil
  | sh (e : E) (r : As)
  | io (i : Nat) (r : As)
  | ioc (f : Str) (i : Nat) (r : As)
  | scr (i : Nat) (r : As)
inductive Src
  | ex (e : E)
  | range (e : E)
  | range2 (a b : E)
  | enum (e : E)
  | zip (a b : E)
end

/-- what a name takes: a value, a new list, a new object -/
inductive Pe
  | v (e : E)
  | o (e : E)
  | n (c : Str) (as : As)
mutual
inductive S
  | pass | brk | cnt | never
  | ret (e : E)
  | retN
  | retO (e : E)
  | retV (i : Nat)
  | retSelf (i : Nat)
  | asg (t : Tg) (e : E)
  | set (i : Nat) (p : Pe)
  | par (is : List Nat) (ps : List Pe)
  | ex (e : E)
  | app (i : Nat) (e : E)
  | ext (i : Nat) (e : E)
  | ins (i : Nat) (a e : E)
  | seti (i : Nat) (a e : E)
  | sfld (i : Nat) (f : Str) (e : E)
  | sfldO (i : Nat) (f : Str)
  | appf (i : Nat) (f : Str) (is : List Nat)
  | ite (c : E) (a b : Ss)
  | for_ (t : Tg) (s : Src) (b : Ss)
  | while_ (c : E) (b : Ss)
inductive Ss
  | nil
  | cons (s : S) (r : Ss)
end
end VL

set_option Elab.async false
set_option linter.all false
set_option maxRecDepth 100000
/-! VL: the functional semantics. none: no statement is made of this way. -/
namespace VL
open PySem

def lineN : Nat := 16777216

abbrev Calls := Str → List AV → Option (PyData × List OV)

def OV.data : OV → Option PyData
  | .lst l => some (.list l)
  | .obj _ _ => none
def setS (env : Env) (i : Nat) (s : Slot) : Env := env.set i s
def getS (env : Env) (i : Nat) : Slot := (env[i]?).getD .un

def resolve (env : Env) : Opv → Option PyData
  | .st d => some d
  | .sl i => match getS env i with
    | .own o => o.data
    | .io o => o.data
    | _ => none

def isD : PyData → PyData → Option Bool
  | a, .none => some (match a with | .none => true | _ => false)
  | .bool a, .bool b => some (a == b)
  | _, _ => none
def inD (x : PyData) : PyData → Option Bool
  | .list ds => if SeqAt.shaped x && SeqAt.shaped (.list ds) then some (ds.any fun z => PyData.eqv z x) else none
  | .tuple ds => if SeqAt.shaped x && SeqAt.shaped (.tuple ds) then some (ds.any fun z => PyData.eqv z x) else none
  | _ => none
def eqD (a b : PyData) : Option Bool := if SeqAt.shaped a && SeqAt.shaped b then some (PyData.eqv a b) else none
def ordD (f : Int → Int → Bool) : PyData → PyData → Option Bool
  | .int i, .int j => some (f i j)
  | _, _ => none
def cmpD : CmpOp → PyData → PyData → Option Bool
  | .Eq, a, b => eqD a b
  | .NotEq, a, b => (eqD a b).map not
  | .Lt, a, b => ordD (fun i j => decide (i < j)) a b
  | .LtE, a, b => ordD (fun i j => decide (i ≤ j)) a b
  | .Gt, a, b => ordD (fun i j => decide (j < i)) a b
  | .GtE, a, b => ordD (fun i j => decide (j ≤ i)) a b
  | .Is, a, b => isD a b
  | .IsNot, a, b => (isD a b).map not
  | .In, a, b => inD a b
  | .NotIn, a, b => (inD a b).map not
def binD : Operator → PyData → PyData → Option PyData
  | .Add, .int i, .int j => some (.int (i + j))
  | .Add, .list a, .list b => if a.length + b.length ≤ lineN then some (.list (a ++ b)) else none
  | .Add, .tuple a, .tuple b => if a.length + b.length ≤ lineN then some (.tuple (a ++ b)) else none
  | .Sub, .int i, .int j => some (.int (i - j))
  | .Mult, .int i, .int j => if i.natAbs < 2 ^ 64 ∨ j.natAbs < 2 ^ 64 then some (.int (i * j)) else none
  | .Mult, .tuple a, .int k => if k.natAbs ≤ 1000 ∧ a.length ≤ 1000 then some (.tuple (List.replicate k.toNat a).flatten) else none
  | .Mult, .list a, .int k => if k.natAbs ≤ 1000 ∧ a.length ≤ 1000 then some (.list (List.replicate k.toNat a).flatten) else none
  | .FloorDiv, .int i, .int j => if 0 < j ∧ j < 1073741824 then some (.int (i / j)) else none
  | .Mod, .int i, .int j => if 0 < j then some (.int (i % j)) else none
  | .Pow, .int i, .int j => if 0 ≤ j ∧ j ≤ 1000000 ∧ i.natAbs < 2 ^ 64 then some (.int (i ^ j.toNat)) else none
  | _, _, _ => none
def op2D : P2 → PyData → PyData → Option PyData
  | .bin o, a, b => binD o a b
  | .cmp o, a, b => (cmpD o a b).map .bool

/-- truth -/
def truD : PyData → Option Bool
  | .none => some false
  | .bool b => some b
  | .int i => some (i != 0)
  | _ => none

def atD {α : Type} (xs : List α) (i : Int) : Option α :=
  if 0 ≤ i then (if i < xs.length then xs[i.toNat]? else none) else if -(xs.length : Int) ≤ i then xs[(i + xs.length).toNat]? else none
def idxD : PyData → PyData → Option PyData
  | .list xs, .int i => atD xs i
  | .tuple xs, .int i => atD xs i
  | _, _ => none
def sIx (n d : Nat) : Option Int → Nat
  | none => d
  | some v => if v < 0 then (v + n).toNat else min v.toNat n
def cutD (xs : List PyData) (lo hi : Option Int) : List PyData := (xs.drop (sIx xs.length 0 lo)).take (sIx xs.length xs.length hi - sIx xs.length 0 lo)
def slcD : PyData → Option Int → Option Int → Option PyData
  | .list xs, lo, hi => some (.list (cutD xs lo hi))
  | .tuple xs, lo, hi => some (.tuple (cutD xs lo hi))
  | _, _, _ => none
def revD : PyData → Option PyData
  | .list xs => some (.list xs.reverse)
  | .tuple xs => some (.tuple xs.reverse)
  | _ => none
def intsD : List PyData → Option (List Int)
  | [] => some []
  | .int i :: r => (intsD r).map (i :: ·)
  | _ :: _ => none
def boolsD : List PyData → Option (List Bool)
  | [] => some []
  | .bool i :: r => (boolsD r).map (i :: ·)
  | _ :: _ => none
def maxI : List Int → Option Int
  | [] => none
  | i :: r => some (r.foldl (fun m j => if j > m then j else m) i)
def minI : List Int → Option Int
  | [] => none
  | i :: r => some (r.foldl (fun m j => if j < m then j else m) i)
def seqD : PyData → Option (List PyData)
  | .list xs => some xs
  | .tuple xs => some xs
  | _ => none
def splD : Bool → PyData → Option (List PyData)
  | true, d => seqD d
  | false, d => some [d]
def biD : Bi → List PyData → Option PyData
  | .len, [d] => (seqD d).map fun xs => .int xs.length
  | .int, [.int i] => some (.int i)
  | .int, [.bool b] => some (.int (if b then 1 else 0))
  | .max, [.int i, .int j] => some (.int (if j > i then j else i))
  | .min, [.int i, .int j] => some (.int (if j < i then j else i))
  | .max, [.list xs] => (intsD xs).bind fun l => (maxI l).map .int
  | .min, [.list xs] => (intsD xs).bind fun l => (minI l).map .int
  | .list, [d] => (seqD d).map .list
  | .tuple, [d] => (seqD d).map .tuple
  | .all, [.list xs] => (boolsD xs).map fun l => .bool (l.all id)
  | .any, [.list xs] => (boolsD xs).map fun l => .bool (l.any id)
  | .repr, [.bool b] => some (.str (if b then "True" else "False"))
  | .repr, [.none] => some (.str "None")
  | _, _ => none
def findD (x : PyData) (xs : List PyData) : Option Nat := xs.findIdx? fun z => PyData.eqv z x
def meD : Me → PyData → PyData → Option PyData
  | .index, .list xs, x => if SeqAt.shaped x && SeqAt.shaped (.list xs) then (findD x xs).map fun (n : Nat) => .int n else none
  | .index, .tuple xs, x => if SeqAt.shaped x && SeqAt.shaped (.tuple xs) then (findD x xs).map fun (n : Nat) => .int n else none
  | .count, .list xs, x => if SeqAt.shaped x && SeqAt.shaped (.list xs) then some (.int (xs.countP fun z => PyData.eqv z x)) else none
  | .count, .tuple xs, x => if SeqAt.shaped x && SeqAt.shaped (.tuple xs) then some (.int (xs.countP fun z => PyData.eqv z x)) else none
  | _, _, _ => none
mutual
def immD : PyData → Bool
  | .list _ => false
  | .dict _ => false
  | .tuple xs => immAll xs
  | _ => true
def immAll : List PyData → Bool
  | [] => true
  | x :: r => immD x && immAll r
end
def rangeD (a b : Int) : Option (List PyData) :=
  if -1000000 ≤ a ∧ a ≤ 1000000 ∧ -1000000 ≤ b ∧ b ≤ 1000000 then some ((List.range (b - a).toNat).map fun (k : Nat) => .int (a + k)) else none
def enumD (xs : List PyData) : List PyData := (List.range xs.length).zipWith (fun (k : Nat) x => .tuple [.int k, x]) xs
def zipD (xs ys : List PyData) : List PyData := xs.zipWith (fun x y => .tuple [x, y]) ys

def holdsB : Slot → Bool
  | .own _ => true
  | .io _ => true
  | _ => false
def putO (env : Env) (i : Nat) (o : OV) : Env := match getS env i with
  | .own _ => setS env i (.own o)
  | .io _ => setS env i (.io o)
  | _ => env
def lstOf : Slot → Option (List PyData)
  | .own (.lst l) => some l
  | .io (.lst l) => some l
  | _ => none
def fldsOf : Slot → Option (Str × List (Str × Fld))
  | .own (.obj c fs) => some (c, fs)
  | .io (.obj c fs) => some (c, fs)
  | _ => none
def putFl (f : Str) (v : Fld) : List (Str × Fld) → List (Str × Fld)
  | [] => [(f, v)]
  | (g, x) :: r => if g = f then (g, v) :: r else (g, x) :: putFl f v r
/-- a name may take a value -/
def freeS : Slot → Bool
  | .io _ => false
  | .scr _ => false
  | _ => true
def isinD (n : Str) : PyData → Option Bool
  | .none => some false
  | .bool _ => some (decide (n = "int") || decide (n = "bool"))
  | .int _ => some (decide (n = "int"))
  | .str _ => some (decide (n = "str"))
  | .list _ => some (decide (n = "list"))
  | .tuple _ => some (decide (n = "tuple"))
  | _ => none
/-- a written dict of ints with text keys, read -/
def intsB (ds : List PyData) : Bool := ds.all fun d => match d with
  | .int _ => true
  | _ => false
def dselD (ks : List Str) (ds : List PyData) : PyData → Option (Option PyData)
  | .str x => if intsB ds && decide (ks.length = ds.length) && decide (ks.length ≤ 15) && decide (ks.Nodup) then some ((ks.zip ds).lookup x) else none
  | _ => none
/-! a target takes a value -/
mutual
def putTg : Tg → PyData → Env → Option Env
  | .fl i f, d, env => match fldsOf (getS env i) with
    | some (c, fs) => if fs.length < 100 then some (putO env i (.obj c (putFl f (.d d) fs))) else none
    | none => none
  | .nm i, d, env => if decide (i < env.length) && freeS (getS env i) then some (setS env i (.shr d)) else none
  | .tp l, .tuple ds, env => putTgs l ds env
  | .tp _, _, _ => none
def putTgs : List Tg → List PyData → Env → Option Env
  | [], [], env => some env
  | t :: ts, d :: ds, env => (putTg t d env).bind fun env => putTgs ts ds env
  | _, _, _ => none
end

/-- own names of a comprehension's block: none of them owns -/
def wipeE (env : Env) : List Nat → Option Env
  | [] => some env
  | i :: r => (wipeE env r).bind fun e => match getS env i with
    | .shr _ => some (setS e i .un)
    | .un => some (setS e i .un)
    | _ => none
def backE (env old : Env) : List Nat → Env
  | [] => env
  | i :: r => setS (backE env old r) i (getS old i)

def compGo (tg : Tg) (own : List Nat) (cond : Option (Env → Option (Bool × Env))) (elt : Env → Option (PyData × Env)) : List PyData → Env → Option (List PyData × Env)
  | [], env => (wipeE env own).map fun _ => ([], env)
  | d :: ds, env => do
    let env ← wipeE env own
    let env ← putTg tg d env
    let (ok, env) ← match cond with
      | none => some (true, env)
      | some c => c env
    if ok then
      let (y, env) ← elt env
      let (ys, env) ← compGo tg own cond elt ds env
      some (y :: ys, env)
    else compGo tg own cond elt ds env

def asObj (c : Str) : OV → Option (List (Str × Fld))
  | .obj c' fs => if c = c' then some fs else none
  | _ => none
inductive Arg | sh (d : PyData) | io (i : Nat) | scr (ns : List Int)
/-- the arguments as they are when the call begins -/
def argsAt (env : Env) : List Arg → Option (List AV)
  | [] => some []
  | .sh d :: r => (argsAt env r).map (.sh d :: ·)
  | .scr d :: r => (argsAt env r).map (.scr d :: ·)
  | .io i :: r => (argsAt env r).bind fun l => match getS env i with
    | .own o => some (.io o :: l)
    | .io o => some (.io o :: l)
    | _ => none
def argsBack (env : Env) : List Arg → List OV → Option Env
  | [], [] => some env
  | .sh _ :: r, os => argsBack env r os
  | .scr _ :: r, os => argsBack env r os
  | .io i :: r, o :: os => argsBack (putO env i o) r os
  | _, _ => none
def ioIx : List Arg → List Nat
  | [] => []
  | .io i :: r => i :: ioIx r
  | _ :: r => ioIx r
def nodupB : List Nat → Bool
  | [] => true
  | i :: r => !r.contains i && nodupB r
def argsN (env : Env) (as : List Arg) : Option (List AV) := if nodupB (ioIx as) then argsAt env as else none
def callAt (C : Calls) (f : Str) (as : List Arg) (env : Env) : Option (PyData × Env) := do
  let avs ← argsN env as
  let (d, os) ← C f avs
  let env ← argsBack env as os
  some (d, env)
def resolveAll (env : Env) : List Opv → Option (List PyData)
  | [] => some []
  | o :: r => do
    let d ← resolve env o
    let ds ← resolveAll env r
    some (d :: ds)

/-- an operand: a name that owns is looked up when the operation runs -/
def opv (e : E) (r : Env → Option (PyData × Env)) (env : Env) : Option (Opv × Env) :=
  match e with
  | .var i => match getS env i with
    | .own _ => some (.sl i, env)
    | .io _ => some (.sl i, env)
    | _ => (r env).map fun p => (.st p.1, p.2)
  | _ => (r env).map fun p => (.st p.1, p.2)
mutual
def evE (C : Calls) : E → Env → Option (PyData × Env)
  | .var i, env => match getS env i with
    | .shr d => some (d, env)
    | .own o => o.data.map fun d => (d, setS env i (.shr d))
    | _ => none
  | .lit d, env => some (d, env)
  | .glb _ d, env => some (d, env)
  | .neg a, env => do
    let (d, env) ← evE C a env
    match d with
    | .int i => some (.int (-i), env)
    | _ => none
  | .op2 p a b, env => do
    let (x, env) ← opv a (evE C a) env
    let (y, env) ← opv b (evE C b) env
    let x ← resolve env x
    let y ← resolve env y
    let d ← op2D p x y
    some (d, env)
  | .chain o1 o2 a b c, env => do
    let (x, env) ← evE C a env
    let (y, env) ← evE C b env
    let k ← cmpD o1 x y
    if k then
      let (z, env) ← evE C c env
      let m ← cmpD o2 y z
      some (.bool m, env)
    else some (.bool false, env)
  | .and es, env => evAnd C es env
  | .or es, env => evOr C es env
  | .not a, env => do
    let (x, env) ← evE C a env
    let k ← truD x
    some (.bool (!k), env)
  | .ite c a b, env => do
    let (x, env) ← evE C c env
    let k ← truD x
    if k then evE C a env else evE C b env
  | .tup es, env => do
    let (ds, env) ← evEs C es env
    if ds.length ≤ lineN then some (.tuple ds, env) else none
  | .lst es, env => do
    let (ds, env) ← evEs C es env
    if ds.length ≤ lineN then some (.list ds, env) else none
  | .idx a b, env => do
    let (x, env) ← opv a (evE C a) env
    let (y, env) ← evE C b env
    let x ← resolve env x
    let d ← idxD x y
    some (d, env)
  | .slc a lo hi, env => do
    let (x, env) ← opv a (evE C a) env
    let (l, env) ← evEo C lo env
    let (h, env) ← evEo C hi env
    let x ← resolve env x
    let d ← slcD x l h
    some (d, env)
  | .scut i lo hi, env => match getS env i with
    | .scr ns => do
      let (l, env) ← evEo C lo env
      let (h, env) ← evEo C hi env
      some (.list (cutD (ns.map .int) l h), env)
    | _ => none
  | .rev a, env => do
    let (x, env) ← opv a (evE C a) env
    let x ← resolve env x
    let d ← revD x
    some (d, env)
  | .bi b es, env => do
    let (xs, env) ← evRs C es env
    let xs ← resolveAll env xs
    let d ← biD b xs
    some (d, env)
  | .lrange t a, env => do
    let (x, env) ← evE C a env
    match x with
    | .int n => (rangeD 0 n).map fun l => (if t then .tuple l else .list l, env)
    | _ => none
  | .me m o a, env => do
    let (x, env) ← opv o (evE C o) env
    let x0 ← resolve env x
    let _ ← seqD x0
    let (y, env) ← evE C a env
    let x ← resolve env x
    let d ← meD m x y
    some (d, env)
  | .pop i a, env => do
    let _ ← lstOf (getS env i)
    let (y, env) ← evE C a env
    let xs ← lstOf (getS env i)
    match y with
    | .int k => if 0 ≤ k ∧ k < xs.length ∧ xs.length ≤ lineN then (xs[k.toNat]?).map fun d => (d, putO env i (.lst (xs.eraseIdx k.toNat))) else none
    | _ => none
  | .call f as, env => do
    let (as, env) ← evAs C as env
    callAt C f as env
  | .callL f es, env => do
    let (xs, env) ← evRs C es env
    let xs ← resolveAll env xs
    let (d, os) ← C f (xs.map .sh)
    if immD d && os.isEmpty then some (d, env) else none
  | .comp elt tg src cond own, env => do
    let (ds, env) ← evSrc C src env
    let (ys, env') ← compGo tg own (match cond with
      | .no => none
      | .so c => some fun env => do
        let (x, env) ← evE C c env
        let k ← truD x
        some (k, env)) (evE C elt) ds env
    if ds.length ≤ lineN then some (.list ys, backE env' env own) else none
  | .fld i f, env => match fldsOf (getS env i) with
    | some (_, fs) => match fs.lookup f with
      | some (.d x) => some (x, env)
      | _ => none
    | none => none
  | .lfld i f, env => match fldsOf (getS env i) with
    | some (_, fs) => match fs.lookup f with
      | some (.l x) => some (.list x, env)
      | _ => none
    | none => none
  | .meth i c m as, env => match fldsOf (getS env i) with
    | some (c', fs) => if c' = c ∧ fs.lookup m = none then do
        let (as, env) ← evAs C as env
        callAt C (c ++ "." ++ m) (.io i :: as) env
      else none
    | none => none
  | .isin n a, env => do
    let (x, env) ← opv a (evE C a) env
    let x ← resolve env x
    let b ← isinD n x
    some (.bool b, env)
  | .dsel ks es k, env => do
    let (ds, env) ← evEs C es env
    let (x, env) ← evE C k env
    let o ← dselD ks ds x
    match o with
    | some d => some (d, env)
    | none => none
  | .dsor ks es k d, env => do
    let (ds, env) ← evEs C es env
    let (x, env) ← evE C k env
    let (y, env) ← evE C d env
    let o ← dselD ks ds x
    some (o.getD y, env)
def evAnd (C : Calls) : Es → Env → Option (PyData × Env)
  | .nil, _ => none
  | .cons _ a .nil, env => evE C a env
  | .cons _ a (.cons s b r), env => do
    let (x, env) ← evE C a env
    let k ← truD x
    if k then evAnd C (.cons s b r) env else some (x, env)
def evOr (C : Calls) : Es → Env → Option (PyData × Env)
  | .nil, _ => none
  | .cons _ a .nil, env => evE C a env
  | .cons _ a (.cons s b r), env => do
    let (x, env) ← evE C a env
    let k ← truD x
    if k then some (x, env) else evOr C (.cons s b r) env
def evEs (C : Calls) : Es → Env → Option (List PyData × Env)
  | .nil, env => some ([], env)
  | .cons star e r, env => do
    let (d, env) ← evE C e env
    let ds ← splD star d
    let (rs, env) ← evEs C r env
    some (ds ++ rs, env)
def evRs (C : Calls) : Es → Env → Option (List Opv × Env)
  | .nil, env => some ([], env)
  | .cons _ e r, env => do
    let (d, env) ← opv e (evE C e) env
    let (rs, env) ← evRs C r env
    some (d :: rs, env)
def evEo (C : Calls) : Eo → Env → Option (Option Int × Env)
  | .no, env => some (none, env)
  | .so e, env => do
    let (d, env) ← evE C e env
    match d with
    | .int i => some (some i, env)
    | _ => none
def evAs (C : Calls) : As → Env → Option (List Arg × Env)
  | .nil, env => some ([], env)
  | .sh e r, env => do
    let (d, env) ← evE C e env
    let (as, env) ← evAs C r env
    some (.sh d :: as, env)
  | .io i r, env => if holdsB (getS env i) then do
      let (as, env) ← evAs C r env
      some (.io i :: as, env)
    else none
  | .ioc f i r, env => if holdsB (getS env i) then do
      let (_, env) ← callAt C f [.io i] env
      let (as, env) ← evAs C r env
      some (.io i :: as, env)
    else none
  | .scr i r, env => match getS env i with
    | .scr ns => do
      let (as, env) ← evAs C r env
      some (.scr ns :: as, env)
    | _ => none
def evSrc (C : Calls) : Src → Env → Option (List PyData × Env)
  | .ex e, env => do
    let (d, env) ← evE C e env
    let l ← seqD d
    some (l, env)
  | .range e, env => do
    let (d, env) ← evE C e env
    match d with
    | .int n => (rangeD 0 n).map fun l => (l, env)
    | _ => none
  | .range2 a b, env => do
    let (x, env) ← evE C a env
    let (y, env) ← evE C b env
    match x, y with
    | .int a, .int b => (rangeD a b).map fun l => (l, env)
    | _, _ => none
  | .enum e, env => do
    let (d, env) ← evE C e env
    let l ← seqD d
    some (enumD l, env)
  | .zip a b, env => do
    let (x, env) ← evE C a env
    let (y, env) ← evE C b env
    let x ← seqD x
    let y ← seqD y
    some (zipD x y, env)
end
end VL

set_option Elab.async false
set_option linter.all false
set_option maxRecDepth 100000
/-! VL: statements and defs. -/
namespace VL
open PySem

inductive Fl | nx | bk | ct | rt (d : PyData) | ro (d : PyData) | rs (i : Nat)

def insD (xs : List PyData) (k : Nat) (d : PyData) : List PyData := xs.take k ++ d :: xs.drop k

def whileGo (c : Env → Option (Bool × Env)) (b : Env → Option (Fl × Env)) : Nat → Env → Option (Fl × Env)
  | 0, _ => none
  | n + 1, env => do
    let (k, env) ← c env
    if k then
      let (f, env) ← b env
      match f with
      | .nx => whileGo c b n env
      | .ct => whileGo c b n env
      | .bk => some (.nx, env)
      | f => some (f, env)
    else some (.nx, env)
def forGo (tg : Tg) (b : Env → Option (Fl × Env)) : List PyData → Env → Option (Fl × Env)
  | [], env => some (.nx, env)
  | d :: ds, env => do
    let env ← putTg tg d env
    let (f, env) ← b env
    match f with
    | .nx => forGo tg b ds env
    | .ct => forGo tg b ds env
    | .bk => some (.nx, env)
    | f => some (f, env)
def shrs (env : Env) : List Nat → Option (List PyData)
  | [] => some []
  | i :: r => match getS env i with
    | .shr d => (shrs env r).map (d :: ·)
    | _ => none
inductive PV | v (d : PyData) | o (o : OV)
def evP (C : Calls) : Pe → Env → Option (PV × Env)
  | .v e, env => (evE C e env).map fun p => (.v p.1, p.2)
  | .o e, env => do
    let (d, env) ← evE C e env
    match d with
    | .list l => some (.o (.lst l), env)
    | _ => none
  | .n c as, env => do
    let (as, env) ← evAs C as env
    let avs ← argsN env as
    let (d, os) ← C (c ++ ".__init__") (.io (.obj c []) :: avs)
    match d, os with
    | .none, o :: os => do
      let env ← argsBack env as os
      some (.o o, env)
    | _, _ => none
def evPs (C : Calls) : List Pe → Env → Option (List PV × Env)
  | [], env => some ([], env)
  | p :: ps, env => do
    let (v, env) ← evP C p env
    let (vs, env) ← evPs C ps env
    some (v :: vs, env)
def putPs : List Nat → List PV → Env → Option Env
  | [], [], env => some env
  | i :: is, v :: vs, env => if decide (i < env.length) && freeS (getS env i) then putPs is vs (setS env i (match v with | .v d => .shr d | .o o => .own o)) else none
  | _, _, _ => none
def tst (C : Calls) (e : E) (env : Env) : Option (Bool × Env) := do
  let (x, env) ← evE C e env
  let k ← truD x
  some (k, env)

mutual
def xS (C : Calls) (N : Nat) : S → Env → Option (Fl × Env)
  | .pass, env => some (.nx, env)
  | .brk, env => some (.bk, env)
  | .cnt, env => some (.ct, env)
  | .never, _ => none
  | .ret e, env => (evE C e env).map fun p => (.rt p.1, p.2)
  | .retN, env => some (.rt .none, env)
  | .retO e, env => do
    let (d, env) ← evE C e env
    match d with
    | .list _ => some (.ro d, env)
    | _ => none
  | .retV i, env => match getS env i with
    | .own (.lst l) => some (.ro (.list l), env)
    | _ => none
  | .retSelf i, env => match getS env i with
    | .io _ => some (.rs i, env)
    | _ => none
  | .asg t e, env => do
    let (d, env) ← evE C e env
    let env ← putTg t d env
    some (.nx, env)
  | .set i p, env => do
    let (v, env) ← evP C p env
    let env ← putPs [i] [v] env
    some (.nx, env)
  | .par is ps, env => do
    let (vs, env) ← evPs C ps env
    let env ← putPs is vs env
    some (.nx, env)
  | .ex e, env => (evE C e env).map fun p => (.nx, p.2)
  | .app i e, env => do
    let _ ← lstOf (getS env i)
    let (d, env) ← evE C e env
    let l ← lstOf (getS env i)
    if l.length < lineN then some (.nx, putO env i (.lst (l ++ [d]))) else none
  | .ext i e, env => do
    let _ ← lstOf (getS env i)
    let (d, env) ← evE C e env
    let l ← lstOf (getS env i)
    match d with
    | .list ds => if l.length + ds.length ≤ lineN then some (.nx, putO env i (.lst (l ++ ds))) else none
    | _ => none
  | .ins i a e, env => do
    let _ ← lstOf (getS env i)
    let (k, env) ← evE C a env
    let (d, env) ← evE C e env
    let l ← lstOf (getS env i)
    match k with
    | .int k => if 0 ≤ k ∧ k < 4611686018427387904 ∧ l.length < lineN then some (.nx, putO env i (.lst (insD l k.toNat d))) else none
    | _ => none
  | .seti i a e, env => do
    let (d, env) ← evE C e env
    let _ ← lstOf (getS env i)
    let (k, env) ← evE C a env
    let l ← lstOf (getS env i)
    match k with
    | .int k => if 0 ≤ k ∧ k < l.length then some (.nx, putO env i (.lst (l.set k.toNat d))) else none
    | _ => none
  | .sfld i f e, env => do
    let (d, env) ← evE C e env
    let (c, fs) ← fldsOf (getS env i)
    if fs.length < 100 then some (.nx, putO env i (.obj c (putFl f (.d d) fs))) else none
  | .sfldO i f, env => do
    let (c, fs) ← fldsOf (getS env i)
    if fs.length < 100 then some (.nx, putO env i (.obj c (putFl f (.l []) fs))) else none
  | .appf i f is, env => do
    let (c, fs) ← fldsOf (getS env i)
    let ds ← shrs env is
    match fs.lookup f with
    | some (.l l) => if l.length < lineN ∧ is.length ≤ 100 then some (.nx, putO env i (.obj c (putFl f (.l (l ++ [.tuple ds])) fs))) else none
    | _ => none
  | .ite c a b, env => do
    let (k, env) ← tst C c env
    if k then xSs C N a env else xSs C N b env
  | .for_ t s b, env => do
    let (ds, env) ← evSrc C s env
    forGo t (xSs C N b) ds env
  | .while_ c b, env => whileGo (tst C c) (xSs C N b) N env
def xSs (C : Calls) (N : Nat) : Ss → Env → Option (Fl × Env)
  | .nil, env => some (.nx, env)
  | .cons s r, env => do
    let (f, env) ← xS C N s env
    match f with
    | .nx => xSs C N r env
    | f => some (f, env)
end

/-- what a def hands back: a value; a new list; its first parameter -/
inductive Ret | val | own | self
  deriving DecidableEq
/-- a def: its slots, its parameters (first slots), its body, whether it hands back a new list -/
structure Def where
  slots : Nat
  params : List PK
  body : Ss
  ret : Ret
def startE (n : Nat) (avs : List AV) : Env := (avs.map fun | .sh d => Slot.shr d | .io o => Slot.io o | .scr ns => Slot.scr ns) ++ List.replicate (n - avs.length) .un
def okArgs : List PK → List AV → Bool
  | [], [] => true
  | .sh :: r, .sh _ :: s => okArgs r s
  | .io :: r, .io _ :: s => okArgs r s
  | .scr :: r, .scr _ :: s => okArgs r s
  | _, _ => false
def iosOf (env : Env) : List PK → Nat → Option (List OV)
  | [], _ => some []
  | .sh :: r, i => iosOf env r (i + 1)
  | .scr :: r, i => iosOf env r (i + 1)
  | .io :: r, i => match getS env i with
    | .io o => (iosOf env r (i + 1)).map (o :: ·)
    | _ => none
def runD (C : Calls) (N : Nat) (d : Def) (avs : List AV) : Option (PyData × List OV) :=
  if okArgs d.params avs then do
    let (f, env) ← xSs C N d.body (startE d.slots avs)
    let os ← iosOf env d.params 0
    match d.ret, f with
    | .val, .nx => some (.none, os)
    | .val, .rt x => some (x, os)
    | .own, .ro x => some (x, os)
    | .self, .rs 0 => some (.none, os)
    | _, _ => none
  else none
/-- calls down to a depth -/
def callN (T : Str → Option Def) (N : Nat) : Nat → Calls
  | 0 => fun _ _ => none
  | n + 1 => fun f avs => (T f).bind fun d => runD (callN T N n) N d avs
end VL

set_option Elab.async false
set_option linter.all false
set_option maxRecDepth 100000
set_option maxHeartbeats 1000000
/-! VL: how values of the language stand in the heap. -/
namespace VL
open PySem L2

abbrev AddrS := Addr → Prop

/-- changes: what is not in Z stays, and is not taken -/
structure Step (H : Hp) (Z : AddrS) (H' : Hp) (Z' : AddrS) : Prop where
  keep : ∀ b o, H b = some o → ¬ Z b → H' b = some o ∧ ¬ Z' b
  dom : ∀ b, H b ≠ none → H' b ≠ none
theorem Step.refl {H : Hp} {Z : AddrS} : Step H Z H Z := ⟨fun b o e n => ⟨e, n⟩, fun b n => n⟩
theorem Step.trans {H H1 H2 : Hp} {Z Z1 Z2 : AddrS} (a : Step H Z H1 Z1) (b : Step H1 Z1 H2 Z2) : Step H Z H2 Z2 :=
  ⟨fun c o e n => b.keep c o (a.keep c o e n).1 (a.keep c o e n).2, fun c n => b.dom c (a.dom c n)⟩
theorem Step.same {H H' : Hp} {Z Z' : AddrS} (h : ∀ b o, H b = some o → H' b = some o) (z : ∀ b, Z' b → Z b) : Step H Z H' Z' :=
  ⟨fun b o e n => ⟨h b o e, fun q => n (z b q)⟩, fun b n => by
    cases e : H b with
    | none => exact absurd e n
    | some o => rw [h b o e]; exact fun z => nomatch z⟩
/-- a new object -/
theorem Step.new {H : Hp} {Z : AddrS} {p : Addr} {o : HO} (n : H p = none) : Step H Z (upd H p o) Z :=
  .same (fun b u e => by rw [upd_ne (ne_of_none e n)]; exact e) fun _ q => q
/-- a change within Z -/
theorem Step.put {H : Hp} {Z : AddrS} {p : Addr} {o : HO} (n : Z p) : Step H Z (upd H p o) Z :=
  ⟨fun b u e q => ⟨by rw [upd_ne (fun z => q (by rw [z]; exact n))]; exact e, q⟩, fun b q => by
    by_cases z : b = p
    · rw [z, upd_same]; exact fun z => nomatch z
    · rw [upd_ne z]; exact q⟩

/-- a list, a tuple that is read, not in Z; a tuple may be the module's -/
def RL (H : Hp) (Z : AddrS) (a : Addr) (xs : List V) : Prop := H a = some (.lst xs) ∧ ¬ Z a
def KT (K : PySem.W.Frag) (a : Addr) (xs : List V) : Prop := ∃ (o : Obj) (its : Array Value) (n : Nat), K.lookup a = some o ∧ o.cls = .type "tuple" ∧ o.dict = none ∧ o.data = .seq its n ∧ its.size ≤ sizeLine ∧ Vals xs its.toList
def KL (K : PySem.W.Frag) (a : Addr) (xs : List V) : Prop := ∃ (o : Obj) (its : Array Value) (n : Nat), K.lookup a = some o ∧ o.cls = .type "list" ∧ o.dict = none ∧ o.data = .seq its n ∧ its.size ≤ sizeLine ∧ Vals xs its.toList
/-- a tuple that was made: its object has no dict -/
def FT (H : Hp) (a : Addr) (xs : List V) : Prop := ∃ o : Obj, o.dict = none ∧ H a = some (.frz o (.tup xs))
def RT (K : PySem.W.Frag) (H : Hp) (Z : AddrS) (a : Addr) (xs : List V) : Prop := (FT H a xs ∧ ¬ Z a) ∨ KT K a xs
theorem RL.sq {K : PySem.W.Frag} {H : Hp} {Z : AddrS} {a : Addr} {xs : List V} (h : RL H Z a xs) : SqL K H a xs := .inl (.inl h.1)
theorem RT.sq {K : PySem.W.Frag} {H : Hp} {Z : AddrS} {a : Addr} {xs : List V} (h : RT K H Z a xs) : SqT K H a xs := h.elim (fun ⟨⟨o, _, z⟩, _⟩ => .inl (.inr ⟨o, z⟩)) fun ⟨o, its, n, a, b, _, c, d, e⟩ => .inr ⟨o, its, n, a, b, c, d, e⟩
theorem RL.step {H H' : Hp} {Z Z' : AddrS} {a : Addr} {xs : List V} (h : RL H Z a xs) (s : Step H Z H' Z') : RL H' Z' a xs := s.keep _ _ h.1 h.2
theorem RT.step {K : PySem.W.Frag} {H H' : Hp} {Z Z' : AddrS} {a : Addr} {xs : List V} (h : RT K H Z a xs) (s : Step H Z H' Z') : RT K H' Z' a xs := h.elim (fun ⟨⟨o, d, z⟩, n⟩ => .inl ⟨⟨o, d, (s.keep _ _ z n).1⟩, (s.keep _ _ z n).2⟩) fun x => .inr x
/-- the script -/
def Scr (K : PySem.W.Frag) (H : Hp) (a : Addr) (xs : List V) : Prop := (∃ o, H a = some (.frz o (.lst xs))) ∨ KL K a xs
theorem Scr.sq {K : PySem.W.Frag} {H : Hp} {a : Addr} {xs : List V} (h : Scr K H a xs) : SqL K H a xs := h.elim (fun x => .inl (.inr x)) fun x => .inr x

mutual
inductive Rep (K : PySem.W.Frag) (H : Hp) (Z : AddrS) : V → PyData → Prop
  | non : Rep K H Z .non .none
  | bl (b : Bool) : Rep K H Z (.bl b) (.bool b)
  | int (i : Int) : Rep K H Z (.int i) (.int i)
  | str (x : Str) : Rep K H Z (.str x) (.str x)
  | lst {a : Addr} {xs : List V} {ds : List PyData} : RL H Z a xs → RepAll K H Z xs ds → Rep K H Z (.ref a) (.list ds)
  | tup {a : Addr} {xs : List V} {ds : List PyData} : RT K H Z a xs → RepAll K H Z xs ds → Rep K H Z (.ref a) (.tuple ds)
inductive RepAll (K : PySem.W.Frag) (H : Hp) (Z : AddrS) : List V → List PyData → Prop
  | nil : RepAll K H Z [] []
  | cons {v : V} {vs : List V} {d : PyData} {ds : List PyData} : Rep K H Z v d → RepAll K H Z vs ds → RepAll K H Z (v :: vs) (d :: ds)
end
section
variable {K : PySem.W.Frag} {H H' : Hp} {Z Z' : AddrS}
mutual
theorem Rep.step (s : Step H Z H' Z') : ∀ {d : PyData} {v : V}, Rep K H Z v d → Rep K H' Z' v d
  | .none, _, h => by cases h; exact .non
  | .bool b, _, h => by cases h; exact .bl b
  | .int i, _, h => by cases h; exact .int i
  | .str x, _, h => by cases h; exact .str x
  | .list ds, _, h => by cases h with | lst a b => exact .lst (a.step s) (RepAll.step s b)
  | .tuple ds, _, h => by cases h with | tup a b => exact .tup (a.step s) (RepAll.step s b)
  | .dict _, _, h => by cases h
theorem RepAll.step (s : Step H Z H' Z') : ∀ {ds : List PyData} {vs : List V}, RepAll K H Z vs ds → RepAll K H' Z' vs ds
  | [], _, h => by cases h; exact .nil
  | d :: ds, _, h => by cases h with | cons a b => exact .cons (Rep.step s a) (RepAll.step s b)
end
mutual
theorem Rep.dp : ∀ {d : PyData} {v : V}, Rep K H Z v d → Dp K H v d
  | .none, _, h => by cases h; exact .non
  | .bool b, _, h => by cases h; exact .bl b
  | .int i, _, h => by cases h; exact .int i
  | .str x, _, h => by cases h; exact .str x
  | .list ds, _, h => by cases h with | lst a b => exact .lst a.sq (RepAll.dp b)
  | .tuple ds, _, h => by cases h with | tup a b => exact .tup a.sq (RepAll.dp b)
  | .dict _, _, h => by cases h
theorem RepAll.dp : ∀ {ds : List PyData} {vs : List V}, RepAll K H Z vs ds → DpAll K H vs ds
  | [], _, h => by cases h; exact .nil
  | d :: ds, _, h => by cases h with | cons a b => exact .cons (Rep.dp a) (RepAll.dp b)
end
theorem RepAll.length : ∀ {ds : List PyData} {vs : List V}, RepAll K H Z vs ds → vs.length = ds.length
  | [], _, h => by cases h; rfl
  | d :: ds, _, h => by cases h with | cons a b => simp [RepAll.length b]
theorem RepAll.append : ∀ {ds es : List PyData} {vs ws : List V}, RepAll K H Z vs ds → RepAll K H Z ws es → RepAll K H Z (vs ++ ws) (ds ++ es)
  | [], _, _, _, h, g => by cases h; exact g
  | d :: ds, _, _, _, h, g => by cases h with | cons a b => exact .cons a (RepAll.append b g)
theorem RepAll.get : ∀ {ds : List PyData} {vs : List V} {i : Nat} {d : PyData}, RepAll K H Z vs ds → ds[i]? = some d → ∃ v, vs[i]? = some v ∧ Rep K H Z v d
  | [], _, _, _, h, e => by simp at e
  | d :: ds, _, 0, _, h, e => by
    cases h with | cons a b =>
      simp at e; subst e; exact ⟨_, rfl, a⟩
  | d :: ds, _, i + 1, _, h, e => by
    cases h with | cons a b =>
      obtain ⟨v, h1, h2⟩ := RepAll.get (i := i) b (by simpa using e)
      exact ⟨v, by simpa using h1, h2⟩
theorem RepAll.get' {ds : List PyData} {vs : List V} {i : Nat} {v : V} (h : RepAll K H Z vs ds) (e : vs[i]? = some v) : ∃ d, ds[i]? = some d ∧ Rep K H Z v d := by
  have hl := h.length
  obtain ⟨h1, _⟩ := List.getElem?_eq_some_iff.mp e
  have : i < ds.length := by omega
  obtain ⟨w, hw, r⟩ := h.get (List.getElem?_eq_getElem this)
  rw [e] at hw; cases hw
  exact ⟨_, List.getElem?_eq_getElem this, r⟩
theorem RepAll.of : ∀ {ds : List PyData} {vs : List V}, vs.length = ds.length → (∀ (i : Nat) v d, vs[i]? = some v → ds[i]? = some d → Rep K H Z v d) → RepAll K H Z vs ds
  | [], [], _, _ => .nil
  | [], _ :: _, h, _ => by simp at h
  | _ :: _, [], h, _ => by simp at h
  | d :: ds, v :: vs, h, f => .cons (f 0 v d rfl rfl) (RepAll.of (by simpa using h) fun i w e h1 h2 => f (i + 1) w e (by simpa using h1) (by simpa using h2))
theorem RepAll.take {ds : List PyData} {vs : List V} (h : RepAll K H Z vs ds) (n : Nat) : RepAll K H Z (vs.take n) (ds.take n) := by
  refine .of (by simp [h.length]) fun i v d h1 h2 => ?_
  rw [List.getElem?_take] at h1 h2
  split at h1
  · rename_i q
    rw [if_pos q] at h2
    obtain ⟨w, hw, r⟩ := h.get h2
    rw [h1] at hw; cases hw; exact r
  · cases h1
theorem RepAll.drop {ds : List PyData} {vs : List V} (h : RepAll K H Z vs ds) (n : Nat) : RepAll K H Z (vs.drop n) (ds.drop n) := by
  refine .of (by simp [h.length]) fun i v d h1 h2 => ?_
  rw [List.getElem?_drop] at h1 h2
  obtain ⟨w, hw, r⟩ := h.get h2
  rw [h1] at hw; cases hw; exact r
theorem RepAll.set {ds : List PyData} {vs : List V} (h : RepAll K H Z vs ds) (n : Nat) {v : V} {d : PyData} (r : Rep K H Z v d) : RepAll K H Z (vs.set n v) (ds.set n d) := by
  refine .of (by simp [h.length]) fun i w e h1 h2 => ?_
  rw [List.getElem?_set] at h1 h2
  have hl := h.length
  split at h1
  · rename_i q
    rw [if_pos q] at h2
    split at h1
    · rename_i q2
      rw [if_pos (by omega)] at h2
      cases h1; cases h2; exact r
    · cases h1
  · rename_i q
    rw [if_neg q] at h2
    obtain ⟨w', hw, r'⟩ := h.get h2
    rw [h1] at hw; cases hw; exact r'
theorem RepAll.reverse {ds : List PyData} {vs : List V} (h : RepAll K H Z vs ds) : RepAll K H Z vs.reverse ds.reverse := by
  have hl := h.length
  refine .of (by simp [h.length]) fun i v d h1 h2 => ?_
  have hi : i < ds.length := by
    obtain ⟨q, _⟩ := List.getElem?_eq_some_iff.mp h2
    simpa using q
  rw [List.getElem?_reverse (by omega)] at h1
  rw [List.getElem?_reverse hi] at h2
  rw [hl] at h1
  obtain ⟨w', hw, r'⟩ := h.get h2
  rw [h1] at hw; cases hw; exact r'
theorem RepAll.eraseIdx {ds : List PyData} {vs : List V} (h : RepAll K H Z vs ds) (n : Nat) : RepAll K H Z (vs.eraseIdx n) (ds.eraseIdx n) := by
  have hl := h.length
  refine .of (by simp [List.length_eraseIdx, hl]) fun i v d h1 h2 => ?_
  rw [List.getElem?_eraseIdx] at h1 h2
  split at h1
  · rename_i q
    rw [if_pos q] at h2
    obtain ⟨w', hw, r'⟩ := h.get h2
    rw [h1] at hw; cases hw; exact r'
  · rename_i q
    rw [if_neg q] at h2
    obtain ⟨w', hw, r'⟩ := h.get h2
    rw [h1] at hw; cases hw; exact r'
theorem RepAll.rep {ds : List PyData} {vs : List V} (h : RepAll K H Z vs ds) : ∀ n : Nat, RepAll K H Z (List.replicate n vs).flatten (List.replicate n ds).flatten
  | 0 => .nil
  | n + 1 => by
    rw [List.replicate_succ, List.replicate_succ, List.flatten_cons, List.flatten_cons]
    exact h.append (RepAll.rep h n)
end

/-- the root may be in Z (a name that owns it) -/
inductive WRep (K : PySem.W.Frag) (H : Hp) (Z : AddrS) : V → PyData → Prop
  | of {v : V} {d : PyData} : Rep K H Z v d → WRep K H Z v d
  | lst {a : Addr} {xs : List V} {ds : List PyData} : H a = some (.lst xs) → RepAll K H Z xs ds → WRep K H Z (.ref a) (.list ds)
section
variable {K : PySem.W.Frag} {H H' : Hp} {Z Z' : AddrS}
theorem WRep.dp {v : V} {d : PyData} (h : WRep K H Z v d) : Dp K H v d := by
  cases h with
  | of h => exact h.dp
  | lst a b => exact .lst (.inl (.inl a)) b.dp
theorem WRep.list {v : V} {ds : List PyData} (h : WRep K H Z v (.list ds)) : ∃ a xs, v = .ref a ∧ SqL K H a xs ∧ RepAll K H Z xs ds := by
  cases h with
  | of h => cases h with | lst a b => exact ⟨_, _, rfl, a.sq, b⟩
  | lst a b => exact ⟨_, _, rfl, .inl (.inl a), b⟩
theorem WRep.tuple {v : V} {ds : List PyData} (h : WRep K H Z v (.tuple ds)) : ∃ a xs, v = .ref a ∧ RT K H Z a xs ∧ RepAll K H Z xs ds := by
  cases h with
  | of h => cases h with | tup a b => exact ⟨_, _, rfl, a, b⟩
theorem WRep.int {v : V} {i : Int} (h : WRep K H Z v (.int i)) : v = .int i := by
  cases h with
  | of h => cases h; rfl
theorem WRep.bool {v : V} {i : Bool} (h : WRep K H Z v (.bool i)) : v = .bl i := by
  cases h with
  | of h => cases h; rfl
theorem WRep.str {v : V} {i : Str} (h : WRep K H Z v (.str i)) : v = .str i := by
  cases h with
  | of h => cases h; rfl
theorem WRep.none {v : V} (h : WRep K H Z v .none) : v = .non := by
  cases h with
  | of h => cases h; rfl
end

/-! ### what a name owns -/
inductive RFld (K : PySem.W.Frag) (H : Hp) (Z : AddrS) : V → Fld → List Addr → Prop
  | d {v : V} {x : PyData} : Rep K H Z v x → RFld K H Z v (.d x) []
  | l {a : Addr} {xs : List V} {ds : List PyData} : H a = some (.lst xs) → RepAll K H Z xs ds → RFld K H Z (.ref a) (.l ds) [a]
inductive RFlds (K : PySem.W.Frag) (H : Hp) (Z : AddrS) : List (Str × V) → List (Str × Fld) → List Addr → Prop
  | nil : RFlds K H Z [] [] []
  | cons {f : Str} {v : V} {x : Fld} {r : List (Str × V)} {s : List (Str × Fld)} {l m : List Addr} : RFld K H Z v x l → RFlds K H Z r s m → RFlds K H Z ((f, v) :: r) ((f, x) :: s) (l ++ m)
/-- the class of a name -/
abbrev ClsT := Str → Option Addr
inductive Own (K : PySem.W.Frag) (cl : ClsT) (H : Hp) (Z : AddrS) : V → OV → List Addr → Prop
  | lst {a : Addr} {xs : List V} {ds : List PyData} : H a = some (.lst xs) → RepAll K H Z xs ds → Own K cl H Z (.ref a) (.lst ds) [a]
  | obj {a C dx : Addr} {c : Str} {fs : List (Str × V)} {gs : List (Str × Fld)} {l : List Addr} : cl c = some C → H a = some (.ins C dx fs) → fs.length ≤ 100 → RFlds K H Z fs gs l → Own K cl H Z (.ref a) (.obj c gs) (a :: l)
section
variable {K : PySem.W.Frag} {cl : ClsT} {H H' : Hp} {Z Z' : AddrS}
theorem RFld.move {v : V} {x : Fld} {l : List Addr} (h : RFld K H Z v x l) (s : Step H Z H' Z') (k : ∀ a ∈ l, H' a = H a) : RFld K H' Z' v x l := by
  cases h with
  | d r => exact .d (r.step s)
  | l a b => exact .l (by rw [k _ (by simp)]; exact a) (b.step s)
theorem RFlds.move : ∀ {fs : List (Str × V)} {gs : List (Str × Fld)} {l : List Addr}, RFlds K H Z fs gs l → Step H Z H' Z' → (∀ a ∈ l, H' a = H a) → RFlds K H' Z' fs gs l
  | _, _, _, .nil, _, _ => .nil
  | _, _, _, .cons a b, s, k => .cons (a.move s fun c hc => k c (List.mem_append_left _ hc)) (RFlds.move b s fun c hc => k c (List.mem_append_right _ hc))
/-- what is owned stays where its own addresses stay -/
theorem Own.move {v : V} {o : OV} {l : List Addr} (h : Own K cl H Z v o l) (s : Step H Z H' Z') (k : ∀ a ∈ l, H' a = H a) : Own K cl H' Z' v o l := by
  cases h with
  | lst a b => exact .lst (by rw [k _ (by simp)]; exact a) (b.step s)
  | obj c a n b => exact .obj c (by rw [k _ (by simp)]; exact a) n (b.move s fun c hc => k c (by simp [hc]))
theorem Own.lstInv {v : V} {l : List PyData} {g : List Addr} (h : Own K cl H Z v (.lst l) g) : ∃ a xs, v = .ref a ∧ H a = some (.lst xs) ∧ RepAll K H Z xs l ∧ g = [a] := by
  cases h with
  | lst a b => exact ⟨_, _, rfl, a, b, rfl⟩
theorem Own.objInv {v : V} {c : Str} {gs : List (Str × Fld)} {g : List Addr} (h : Own K cl H Z v (.obj c gs) g) : ∃ a C dx fs l, v = .ref a ∧ cl c = some C ∧ H a = some (.ins C dx fs) ∧ fs.length ≤ 100 ∧ RFlds K H Z fs gs l ∧ g = a :: l := by
  cases h with
  | obj a b n d => exact ⟨_, _, _, _, _, rfl, a, b, n, d, rfl⟩
theorem RFlds.dom : ∀ {fs : List (Str × V)} {gs : List (Str × Fld)} {l : List Addr}, RFlds K H Z fs gs l → ∀ a ∈ l, ∃ xs, H a = some (.lst xs)
  | _, _, _, .nil, _, h => by simp at h
  | _, _, _, .cons a b, c, hc => by
    rcases List.mem_append.mp hc with h | h
    · cases a with
      | d r => simp at h
      | l e _ => simp at h; subst h; exact ⟨_, e⟩
    · exact RFlds.dom b c h
theorem Own.dom {v : V} {o : OV} {l : List Addr} (h : Own K cl H Z v o l) : ∀ a ∈ l, Mut (H a) := fun c hc => by
  cases h with
  | lst a b => simp at hc; subst hc; rw [a]; trivial
  | obj q a n b =>
    rcases List.mem_cons.mp hc with h | h
    · subst h; rw [a]; trivial
    · obtain ⟨xs, e⟩ := b.dom c h
      rw [e]; trivial
end

/-! ### the state -/
structure FP where
  Zc : AddrS
  H0 : Hp
  mi : Nat → AddrS
  av : Nat → Option V
def FP.M0 (F : FP) : AddrS := fun a => ∃ i, F.mi i a
/-- new, or given to be changed -/
def FP.Fre (F : FP) (a : Addr) : Prop := F.H0 a = none ∨ F.M0 a
def FP.FreI (F : FP) (i : Nat) (a : Addr) : Prop := F.H0 a = none ∨ F.mi i a
theorem FP.FreI.fre {F : FP} {i : Nat} {a : Addr} (h : F.FreI i a) : F.Fre a := h.imp id fun z => ⟨i, z⟩
def ZZ (Zc : AddrS) (G : Nat → List Addr) : AddrS := fun a => Zc a ∨ ∃ i, a ∈ G i
structure SR (K : PySem.W.Frag) (cl : ClsT) (F : FP) (env : Env) (G : Nat → List Addr) (σ : St) (H : Hp) : Prop where
  len : env.length = σ.length
  shr : ∀ i d, getS env i = .shr d → ∃ v, σ[i]? = some (some v) ∧ Rep K H (ZZ F.Zc G) v d
  own : ∀ i o, getS env i = .own o → ∃ v, σ[i]? = some (some v) ∧ Own K cl H (ZZ F.Zc G) v o (G i) ∧ (∀ a ∈ G i, F.FreI i a ∧ ¬ F.Zc a)
  io : ∀ i o, getS env i = .io o → ∃ v, σ[i]? = some (some v) ∧ F.av i = some v ∧ Own K cl H (ZZ F.Zc G) v o (G i) ∧ (∀ a ∈ G i, F.FreI i a)
  scr : ∀ i ns, getS env i = .scr ns → ∃ a, σ[i]? = some (some (.ref a)) ∧ Scr K H a (ns.map V.int)
  off : ∀ i, (∀ o, getS env i ≠ .own o) → (∀ o, getS env i ≠ .io o) → i < σ.length → G i = []
  pd : ∀ i, σ.length ≤ i → ∀ a ∈ G i, Mut (H a) ∧ F.H0 a = none ∧ ¬ F.Zc a
  disj : ∀ i j a, a ∈ G i → a ∈ G j → i = j
  nd : ∀ i, (G i).Nodup
  dom : ∀ a, F.Zc a → Mut (H a)
  zc : ∀ a, F.Zc a → F.H0 a ≠ none
  kept : ∀ b o, F.H0 b = some o → ¬ F.M0 b → H b = some o
  dom0 : ∀ b, F.H0 b ≠ none → H b ≠ none
  mil : ∀ i a, F.mi i a → i < σ.length
section
variable {K : PySem.W.Frag} {cl : ClsT} {F : FP} {env env' : Env} {G G' : Nat → List Addr} {σ σ' : St} {H H' : Hp}
theorem getS_lt {i : Nat} (h : getS env i ≠ .un) : i < env.length := by
  unfold getS at h
  cases e : env[i]? with
  | none => rw [e] at h; exact absurd rfl h
  | some s => exact (List.getElem?_eq_some_iff.mp e).1
theorem SR.mut (S : SR K cl F env G σ H) {a : Addr} (h : ZZ F.Zc G a) : Mut (H a) := by
  rcases h with h | ⟨i, h⟩
  · exact S.dom a h
  · by_cases hi : σ.length ≤ i
    · exact (S.pd i hi a h).1
    · have hi : i < σ.length := by omega
      cases e : getS env i with
      | own o => obtain ⟨v, _, r, _⟩ := S.own i o e; exact r.dom a h
      | io o => obtain ⟨v, _, _, r, _⟩ := S.io i o e; exact r.dom a h
      | un => rw [S.off i (fun o z => by rw [e] at z; cases z) (fun o z => by rw [e] at z; cases z) hi] at h; cases h
      | shr d => rw [S.off i (fun o z => by rw [e] at z; cases z) (fun o z => by rw [e] at z; cases z) hi] at h; cases h
      | scr d => rw [S.off i (fun o z => by rw [e] at z; cases z) (fun o z => by rw [e] at z; cases z) hi] at h; cases h
theorem mut_ne {o : Option HO} (h : Mut o) : o ≠ none := by intro z; subst z; exact h
theorem SR.fresh (S : SR K cl F env G σ H) {p : Addr} (h : H p = none) : ¬ ZZ F.Zc G p := fun z => mut_ne (S.mut z) h
/-- the heap has grown, or changed outside of what the state leans on -/
theorem SR.heap (S : SR K cl F env G σ H) (h : ∀ b o, H b = some o → H' b = some o) : SR K cl F env G σ H' := by
  have s : Step H (ZZ F.Zc G) H' (ZZ F.Zc G) := .same h fun _ q => q
  have k : ∀ a, ZZ F.Zc G a → H' a = H a := fun a z => by
    cases e : H a with
    | none => exact absurd e (mut_ne (S.mut z))
    | some o => exact h a o e
  exact ⟨S.len, fun i d e => let ⟨v, h1, r⟩ := S.shr i d e; ⟨v, h1, r.step s⟩,
    fun i o e => let ⟨v, h1, r, q⟩ := S.own i o e; ⟨v, h1, r.move s fun a ha => k a (.inr ⟨i, ha⟩), q⟩,
    fun i o e => let ⟨v, h1, h2, r, q⟩ := S.io i o e; ⟨v, h1, h2, r.move s fun a ha => k a (.inr ⟨i, ha⟩), q⟩,
    fun i ns e => let ⟨a, h1, r⟩ := S.scr i ns e; ⟨a, h1, r.elim (fun ⟨o, z⟩ => .inl ⟨o, h _ _ z⟩) .inr⟩, S.off, fun i hi a z => by rw [k a (.inr ⟨_, z⟩)]; exact S.pd i hi a z, S.disj, S.nd, fun a z => by rw [k a (.inl z)]; exact S.dom a z, S.zc, fun b o e n => h b o (S.kept b o e n), (fun b n z => by
      cases e : H b with
      | none => exact S.dom0 b n e
      | some o => rw [h b o e] at z; cases z), S.mil⟩
theorem SR.new (S : SR K cl F env G σ H) {p : Addr} {o : HO} (h : H p = none) : SR K cl F env G σ (upd H p o) := S.heap fun b u e => by rw [upd_ne (ne_of_none e h)]; exact e
end
end VL

set_option Elab.async false
set_option linter.all false
set_option maxRecDepth 100000
set_option maxHeartbeats 2000000
/-! VL: tuples that are made, with their objects known. -/
namespace VL
open PySem L2
open PyProof.Rows

section
variable {X : Cx} {pins : List (Addr × Obj)} {σ : L2.St} {H : Hp} {s : Shared}
/-- wanted of a new tuple -/
abbrev QT (Q : VK) (H : Hp) (xs : List V) : Prop := ∀ (p : Addr) (o : Obj), H p = none → o.dict = none → Q (.ref p) (upd H p (.frz o (.tup xs)))
theorem tnew {ys : List V} {its : List Value} {t' : Nat} (I : Inv X pins σ H s) (hv : Vals ys its) (hz : ys.length ≤ sizeLine) {Q : VK} (q : QT Q H ys) :
    EP X pins σ Q (.ref s.heap.objs.size) { s with heap := s.heap.push { cls := .type "tuple", data := .seq its.toArray }, toks := t' } := by
  refine ⟨.ref s.heap.objs.size, _, I.laid (t' := t') (o := .frz { cls := .type "tuple", data := .seq its.toArray } (.tup ys)) (fun b ob q => Heap.get?_push_of_some _ q) (Nat.le_refl _) ?_, rfl, q _ _ (I.hok.fresh (Nat.le_refl _)) rfl⟩
  exact ⟨Heap.get?_push_size _ rfl, hz, its, hv, IsTup.new _ _⟩
theorem pe_tupF {es : List Expr} {t : TA} {pos : Pos} {x1} (h : PA X es t) : PE X (.Tuple es x1 pos) (fun σ H Q => t σ H fun xs H1 => xs.length ≤ sizeLine ∧ QT Q H1 xs) := by
  refine ⟨fun pins s σ H Q I hq => ?_⟩
  refine wpAny_Tuple_spliced (thn (h.run pos pins s σ H _ I hq) fun us s1 ⟨xs, H1, I1, r, z, q⟩ => ⟨by rw [← r.length]; exact z, ?_⟩)
  exact tnew (t' := s1.toks) I1 r z q
theorem tupleF : CallR X (.type "tuple") (fun xs H Q => ∃ p ys, xs = [.ref p] ∧ ((SqL X.K H p ys ∧ QT Q H ys) ∨ (SqT X.K H p ys ∧ Q (.ref p) H))) := by
  intro pins s σ H xs us Q I r h
  obtain ⟨p, ys, rfl, h⟩ := h
  obtain ⟨u, rfl, rx⟩ := vals1 r
  cases rx
  rcases h with ⟨hq, q⟩ | ⟨hq, q⟩
  · obtain ⟨its, r', pl, hz⟩ := I.list hq
    have hlen := r'.length
    refine call_tuple_list pl.isList (fun h' kp => ?_) (by simp only [List.size_toArray] <;> omega)
    exact tnew (s := { s with heap := h' }) (t' := s.toks) (I.kept (t' := s.toks) kp) r' hz q
  · obtain ⟨its, r', pl, hz⟩ := I.tuple hq
    exact call_tuple_same pl ⟨.ref p, H, I, rfl, q⟩
theorem catF : OpR X (binaryOp .Add) (fun x y H Q => ∃ a b xs ys, x = .ref a ∧ y = .ref b ∧ SqT X.K H a xs ∧ SqT X.K H b ys ∧ xs.length + ys.length ≤ sizeLine ∧
    (xs = [] → Q (.ref b) H) ∧ (xs ≠ [] → ys = [] → Q (.ref a) H) ∧ (xs ≠ [] → ys ≠ [] → QT Q H (xs ++ ys))) := by
  intro pins s σ H x y v u Q I rx ry h
  obtain ⟨a, b, xs, ys, rfl, rfl, ha, hb, hz, q0, q1, q2⟩ := h
  cases rx
  cases ry
  obtain ⟨its, r1, p1, _⟩ := I.tuple ha
  obtain ⟨its2, r2, p2, _⟩ := I.tuple hb
  by_cases hx : xs = []
  · subst hx
    cases r1
    exact cat_tup0 p1 p2 ⟨.ref b, H, I, rfl, q0 rfl⟩
  · refine HT.cat_tup p1 p2 (fun z => hx (r1.nil_iff.mp z)) (fun z => ⟨.ref a, H, I, rfl, q1 hx (r2.nil_iff.mp z)⟩) (fun z => ?_) (by rw [← r1.length, ← r2.length]; exact hz)
    exact tnew (t' := s.toks) I (r1.append r2) (by rw [List.length_append]; exact hz) (q2 hx fun w => z (r2.nil_iff.mpr w))
theorem slF : SlR X (fun x lo hi H Q => ∃ a xs, x = .ref a ∧ SqT X.K H a xs ∧ (cutV xs lo hi = xs → Q (.ref a) H) ∧ QT Q H (cutV xs lo hi)) := by
  intro pins s σ H x v vl vu lo hi sl Q I rx hs pl pu h
  obtain ⟨a, xs, rfl, hx, q1, q2⟩ := h
  cases rx
  obtain ⟨its, r, ht, hz⟩ := I.tuple hx
  have hlen : its.toArray.size = xs.length := by rw [List.size_toArray]; exact r.length.symm
  refine ⟨"tuple", _, PyProof.Rows.slot_tuple_getitem.lookup, ht.typeIs, ?_⟩
  by_cases hw : HT.sIx xs.length 0 lo = 0 ∧ HT.sIx xs.length xs.length hi = xs.length
  · refine getItem_tuple_whole ht hs pl pu (by rw [hlen]; exact hw) ⟨.ref a, H, I, rfl, q1 ?_⟩
    unfold cutV
    rw [hw.1, hw.2]
    simp
  · refine HT.getItem_tuple_cut ht hs pl pu (by rw [hlen]; exact hw) ?_ (by rw [hlen]; exact hz)
    rw [hlen]
    exact tnew (t' := s.toks) I ((r.drop (HT.sIx xs.length 0 lo)).take (HT.sIx xs.length xs.length hi - HT.sIx xs.length 0 lo)) (Nat.le_trans (cutV_length xs lo hi) hz) q2
/-- t * 1, () * k: the tuple itself -/
theorem tuple_mul_same (l : Addr) (items : Array Value) (n : Nat) (sl : Array (Option Value)) (x : Int) (u : Tok) (c0 : (decide (x < -(2 ^ 63)) || decide (x ≥ 2 ^ 63)) = false) (c1 : (items.isEmpty || x == 1) = true) :
    Meets (Builtin.«tuple.__mul__» ⟨[.ref l, .int x u], []⟩) (fun _ R s => s.heap.get? l = some { cls := .type "tuple", data := .seq items n, slots := sl } ∧ R (.ok (.ret (Value.ref l))) s) :=
  .of_wp fun prog w A R s h => by
    obtain ⟨hp, g, d, tk, os⟩ := s
    obtain ⟨hl, h⟩ := h
    have f1 := AutoSeq1.idx_int
    wp_walk using wpAny_loadPart' hl
    repeat (first
      | (refine wpAny_ite_false (decide_eq_false (by rw [c0]; exact Bool.false_ne_true)) ?_; wp_walk using wpAny_loadPart' hl)
      | (refine wpAny_ite_true (decide_eq_true (by rw [c1])) ?_; wp_walk using wpAny_loadPart' hl))
    exact ⟨_, rfl, h⟩
/-- t * 0: a new empty one -/
theorem tuple_mul_none (l : Addr) (items : Array Value) (n : Nat) (sl : Array (Option Value)) (x : Int) (u : Tok) (c0 : (decide (x < -(2 ^ 63)) || decide (x ≥ 2 ^ 63)) = false) (c1 : (items.isEmpty || x == 1) = false) (c2 : (decide (x ≤ 0) || items.isEmpty) = true) :
    Meets (Builtin.«tuple.__mul__» ⟨[.ref l, .int x u], []⟩) (fun _ R s => s.heap.get? l = some { cls := .type "tuple", data := .seq items n, slots := sl } ∧
      R (.ok (.ret (Value.ref s.heap.objs.size))) { s with heap := s.heap.push { cls := Value.type "tuple", data := Data.seq ([] : List Value).toArray }, toks := s.toks }) :=
  .of_wp fun prog w A R s h => by
    obtain ⟨hp, g, d, tk, os⟩ := s
    obtain ⟨hl, h⟩ := h
    have f1 := AutoSeq1.idx_int
    wp_walk using wpAny_loadPart' hl
    repeat (first
      | (refine wpAny_ite_false (decide_eq_false (by rw [c0]; exact Bool.false_ne_true)) ?_; wp_walk using wpAny_loadPart' hl)
      | (refine wpAny_ite_false (decide_eq_false (by rw [c1]; exact Bool.false_ne_true)) ?_; wp_walk using wpAny_loadPart' hl)
      | (refine wpAny_ite_true (decide_eq_true (by rw [c2])) ?_; wp_walk using wpAny_loadPart' hl))
    exact ⟨_, rfl, h⟩
theorem repF0 : OpR X (binaryOp .Mult) (fun x y H Q => ∃ l k xs, x = .ref l ∧ y = .int k ∧ (FT H l xs ∨ KT X.K l xs) ∧ k.natAbs ≤ 1000 ∧ ((xs = [] ∨ k = 1) ∧ Q (.ref l) H ∨ xs ≠ [] ∧ k ≤ 0 ∧ QT Q H [])) := by
  intro pins s σ H x y v u Q I rx ry h
  obtain ⟨l, k, xs, rfl, rfl, hT, hk, h⟩ := h
  cases rx
  obtain ⟨t, rfl⟩ := ry
  have hsq : SqT X.K H l xs := by
    rcases hT with ⟨o, _, z⟩ | ⟨o, its, n, a, b, _, c, d, e⟩
    · exact .inl (.inr ⟨o, z⟩)
    · exact .inr ⟨o, its, n, a, b, c, d, e⟩
  have hnd : ∀ ob, s.heap.get? l = some ob → ob.dict = none := fun ob e => by
    rcases hT with ⟨o, hd, z⟩ | ⟨o, its, n, a, b, hd, c, d, f⟩
    · obtain ⟨h1, _⟩ := I.hok l _ z
      rw [h1] at e; cases e; exact hd
    · rw [I.kIn l o a] at e; cases e; exact hd
  obtain ⟨its, r, ⟨⟨cls, dd, data, sl⟩, ho, hc, n, hd⟩, hs⟩ := I.tuple hsq
  have hdd := hnd _ ho
  simp only at hc hd hdd
  subst hc hd hdd
  have hle : its.length = xs.length := r.length.symm
  have c0 : (decide (k < -(2 ^ 63)) || decide (k ≥ 2 ^ 63)) = false := by
    rw [decide_eq_false (by omega), decide_eq_false (by omega)] <;> rfl
  have go : ∀ {P : Prop → Prop}, True := fun {_} => trivial
  rcases h with ⟨h1, q⟩ | ⟨h1, h2, q⟩
  · have c1 : (its.toArray.isEmpty || k == 1) = true := by
      rcases h1 with h1 | h1
      · have : its = [] := by subst h1; exact List.eq_nil_of_length_eq_zero hle
        subst this; rfl
      · subst h1; simp
    exact wpAny_binaryOp_repeat_ref (T := "tuple") (U := "int") (by decide) ⟨_, ho, rfl⟩ (fun s' => typeIs_int s' k t) noFill_tuple_mul F.fills_int_mul F.slot_int_rmul repeat_tuple F.slot_int_index.lookup
      (call_meets F.slot_int_rmul (typeIs_int s k t) F.entry_int_rmul (F.args_int_rmul_2 _ _) (int_rmul_tuple k t l its.toArray n none sl)
        ⟨ho, rfl, ⟨_, ho, rfl⟩, call_meets F.slot_tuple_mul ⟨_, ho, rfl⟩ F.entry_tuple_mul (F.args_tuple_mul_2 _ _) (tuple_mul_same l its.toArray n sl k t c0 c1) ⟨ho, .ref l, H, I, rfl, q⟩⟩)
  · have hn : its ≠ [] := fun e => h1 (by
      rw [e] at hle
      exact List.eq_nil_of_length_eq_zero hle.symm)
    have hi : its.toArray.isEmpty = false := by
      cases its with
      | nil => exact absurd rfl hn
      | cons a b => rfl
    have c1 : (its.toArray.isEmpty || k == 1) = false := by
      rw [hi, Bool.false_or]
      exact beq_eq_false_iff_ne.mpr (by omega)
    have c2 : (decide (k ≤ 0) || its.toArray.isEmpty) = true := by
      rw [decide_eq_true h2]; rfl
    exact wpAny_binaryOp_repeat_ref (T := "tuple") (U := "int") (by decide) ⟨_, ho, rfl⟩ (fun s' => typeIs_int s' k t) noFill_tuple_mul F.fills_int_mul F.slot_int_rmul repeat_tuple F.slot_int_index.lookup
      (call_meets F.slot_int_rmul (typeIs_int s k t) F.entry_int_rmul (F.args_int_rmul_2 _ _) (int_rmul_tuple k t l its.toArray n none sl)
        ⟨ho, rfl, ⟨_, ho, rfl⟩, call_meets F.slot_tuple_mul ⟨_, ho, rfl⟩ F.entry_tuple_mul (F.args_tuple_mul_2 _ _) (tuple_mul_none l its.toArray n sl k t c0 c1 c2) ⟨ho, tnew (t' := s.toks) I .nil (by decide) q⟩⟩)
theorem repF : OpR X (binaryOp .Mult) (fun x y H Q => ∃ l k xs, x = .ref l ∧ y = .int k ∧ SqT X.K H l xs ∧ xs ≠ [] ∧ 2 ≤ k ∧ k ≤ 1000 ∧ xs.length ≤ 1000 ∧ QT Q H (List.replicate k.toNat xs).flatten) := by
  intro pins s σ H x y v u Q I rx ry h
  obtain ⟨l, k, xs, rfl, rfl, hT, hne, h1, h2, hz, q⟩ := h
  cases rx
  obtain ⟨t, rfl⟩ := ry
  obtain ⟨its, r, ⟨⟨cls, dd, data, sl⟩, ho, hc, n, hd⟩, hs⟩ := I.tuple hT
  simp only at hc hd
  subst hc hd
  have hle : its.length = xs.length := r.length.symm
  have hn : its ≠ [] := fun e => hne (by
    rw [e] at hle
    exact List.eq_nil_of_length_eq_zero hle.symm)
  have hi : its.toArray.isEmpty = false := by
    cases its with
    | nil => exact absurd rfl hn
    | cons a b => rfl
  have hsz0 : its.toArray.size = xs.length := by rw [List.size_toArray, hle]
  have hm : ((its.toArray.size : Nat) : Int) * k ≤ 1000000 := by
    rw [hsz0]
    have a1 : ((xs.length : Nat) : Int) * k ≤ 1000 * k := Int.mul_le_mul_of_nonneg_right (by omega) (by omega)
    omega
  have flen : (List.replicate k.toNat its).flatten.length ≤ sizeLine := by
    rw [PyProof.Rows.lm_len_rep_flat, hle, sizeLine_eq]
    have a1 : k.toNat * xs.length ≤ 1000 * 1000 := Nat.mul_le_mul (by omega) hz
    omega
  have c0 : (decide (k < -(2 ^ 63)) || decide (k ≥ 2 ^ 63)) = false := by
    rw [decide_eq_false (by omega), decide_eq_false (by omega)] <;> rfl
  have c1 : (its.toArray.isEmpty || k == 1) = false := by
    rw [hi, Bool.false_or]
    exact beq_eq_false_iff_ne.mpr (by omega)
  have c2 : (decide (k ≤ 0) || its.toArray.isEmpty) = false := by
    rw [hi, Bool.or_false]
    exact decide_eq_false (by omega)
  have c4 : Builtin.Tuple.tupleTooMany (((its.toArray.size : Nat) : Int) * k) = false := by
    unfold Builtin.Tuple.tupleTooMany
    rw [sizeLine_eq]
    exact decide_eq_false (by omega)
  refine wpAny_binaryOp_repeat_ref (T := "tuple") (U := "int") (by decide) ⟨_, ho, rfl⟩ (fun s' => typeIs_int s' k t) noFill_tuple_mul F.fills_int_mul F.slot_int_rmul repeat_tuple F.slot_int_index.lookup
    (call_meets F.slot_int_rmul (typeIs_int s k t) F.entry_int_rmul (F.args_int_rmul_2 _ _) (int_rmul_tuple k t l its.toArray n dd sl)
      ⟨ho, rfl, ⟨_, ho, rfl⟩, call_meets F.slot_tuple_mul ⟨_, ho, rfl⟩ F.entry_tuple_mul (F.args_tuple_mul_2 _ _) (tuple_mulW l its.toArray n dd sl k t c0 c1 c2 (by omega) c4 (by rw [size_rep, List.size_toArray]; exact flen)) ⟨ho, ?_⟩⟩)
  rw [size_rep]
  exact tnew (t' := s.toks) I (r.rep k.toNat) (by rw [PyProof.Rows.lm_len_rep_flat, sizeLine_eq]; have a1 : k.toNat * xs.length ≤ 1000 * 1000 := Nat.mul_le_mul (by omega) hz; omega) q
variable {e : Expr} {te : L2.St → Hp → (Int → Int → Hp → Prop) → Prop}
theorem pe_tupRgF {p pos : Pos} (hc : X.calm = true) (hg : Gl X "tuple") (hm : X.mg "tuple" = none) (he : PRg X e te) (na : starEach [e] X.env = (false, eval e X.env) :: starEach [] X.env) : PE X (.Call (.Name "tuple" p) [e] [] pos)
    (fun σ H Q => te σ H fun a b H1 => RgOk a b ∧ QT Q H1 (rgV a b)) := by
  refine ⟨fun pins s σ H Q I h => ?_⟩
  refine Call_ (ld_blt I hg hm boot_tuple (PyProof.Rows.callWith_type1 (args_cons (thn (he pins s σ H _ I h) fun x s1 ⟨r, a, b, t, u, v, H1, ex, hr, I1, ok, q⟩ => args_nil ?_) na) na))
  subst ex
  obtain ⟨b1, b2, b3, b4, b5⟩ := ok
  refine call_tuple_range (n := (b - a).toNat) (I1.ok.hd hc) hr (small_one b1 b2 b3 b4) (rangeSize_nat a b) b5 fun h' tk acc hk hi => ?_
  have I2 : Inv X pins σ H1 { s1 with heap := h', toks := tk } := I1.kept hk
  have z := tnew (t' := tk) I2 (vals_rg hi) (by rw [rgV_length, sizeLine_eq]; omega) q
  rw [Array.toArray_toList] at z
  exact z
end
end VL

set_option Elab.async false
set_option linter.all false
set_option maxRecDepth 100000
set_option maxHeartbeats 2000000
/-! VL: the operators. -/
namespace VL
open PySem L2
open PyProof.Rows

abbrev Ext (H H' : Hp) : Prop := ∀ q o, H q = some o → H' q = some o
theorem Ext.refl {H : Hp} : Ext H H := fun _ _ e => e
theorem Ext.new {H : Hp} {p : Addr} {o : HO} (n : H p = none) : Ext H (upd H p o) := fun b u e => by rw [upd_ne (ne_of_none e n)]; exact e
theorem Ext.step {H H' : Hp} {Z : AddrS} (h : Ext H H') : Step H Z H' Z := .same h fun _ q => q
def Zd (Z : AddrS) (H : Hp) : Prop := ∀ p, Z p → H p ≠ none

/-- a list that is new -/
def FrL (K : PySem.W.Frag) (H : Hp) (Z : AddrS) (H' : Hp) (v : V) (d : PyData) : Prop := ∃ a xs ds, v = .ref a ∧ d = .list ds ∧ H a = none ∧ H' = upd H a (.lst xs) ∧ RepAll K H Z xs ds
def isL : PyData → Bool
  | .list _ => true
  | _ => false
/-- what an operation hands on; lists are new ones -/
def Gv (K : PySem.W.Frag) (H : Hp) (Z : AddrS) (d : PyData) (Q : VK) : Prop := ∀ v H', Ext H H' → Rep K H' Z v d → (isL d = true → FrL K H Z H' v d) → Q v H'
section
variable {K : PySem.W.Frag} {H : Hp} {Z : AddrS} {Q : VK}
theorem Gv.int {i : Int} (g : Gv K H Z (.int i) Q) : Q (.int i) H := g _ _ .refl (.int i) fun h => nomatch h
theorem Gv.bool {i : Bool} (g : Gv K H Z (.bool i) Q) : Q (.bl i) H := g _ _ .refl (.bl i) fun h => nomatch h
theorem Gv.non (g : Gv K H Z .none Q) : Q .non H := g _ _ .refl .non fun h => nomatch h
theorem Gv.newL {ds : List PyData} {xs : List V} (g : Gv K H Z (.list ds) Q) (zd : Zd Z H) (r : RepAll K H Z xs ds) : ∀ p, H p = none → Q (.ref p) (upd H p (.lst xs)) := fun p n =>
  g _ _ (.new n) (.lst ⟨upd_same, fun z => zd p z n⟩ (r.step (Step.new n))) fun _ => ⟨p, xs, ds, rfl, rfl, n, rfl, r⟩
theorem Gv.newT {ds : List PyData} {xs : List V} (g : Gv K H Z (.tuple ds) Q) (zd : Zd Z H) (r : RepAll K H Z xs ds) : QT Q H xs := fun p o n d =>
  g _ _ (.new n) (.tup (.inl ⟨⟨o, d, upd_same⟩, fun z => zd p z n⟩) (r.step (Step.new n))) fun h => nomatch h
theorem Gv.same {d : PyData} {v : V} (g : Gv K H Z d Q) (h : isL d = false) (r : Rep K H Z v d) : Q v H := g _ _ .refl r fun z => by rw [h] at z; cases z
end
def r2 (K : PySem.W.Frag) (f : PyData → PyData → Option PyData) : R2 := fun x y H Q => ∃ Z a b d, Zd Z H ∧ WRep K H Z x a ∧ WRep K H Z y b ∧ f a b = some d ∧ Gv K H Z d Q

section
variable {X : Cx} {k : Nat}
theorem lineEq : sizeLine = lineN := sizeLine_eq
theorem hu65 (hr : Room k X.A) : X.A.units + 65 < cLine := by have := hr.un; omega
theorem hu64 (hr : Room k X.A) : X.A.units + 64 < cLine := by have := hr.un; omega

/-! ### comparisons -/
theorem cmp_eq (hr : Room k X.A) : OpR X (compareOp .Eq) (r2 X.K fun a b => (eqD a b).map .bool) := by
  intro pins s σ H x y v u Q I rx ry ⟨Z, a, b, d, zd, wa, wb, e, g⟩
  simp only [eqD] at e
  split at e
  · rename_i h
    simp only [Bool.and_eq_true] at h
    simp at e; subst e
    exact op_eqD (hu64 hr) pins s σ H x y v u Q I rx ry ⟨a, b, wa.dp, wb.dp, h.1, h.2, g.bool⟩
  · simp at e
theorem cmp_ne (hr : Room k X.A) : OpR X (compareOp .NotEq) (r2 X.K fun a b => ((eqD a b).map not).map .bool) := by
  intro pins s σ H x y v u Q I rx ry ⟨Z, a, b, d, zd, wa, wb, e, g⟩
  simp only [eqD] at e
  split at e
  · rename_i h
    simp only [Bool.and_eq_true] at h
    simp at e; subst e
    exact op_neD (hu64 hr) pins s σ H x y v u Q I rx ry ⟨a, b, wa.dp, wb.dp, h.1, h.2, g.bool⟩
  · simp at e
theorem cmp_ord {op : CmpOp} {f : Int → Int → Bool} (h : OpR X (compareOp op) (rI0 fun i j => .bl (f i j))) : OpR X (compareOp op) (r2 X.K fun a b => (ordD f a b).map .bool) := by
  intro pins s σ H x y v u Q I rx ry ⟨Z, a, b, d, zd, wa, wb, e, g⟩
  cases a <;> try (simp [ordD] at e; done)
  cases b <;> try (simp [ordD] at e; done)
  simp [ordD] at e; subst e
  have := wa.int; subst this
  have := wb.int; subst this
  exact h pins s σ H _ _ v u Q I rx ry ⟨_, _, rfl, rfl, g.bool⟩
theorem cmp_is : OpR X (compareOp .Is) (r2 X.K fun a b => (isD a b).map .bool) := by
  intro pins s σ H x y v u Q I rx ry ⟨Z, a, b, d, zd, wa, wb, e, g⟩
  cases b with
  | none =>
    have := wb.none; subst this
    refine op_isN pins s σ H x _ v u Q I rx ry ⟨rfl, ?_⟩
    have e' : d = .bool (decide (x = .non)) := by
      cases a <;> simp [isD] at e <;> subst e
      · have := wa.none; subst this; rfl
      · have := wa.bool; subst this; rfl
      · have := wa.int; subst this; rfl
      · have := wa.str; subst this; rfl
      · obtain ⟨p, xs, rfl, _⟩ := wa.list; rfl
      · obtain ⟨p, xs, rfl, _⟩ := wa.tuple; rfl
      · cases wa with | of h => cases h
    subst e'
    exact g.bool
  | bool b =>
    cases a <;> try (simp [isD] at e; done)
    simp [isD] at e; subst e
    have := wa.bool; subst this
    have := wb.bool; subst this
    refine op_isBl pins s σ H _ _ v u Q I rx ry ⟨_, _, rfl, rfl, ?_⟩
    have g' := g.bool
    rw [Bool.beq_eq_decide_eq] at g'
    exact g'
  | _ => cases a <;> simp [isD] at e
theorem cmp_isnot : OpR X (compareOp .IsNot) (r2 X.K fun a b => ((isD a b).map not).map .bool) := by
  intro pins s σ H x y v u Q I rx ry ⟨Z, a, b, d, zd, wa, wb, e, g⟩
  cases b with
  | none =>
    have := wb.none; subst this
    refine op_notN pins s σ H x _ v u Q I rx ry ⟨rfl, ?_⟩
    have e' : d = .bool (!decide (x = .non)) := by
      cases a <;> simp [isD] at e <;> subst e
      · have := wa.none; subst this; rfl
      · have := wa.bool; subst this; rfl
      · have := wa.int; subst this; rfl
      · have := wa.str; subst this; rfl
      · obtain ⟨p, xs, rfl, _⟩ := wa.list; rfl
      · obtain ⟨p, xs, rfl, _⟩ := wa.tuple; rfl
      · cases wa with | of h => cases h
    subst e'
    exact g.bool
  | bool b =>
    cases a <;> try (simp [isD] at e; done)
    simp [isD] at e; subst e
    have := wa.bool; subst this
    have := wb.bool; subst this
    refine op_notBl pins s σ H _ _ v u Q I rx ry ⟨_, _, rfl, rfl, ?_⟩
    have g' := g.bool
    rw [Bool.beq_eq_decide_eq] at g'
    exact g'
  | _ => cases a <;> simp [isD] at e
theorem in_tupD (hu : X.A.units + 65 < cLine) : OpR X (compareOp .In) (fun x y H Q => ∃ d ds, Dp X.K H x d ∧ Dp X.K H y (.tuple ds) ∧ SeqAt.shaped d = true ∧ SeqAt.shaped (.tuple ds) = true ∧ Q (.bl (ds.any fun z => PyData.eqv z d)) H) := by
  intro pins s σ H x y v u Q I rx ry h
  obtain ⟨d, ds, hd, he, sd, se, q⟩ := h
  obtain ⟨as, r1⟩ := Dp.reads I d x v hd rx
  obtain ⟨bs, r2⟩ := Dp.reads I (.tuple ds) y u he ry
  exact SeqAt.in_tuple_reads r2 r1 (SeqAt.canLay_of_shaped se) (SeqAt.canLay_of_shaped sd) (room_in_shaped sd hu) ⟨.bl _, H, I, rfl, q⟩
theorem notIn_tupD (hu : X.A.units + 65 < cLine) : OpR X (compareOp .NotIn) (fun x y H Q => ∃ d ds, Dp X.K H x d ∧ Dp X.K H y (.tuple ds) ∧ SeqAt.shaped d = true ∧ SeqAt.shaped (.tuple ds) = true ∧ Q (.bl (!ds.any fun z => PyData.eqv z d)) H) := by
  intro pins s σ H x y v u Q I rx ry h
  obtain ⟨d, ds, hd, he, sd, se, q⟩ := h
  obtain ⟨as, r1⟩ := Dp.reads I d x v hd rx
  obtain ⟨bs, r2⟩ := Dp.reads I (.tuple ds) y u he ry
  exact SeqAt.notIn_tuple_reads r2 r1 (SeqAt.canLay_of_shaped se) (SeqAt.canLay_of_shaped sd) (room_in_shaped sd hu) ⟨.bl _, H, I, rfl, q⟩
theorem cmp_in (hr : Room k X.A) : OpR X (compareOp .In) (r2 X.K fun a b => (inD a b).map .bool) := by
  intro pins s σ H x y v u Q I rx ry ⟨Z, a, b, d, zd, wa, wb, e, g⟩
  cases b with
  | list ds =>
    simp only [inD] at e
    split at e
    · rename_i h
      simp only [Bool.and_eq_true] at h
      simp at e; subst e
      exact op_inD (hu65 hr) pins s σ H x y v u Q I rx ry ⟨a, ds, wa.dp, wb.dp, h.1, h.2, g.bool⟩
    · simp at e
  | tuple ds =>
    simp only [inD] at e
    split at e
    · rename_i h
      simp only [Bool.and_eq_true] at h
      simp at e; subst e
      exact in_tupD (hu65 hr) pins s σ H x y v u Q I rx ry ⟨a, ds, wa.dp, wb.dp, h.1, h.2, g.bool⟩
    · simp at e
  | _ => simp [inD] at e
theorem cmp_notin (hr : Room k X.A) : OpR X (compareOp .NotIn) (r2 X.K fun a b => ((inD a b).map not).map .bool) := by
  intro pins s σ H x y v u Q I rx ry ⟨Z, a, b, d, zd, wa, wb, e, g⟩
  cases b with
  | list ds =>
    simp only [inD] at e
    split at e
    · rename_i h
      simp only [Bool.and_eq_true] at h
      simp only [Option.map_some, Option.some.injEq] at e; subst e
      exact op_notInD (hu65 hr) pins s σ H x y v u Q I rx ry ⟨a, ds, wa.dp, wb.dp, h.1, h.2, g.bool⟩
    · simp at e
  | tuple ds =>
    simp only [inD] at e
    split at e
    · rename_i h
      simp only [Bool.and_eq_true] at h
      simp only [Option.map_some, Option.some.injEq] at e; subst e
      exact notIn_tupD (hu65 hr) pins s σ H x y v u Q I rx ry ⟨a, ds, wa.dp, wb.dp, h.1, h.2, g.bool⟩
    · simp at e
  | _ => simp [inD] at e
theorem cmp_ok (hr : Room k X.A) (o : CmpOp) : OpR X (compareOp o) (r2 X.K (op2D (.cmp o))) := by
  cases o with
  | Eq => exact cmp_eq hr
  | NotEq => exact cmp_ne hr
  | Lt => exact cmp_ord op_lt
  | LtE => exact cmp_ord op_le
  | Gt => exact cmp_ord op_gt
  | GtE => exact cmp_ord op_ge
  | Is => exact cmp_is
  | IsNot => exact cmp_isnot
  | In => exact cmp_in hr
  | NotIn => exact cmp_notin hr

/-! ### binary operators -/
theorem cat_lists : OpR X (binaryOp .Add) (fun x y H Q => ∃ l b xs zs, x = .ref l ∧ y = .ref b ∧ SqL X.K H l xs ∧ SqL X.K H b zs ∧ xs.length + zs.length ≤ sizeLine ∧ ∀ p, H p = none → Q (.ref p) (upd H p (.lst (xs ++ zs)))) := by
  intro pins s σ H x y v u Q I rx ry h
  obtain ⟨l, b, xs, zs, rfl, rfl, hH, hB, hz, q⟩ := h
  cases rx
  cases ry
  obtain ⟨its, r, ⟨⟨cls, dd, data, sl⟩, n, ho, hc, hd0, hd⟩, z⟩ := I.list hH
  obtain ⟨its2, r2, ⟨⟨cls2, dd2, data2, sl2⟩, n2, ho2, hc2, hd02, hd2⟩, z2⟩ := I.list hB
  simp only at hc hd hc2 hd2
  subst hc hd hc2 hd2
  have l1 := r.length
  have l2 := r2.length
  have e : its.toArray ++ its2.toArray = (its ++ its2).toArray := by simp
  refine concat_meets ⟨_, ho, rfl⟩ ⟨_, ho2, rfl⟩ noFill_list_add seq_list_add PySem.F.slot_list_add PySem.F.entry_list_add (PySem.F.args_list_add_2 _ _) (list_addW l b its.toArray its2.toArray n n2 dd dd2 sl sl2 (by simp only [List.size_toArray]; omega)) ⟨ho, ho2, ?_⟩
  rw [e]
  exact ⟨.ref _, _, I.lnew (t' := s.toks) (r.append r2) (by rw [List.length_append]; omega), rfl, q _ I.fresh⟩
theorem bin_add : OpR X (binaryOp .Add) (r2 X.K (binD .Add)) := by
  intro pins s σ H x y v u Q I rx ry ⟨Z, a, b, d, zd, wa, wb, e, g⟩
  cases a <;> try (simp [binD] at e; done)
  · cases b <;> try (simp [binD] at e; done)
    simp [binD] at e; subst e
    have := wa.int; subst this
    have := wb.int; subst this
    exact op_add pins s σ H _ _ v u Q I rx ry ⟨_, _, rfl, rfl, g.int⟩
  · rename_i a
    cases b <;> try (simp [binD] at e; done)
    rename_i b
    simp only [binD] at e
    split at e
    · rename_i hl
      simp at e; subst e
      obtain ⟨p, xs, rfl, h1, q1⟩ := wa.list
      obtain ⟨p2, xs2, rfl, h2, q2⟩ := wb.list
      exact cat_lists pins s σ H _ _ v u Q I rx ry ⟨_, _, _, _, rfl, rfl, h1, h2, by rw [q1.length, q2.length, lineEq]; exact hl, g.newL zd (q1.append q2)⟩
    · simp at e
  · rename_i a
    cases b <;> try (simp [binD] at e; done)
    rename_i b
    simp only [binD] at e
    split at e
    · rename_i hl
      simp at e; subst e
      obtain ⟨p, xs, rfl, h1, q1⟩ := wa.tuple
      obtain ⟨p2, xs2, rfl, h2, q2⟩ := wb.tuple
      refine catF pins s σ H _ _ v u Q I rx ry ⟨_, _, _, _, rfl, rfl, h1.sq, h2.sq, by rw [q1.length, q2.length, lineEq]; exact hl, ?_, ?_, fun _ _ => g.newT zd (q1.append q2)⟩
      · intro n
        subst n
        have l1 := q1.length
        have : a = [] := List.eq_nil_of_length_eq_zero l1.symm
        subst this
        exact g.same rfl (.tup h2 q2)
      · intro _ n
        subst n
        have l1 := q2.length
        have : b = [] := List.eq_nil_of_length_eq_zero l1.symm
        subst this
        rw [List.append_nil] at g
        exact g.same rfl (.tup h1 q1)
    · simp at e
theorem bin_sub : OpR X (binaryOp .Sub) (r2 X.K (binD .Sub)) := by
  intro pins s σ H x y v u Q I rx ry ⟨Z, a, b, d, zd, wa, wb, e, g⟩
  cases a <;> try (simp [binD] at e; done)
  cases b <;> try (simp [binD] at e; done)
  simp [binD] at e; subst e
  have := wa.int; subst this
  have := wb.int; subst this
  exact op_sub pins s σ H _ _ v u Q I rx ry ⟨_, _, rfl, rfl, g.int⟩
theorem small64 {i : Int} (h : i.natAbs < 2 ^ 64) : -(2 ^ 64) < i ∧ i < 2 ^ 64 := by omega
theorem bin_mul : OpR X (binaryOp .Mult) (r2 X.K (binD .Mult)) := by
  intro pins s σ H x y v u Q I rx ry ⟨Z, a, b, d, zd, wa, wb, e, g⟩
  cases a <;> try (simp [binD] at e; done)
  · cases b <;> try (simp [binD] at e; done)
    simp only [binD] at e
    split at e
    · rename_i hl
      simp at e; subst e
      have := wa.int; subst this
      have := wb.int; subst this
      exact op_mul pins s σ H _ _ v u Q I rx ry ⟨_, _, rfl, rfl, hl.elim (fun z => .inl (small64 z)) (fun z => .inr (small64 z)), g.int⟩
    · simp at e
  · rename_i a
    cases b <;> try (simp [binD] at e; done)
    rename_i b
    simp only [binD] at e
    split at e
    · rename_i hl
      simp at e; subst e
      have := wb.int; subst this
      cases wa with
      | of h =>
        cases h with
        | lst h1 q1 =>
          refine op_rep pins s σ H _ _ v u Q I rx ry ⟨_, _, _, rfl, rfl, h1.1, by omega, by omega, ?_, g.newL zd (q1.rep _)⟩
          rw [q1.length, lineEq]
          exact Nat.le_trans (Nat.mul_le_mul hl.2 (show b.toNat ≤ 1000 by omega)) (by decide)
      | lst h1 q1 =>
        refine op_rep pins s σ H _ _ v u Q I rx ry ⟨_, _, _, rfl, rfl, h1, by omega, by omega, ?_, g.newL zd (q1.rep _)⟩
        rw [q1.length, lineEq]
        exact Nat.le_trans (Nat.mul_le_mul hl.2 (show b.toNat ≤ 1000 by omega)) (by decide)
    · simp at e
  · rename_i a
    cases b <;> try (simp [binD] at e; done)
    rename_i b
    simp only [binD] at e
    split at e
    · rename_i hl
      simp at e; subst e
      have := wb.int; subst this
      obtain ⟨p, xs, rfl, h1, q1⟩ := wa.tuple
      have l1 := q1.length
      by_cases c1 : xs = [] ∨ b = 1
      · refine repF0 pins s σ H _ _ v u Q I rx ry ⟨_, _, _, rfl, rfl, h1.elim (fun z => .inl z.1) .inr, hl.1, .inl ⟨c1, ?_⟩⟩
        have ea : (List.replicate b.toNat a).flatten = a := by
          rcases c1 with c1 | c1
          · subst c1
            have : a = [] := List.eq_nil_of_length_eq_zero l1.symm
            subst this
            simp
          · subst c1; simp
        rw [ea] at g
        exact g.same rfl (.tup h1 q1)
      · by_cases c2 : b ≤ 0
        · refine repF0 pins s σ H _ _ v u Q I rx ry ⟨_, _, _, rfl, rfl, h1.elim (fun z => .inl z.1) .inr, hl.1, .inr ⟨fun z => c1 (.inl z), c2, ?_⟩⟩
          have ea : (List.replicate b.toNat a).flatten = [] := by
            have : b.toNat = 0 := by omega
            rw [this]; rfl
          rw [ea] at g
          exact g.newT zd .nil
        · refine repF pins s σ H _ _ v u Q I rx ry ⟨_, _, _, rfl, rfl, h1.sq, fun n => c1 (.inl n), ?_, by omega, by rw [l1]; exact hl.2, g.newT zd (q1.rep _)⟩
          have : ¬ b = 1 := fun z => c1 (.inr z)
          omega
    · simp at e
theorem bin_fdiv : OpR X (binaryOp .FloorDiv) (r2 X.K (binD .FloorDiv)) := by
  intro pins s σ H x y v u Q I rx ry ⟨Z, a, b, d, zd, wa, wb, e, g⟩
  cases a <;> try (simp [binD] at e; done)
  cases b <;> try (simp [binD] at e; done)
  simp only [binD] at e
  split at e
  · rename_i hl
    simp at e; subst e
    have := wa.int; subst this
    have := wb.int; subst this
    exact op_fdiv pins s σ H _ _ v u Q I rx ry ⟨_, _, rfl, rfl, hl, g.int⟩
  · simp at e
theorem bin_mod : OpR X (binaryOp .Mod) (r2 X.K (binD .Mod)) := by
  intro pins s σ H x y v u Q I rx ry ⟨Z, a, b, d, zd, wa, wb, e, g⟩
  cases a <;> try (simp [binD] at e; done)
  cases b <;> try (simp [binD] at e; done)
  simp only [binD] at e
  split at e
  · rename_i hl
    simp at e; subst e
    have := wa.int; subst this
    have := wb.int; subst this
    exact op_mod pins s σ H _ _ v u Q I rx ry ⟨_, _, rfl, rfl, hl, g.int⟩
  · simp at e
theorem bin_pow : OpR X (binaryOp .Pow) (r2 X.K (binD .Pow)) := by
  intro pins s σ H x y v u Q I rx ry ⟨Z, a, b, d, zd, wa, wb, e, g⟩
  cases a <;> try (simp [binD] at e; done)
  cases b <;> try (simp [binD] at e; done)
  simp only [binD] at e
  split at e
  · rename_i hl
    simp at e; subst e
    have := wa.int; subst this
    have := wb.int; subst this
    exact op_pow pins s σ H _ _ v u Q I rx ry ⟨_, _, rfl, rfl, hl, g.int⟩
  · simp at e
theorem bin_ok (o : Operator) : OpR X (binaryOp o) (r2 X.K (op2D (.bin o))) := by
  cases o with
  | Add => exact bin_add
  | Sub => exact bin_sub
  | Mult => exact bin_mul
  | FloorDiv => exact bin_fdiv
  | Mod => exact bin_mod
  | Pow => exact bin_pow
  | _ => intro pins s σ H x y v u Q I rx ry ⟨Z, a, b, d, zd, wa, wb, e, g⟩; cases a <;> cases b <;> simp [op2D, binD] at e
end
end VL

set_option Elab.async false
set_option linter.all false
set_option maxRecDepth 100000
set_option maxHeartbeats 2000000
/-! VL: which text a term of the language is. -/
namespace VL
open PySem L2

structure Tb where
  fn : Str → Option Def
  gc : Str → Option PyData
  fl : List Str
  gl : List Str
  ms : List (Str × Str)
  cs : List Str
structure Sc where
  N : List Str
  names : List (Str × NameKind)
  fnb : Str → Bool

def visB (c : Sc) (i : Nat) (x : Str) : Bool :=
  decide (c.N[i]? = some x) && (decide (c.names.lookup x = some .local) || decide (c.names.lookup x = some .cell) || decide (c.names.lookup x = some .free)) &&
  !(x == ("__debug__" : Str)) && !(x == ("__classdict__" : Str))
def locB (c : Sc) (i : Nat) (x : Str) : Bool :=
  decide (c.N[i]? = some x) && (decide (c.names.lookup x = some .local) || (decide (c.names.lookup x = some .cell) && c.fnb x))
def glB (c : Sc) (x : Str) : Bool := decide (c.names.lookup x = some .globalImplicit) && !(x == ("__debug__" : Str))
def constB : Const → PyData → Bool
  | .none, .none => true
  | .bool a, .bool b => a == b
  | .int i, .int j => i == j
  | .str x, .str y => decide (x = y)
  | _, _ => false
mutual
def eqPD : PyData → PyData → Bool
  | .none, .none => true
  | .bool a, .bool b => a == b
  | .int i, .int j => i == j
  | .str x, .str y => decide (x = y)
  | .list a, .list b => eqPDs a b
  | .tuple a, .tuple b => eqPDs a b
  | _, _ => false
def eqPDs : List PyData → List PyData → Bool
  | [], [] => true
  | a :: r, b :: s => eqPD a b && eqPDs r s
  | _, _ => false
end
mutual
theorem eqPD_ok : ∀ {a b : PyData}, eqPD a b = true → a = b
  | .none, .none, _ => rfl
  | .bool a, .bool b, h => by simp [eqPD] at h; rw [h]
  | .int a, .int b, h => by simp [eqPD] at h; rw [h]
  | .str a, .str b, h => by simp [eqPD] at h; rw [h]
  | .list a, .list b, h => by simp only [eqPD] at h; rw [eqPDs_ok h]
  | .tuple a, .tuple b, h => by simp only [eqPD] at h; rw [eqPDs_ok h]
  | .dict _, b, h => by cases b <;> simp [eqPD] at h
  | .none, .bool _, h | .none, .int _, h | .none, .str _, h | .none, .list _, h | .none, .tuple _, h | .none, .dict _, h => by simp [eqPD] at h
  | .bool _, .none, h | .bool _, .int _, h | .bool _, .str _, h | .bool _, .list _, h | .bool _, .tuple _, h | .bool _, .dict _, h => by simp [eqPD] at h
  | .int _, .none, h | .int _, .bool _, h | .int _, .str _, h | .int _, .list _, h | .int _, .tuple _, h | .int _, .dict _, h => by simp [eqPD] at h
  | .str _, .none, h | .str _, .bool _, h | .str _, .int _, h | .str _, .list _, h | .str _, .tuple _, h | .str _, .dict _, h => by simp [eqPD] at h
  | .list _, .none, h | .list _, .bool _, h | .list _, .int _, h | .list _, .str _, h | .list _, .tuple _, h | .list _, .dict _, h => by simp [eqPD] at h
  | .tuple _, .none, h | .tuple _, .bool _, h | .tuple _, .int _, h | .tuple _, .str _, h | .tuple _, .list _, h | .tuple _, .dict _, h => by simp [eqPD] at h
theorem eqPDs_ok : ∀ {a b : List PyData}, eqPDs a b = true → a = b
  | [], [], _ => rfl
  | [], _ :: _, h => by simp [eqPDs] at h
  | _ :: _, [], h => by simp [eqPDs] at h
  | a :: r, b :: s, h => by simp only [eqPDs, Bool.and_eq_true] at h; rw [eqPD_ok h.1, eqPDs_ok h.2]
end
def biName : Bi → Str
  | .len => "len" | .int => "int" | .max => "max" | .min => "min" | .list => "list" | .tuple => "tuple" | .sorted => "sorted" | .all => "all" | .any => "any" | .repr => "repr" | .abs => "abs"
def meName : Me → Str
  | .index => "index" | .count => "count"
def relNames (names : List (Str × NameKind)) (scope : Scope) : List (Str × NameKind) :=
  scope.names.map fun (n, k) => if (k == .free && names.lookup n == some .cell) then (n, .cell) else (n, k)
def subSc (c : Sc) (scope : Scope) : Sc := ⟨c.N, relNames c.names scope, fun x => scope.names.lookup x == some .cell⟩
def ownP (c : Sc) (own : List Nat) : List (Str × Nat) := own.map fun i => ((c.N[i]?).getD "", i)
mutual
def tgIx : Tg → List Nat
  | .nm i => [i]
  | .fl _ _ => []
  | .tp l => tgIxs l
def tgIxs : List Tg → List Nat
  | [] => []
  | t :: r => tgIx t ++ tgIxs r
end
def isTp : Tg → Bool
  | .tp _ => true
  | _ => false
def pairS : Src → Bool
  | .enum _ => true
  | .zip _ _ => true
  | _ => false
mutual
def mTg (T : Tb) (c : Sc) : Tg → Expr → Bool
  | .fl i f, .Attribute (.Name x _) g _ => visB c i x && decide (f = g) && decide (f ∈ T.fl)
  | .nm i, .Name x _ => locB c i x
  | .tp l, .Tuple es _ _ => mTgs T c l es
  | _, _ => false
def mTgs (T : Tb) (c : Sc) : List Tg → List Expr → Bool
  | [], [] => true
  | t :: ts, e :: es => mTg T c t e && mTgs T c ts es
  | _, _ => false
end
/-- no call without arguments (super() is one) -/
def noC0 : Expr → Bool
  | .Call _ [] _ _ => false
  | _ => true
def lineB (a p : Pos) : Bool := a.endLine == p.line
def ordB : CmpOp → Bool
  | .Lt => true | .LtE => true | .Gt => true | .GtE => true
  | _ => false
def noStar : Es → Bool
  | .nil => true
  | .cons s _ r => !s && noStar r
def neEs : Es → Bool
  | .nil => false
  | _ => true
def noSl : Expr → Bool
  | .Slice .. => false
  | _ => true
def keysB : List Str → List (Option Expr) → Bool
  | [], [] => true
  | k :: ks, some (.Constant (.str x) _ _) :: r => decide (k = x) && keysB ks r
  | _, _ => false
mutual
def mE (T : Tb) : E → Sc → Expr → Bool
  | .var i, c, x_ => match x_ with
    | .Name x _ => visB c i x
    | _ => false
  | .lit d, _, x_ => match x_ with
    | .Constant k _ _ => constB k d
    | _ => false
  | .glb x d, c, x_ => match x_ with
    | .Name y _ => decide (x = y) && glB c y && (match T.gc y with | some d' => eqPD d d' | none => false)
    | _ => false
  | .neg a, c, x_ => match x_ with
    | .UnaryOp .USub e _ => mE T a c e
    | _ => false
  | .op2 (.bin o) a b, c, x_ => match x_ with
    | .BinOp x o' y _ => decide (o = o') && mE T a c x && mE T b c y
    | _ => false
  | .op2 (.cmp o) a b, c, x_ => match x_ with
    | .Compare x [o'] [y] _ => decide (o = o') && mE T a c x && mE T b c y
    | _ => false
  | .chain o1 o2 a b d, c, x_ => match x_ with
    | .Compare x [p1, p2] [y, z] _ => ordB o1 && ordB o2 && decide (o1 = p1) && decide (o2 = p2) && mE T a c x && mE T b c y && mE T d c z
    | _ => false
  | .and es, c, x_ => match x_ with
    | .BoolOp .And xs _ => neEs es && noStar es && mEs T es c xs
    | _ => false
  | .or es, c, x_ => match x_ with
    | .BoolOp .Or xs _ => neEs es && noStar es && mEs T es c xs
    | _ => false
  | .not a, c, x_ => match x_ with
    | .UnaryOp .Not e _ => mE T a c e
    | _ => false
  | .ite t a b, c, x_ => match x_ with
    | .IfExp x y z _ => mE T t c x && mE T a c y && mE T b c z
    | _ => false
  | .tup es, c, x_ => match x_ with
    | .Tuple xs _ _ => mEs T es c xs
    | _ => false
  | .lst es, c, x_ => match x_ with
    | .List xs _ => mEs T es c xs
    | _ => false
  | .idx a b, c, x_ => match x_ with
    | .Subscript x y _ => noSl y && mE T a c x && mE T b c y
    | _ => false
  | .slc a lo hi, c, x_ => match x_ with
    | .Subscript x (.Slice l h none _) _ => mE T a c x && mEo T lo c l && mEo T hi c h
    | _ => false
  | .scut i lo hi, c, x_ => match x_ with
    | .Subscript (.Name x _) (.Slice l h none _) _ => visB c i x && mEo T lo c l && mEo T hi c h
    | _ => false
  | .rev a, c, x_ => match x_ with
    | .Subscript x (.Slice none none (some (.UnaryOp .USub (.Constant (.int 1) _ _) _)) _) _ => mE T a c x
    | _ => false
  | .bi b es, c, x_ => match x_ with
    | .Call (.Name x _) xs [] _ => !xs.isEmpty && noStar es && decide (x = biName b) && glB c x && mEs T es c xs
    | _ => false
  | .lrange t a, c, x_ => match x_ with
    | .Call (.Name x _) [.Call (.Name y _) [e] [] _] [] _ => decide (x = if t then ("tuple" : Str) else "list") && decide (y = ("range" : Str)) && glB c x && glB c y && mE T a c e
    | _ => false
  | .me m o a, c, x_ => match x_ with
    | .Call (.Attribute x n ap) [y] [] cp => noC0 x && lineB ap cp && decide (n = meName m) && mE T o c x && mE T a c y
    | _ => false
  | .pop i a, c, x_ => match x_ with
    | .Call (.Attribute (.Name x _) n ap) [y] [] cp => lineB ap cp && decide (n = ("pop" : Str)) && visB c i x && mE T a c y
    | _ => false
  | .call f as, c, x_ => match x_ with
    | .Call (.Name x _) xs [] _ => decide (x = f) && decide (f ∈ T.gl) && glB c x && mAs T as c xs && (match T.fn f with | some d => !(d.ret == .self) | none => false)
    | _ => false
  | .callL f es, c, x_ => match x_ with
    | .Call (.Name x _) xs [] _ => !xs.isEmpty && noStar es && decide (x = f) && decide (f ∈ T.gl) && glB c x && mEs T es c xs && (match T.fn f with | some d => d.ret == .val | none => false)
    | _ => false
  | .comp elt tg src cond own, c, x_ => match x_ with
    | .ListComp x [⟨t, it, ifs, 0⟩] scope _ => blkC c.N { scope with names := c.names } scope (ownP c own) && mSrc T src c it && mTg T (subSc c scope) tg t && (tgIx tg).all (fun i => decide (i ∈ own)) && (!pairS src || isTp tg) && mE T elt (subSc c scope) x && (match ifs with | [] => mEo T cond (subSc c scope) none | [y] => mEo T cond (subSc c scope) (some y) | _ => false)
    | _ => false
  | .fld i f, c, x_ => match x_ with
    | .Attribute (.Name x _) g _ => visB c i x && decide (f = g) && decide (f ∈ T.fl)
    | _ => false
  | .lfld i f, c, x_ => match x_ with
    | .Call (.Name y _) [.Attribute (.Name x _) g _] [] _ => decide (y = ("list" : Str)) && glB c y && visB c i x && decide (f = g) && decide (f ∈ T.fl)
    | _ => false
  | .meth i k m as, c, x_ => match x_ with
    | .Call (.Attribute (.Name x _) n ap) xs [] cp => lineB ap cp && decide (xs.length < 30) && decide (n = m) && decide ((k, m) ∈ T.ms) && visB c i x && mAs T as c xs && (match T.fn (k ++ "." ++ m) with | some d => !(d.ret == .self) | none => false)
    | _ => false
  | .isin n a, c, x_ => match x_ with
    | .Call (.Name x _) [y, .Name z _] [] _ => decide (x = ("isinstance" : Str)) && glB c x && decide (z = n) && glB c z && (decide (z = ("int" : Str)) || decide (z = ("bool" : Str)) || decide (z = ("tuple" : Str)) || decide (z = ("list" : Str)) || decide (z = ("str" : Str))) && mE T a c y
    | _ => false
  | .dsel ks es k, c, x_ => match x_ with
    | .Subscript (.Dict keys vals _) ke _ => noSl ke && !keys.isEmpty && decide (keys.length ≤ 15) && decide (keys.length = vals.length) && keysB ks keys && noStar es && mEs T es c vals && mE T k c ke
    | _ => false
  | .dsor ks es k d, c, x_ => match x_ with
    | .Call (.Attribute (.Dict keys vals _) n ap) [ke, de] [] cp => lineB ap cp && decide (n = ("get" : Str)) && !keys.isEmpty && decide (keys.length ≤ 15) && decide (keys.length = vals.length) && keysB ks keys && noStar es && mEs T es c vals && mE T k c ke && mE T d c de
    | _ => false
def mEs (T : Tb) : Es → Sc → List Expr → Bool
  | .nil, _, x_ => match x_ with
    | [] => true
    | _ => false
  | .cons true e r, c, x_ => match x_ with
    | .Starred x _ :: xs => mE T e c x && mEs T r c xs
    | _ => false
  | .cons false e r, c, x_ => match x_ with
    | x :: xs => mE T e c x && mEs T r c xs
    | _ => false
def mEo (T : Tb) : Eo → Sc → Option Expr → Bool
  | .no, _, x_ => match x_ with
    | none => true
    | _ => false
  | .so e, c, x_ => match x_ with
    | some x => mE T e c x
    | _ => false
def mAs (T : Tb) : As → Sc → List Expr → Bool
  | .nil, _, x_ => match x_ with
    | [] => true
    | _ => false
  | .sh e r, c, x_ => match x_ with
    | x :: xs => mE T e c x && mAs T r c xs
    | _ => false
  | .io i r, c, x_ => match x_ with
    | .Name x _ :: xs => visB c i x && mAs T r c xs
    | _ => false
  | .ioc f i r, c, x_ => match x_ with
    | .Call (.Name y _) [.Name x _] [] _ :: xs => decide (y = f) && decide (f ∈ T.gl) && glB c y && visB c i x && mAs T r c xs && (match T.fn f with | some d => d.ret == .self | none => false)
    | _ => false
  | .scr i r, c, x_ => match x_ with
    | .Name x _ :: xs => visB c i x && mAs T r c xs
    | _ => false
def mSrc (T : Tb) : Src → Sc → Expr → Bool
  | .ex e, c, x => mE T e c x
  | .range e, c, x_ => match x_ with
    | .Call (.Name y _) [x] [] _ => decide (y = ("range" : Str)) && glB c y && mE T e c x
    | _ => false
  | .range2 a b, c, x_ => match x_ with
    | .Call (.Name y _) [x, z] [] _ => decide (y = ("range" : Str)) && glB c y && mE T a c x && mE T b c z
    | _ => false
  | .enum e, c, x_ => match x_ with
    | .Call (.Name y _) [x] [] _ => decide (y = ("enumerate" : Str)) && glB c y && mE T e c x
    | _ => false
  | .zip a b, c, x_ => match x_ with
    | .Call (.Name y _) [x, z] [] _ => decide (y = ("zip" : Str)) && glB c y && mE T a c x && mE T b c z
    | _ => false
end
end VL

set_option Elab.async false
set_option linter.all false
set_option maxRecDepth 100000
set_option maxHeartbeats 2000000
/-! VL: the readings of expressions. -/
namespace VL
open PySem L2
open PyProof.Rows

abbrev Zf (F : FP) (G : Nat → List Addr) : AddrS := ZZ F.Zc G
/-- a new list, that nothing else holds -/
def Fr (K : PySem.W.Frag) (cl : ClsT) (F : FP) (env' : Env) (σ : L2.St) (H : Hp) (Z : AddrS) (H' : Hp) (v : V) (d : PyData) : Prop :=
  ∃ G p xs ds, v = .ref p ∧ d = .list ds ∧ SR K cl F env' G σ H' ∧ Step H Z H' (Zf F G) ∧ H' p = some (.lst xs) ∧ RepAll K H' (Zf F G) xs ds ∧ G σ.length = [p]
theorem Fr.back {K : PySem.W.Frag} {cl : ClsT} {F : FP} {env : Env} {σ : L2.St} {H H1 H2 : Hp} {Z Z1 : AddrS} {v : V} {d : PyData} (h : Fr K cl F env σ H1 Z1 H2 v d) (s : Step H Z H1 Z1) : Fr K cl F env σ H Z H2 v d := by
  obtain ⟨G, p, xs, ds, a, b, c, e, f⟩ := h
  exact ⟨G, p, xs, ds, a, b, c, s.trans e, f⟩
/-- an expression's reading; fr: a list is new -/
def rdX (fr : Bool) (K : PySem.W.Frag) (cl : ClsT) (ev : Env → Option (PyData × Env)) : TE := fun σ H Q => ∃ F G env d env', SR K cl F env G σ H ∧ ev env = some (d, env') ∧
  ∀ v H' G', SR K cl F env' G' σ H' → Step H (Zf F G) H' (Zf F G') → Rep K H' (Zf F G') v d → ((fr && isL d) = true → Fr K cl F env' σ H (Zf F G) H' v d) → Q v H'
def rdE (K : PySem.W.Frag) (cl : ClsT) (ev : Env → Option (PyData × Env)) : TE := fun σ H Q => ∃ F G env d env', SR K cl F env G σ H ∧ ev env = some (d, env') ∧
  ∀ v H' G', SR K cl F env' G' σ H' → Step H (Zf F G) H' (Zf F G') → Rep K H' (Zf F G') v d → Q v H'
theorem rdX_E {fr : Bool} {K : PySem.W.Frag} {cl : ClsT} {ev : Env → Option (PyData × Env)} {σ : L2.St} {H : Hp} {Q : VK} (h : rdE K cl ev σ H Q) : rdX fr K cl ev σ H Q := by
  obtain ⟨F, G, env, d, env', S, e, q⟩ := h
  exact ⟨F, G, env, d, env', S, e, fun v H' G' S' s r _ => q v H' G' S' s r⟩
def OpR' (K : PySem.W.Frag) (σ : L2.St) (H : Hp) (Z : AddrS) (v : V) : Opv → Prop
  | .st d => Rep K H Z v d
  | .sl i => σ[i]? = some (some v)
def rdO (K : PySem.W.Frag) (cl : ClsT) (ev : Env → Option (Opv × Env)) : TE := fun σ H Q => ∃ F G env d env', SR K cl F env G σ H ∧ ev env = some (d, env') ∧
  ∀ v H' G', SR K cl F env' G' σ H' → Step H (Zf F G) H' (Zf F G') → OpR' K σ H' (Zf F G') v d → Q v H'
def rdT (K : PySem.W.Frag) (cl : ClsT) (ev : Env → Option (Bool × Env)) : TT := fun σ H Q => ∃ F G env d env', SR K cl F env G σ H ∧ ev env = some (d, env') ∧
  ∀ H' G', SR K cl F env' G' σ H' → Step H (Zf F G) H' (Zf F G') → Q d H'
def rdL (K : PySem.W.Frag) (cl : ClsT) (ev : Env → Option (List PyData × Env)) : TA := fun σ H Q => ∃ F G env d env', SR K cl F env G σ H ∧ ev env = some (d, env') ∧
  ∀ vs H' G', SR K cl F env' G' σ H' → Step H (Zf F G) H' (Zf F G') → RepAll K H' (Zf F G') vs d → Q vs H'
inductive OpAll (K : PySem.W.Frag) (σ : L2.St) (H : Hp) (Z : AddrS) : List V → List Opv → Prop
  | nil : OpAll K σ H Z [] []
  | cons {v : V} {o : Opv} {vs : List V} {os : List Opv} : OpR' K σ H Z v o → OpAll K σ H Z vs os → OpAll K σ H Z (v :: vs) (o :: os)
def rdOs (K : PySem.W.Frag) (cl : ClsT) (ev : Env → Option (List Opv × Env)) : TA := fun σ H Q => ∃ F G env d env', SR K cl F env G σ H ∧ ev env = some (d, env') ∧
  ∀ vs H' G', SR K cl F env' G' σ H' → Step H (Zf F G) H' (Zf F G') → OpAll K σ H' (Zf F G') vs d → Q vs H'
def rdP (K : PySem.W.Frag) (cl : ClsT) (ev : Env → Option (Option Int × Env)) : TO := fun σ H Q => ∃ F G env d env', SR K cl F env G σ H ∧ ev env = some (d, env') ∧
  ∀ H' G', SR K cl F env' G' σ H' → Step H (Zf F G) H' (Zf F G') → Q d H'

theorem PE.imp {X : Cx} {e : Expr} {t t' : TE} (h : PE X e t) (i : ∀ σ H Q, t' σ H Q → t σ H Q) : PE X e t' := ⟨fun pins s σ H Q I q => h.run pins s σ H Q I (i σ H Q q)⟩
theorem PT.imp {X : Cx} {e : Expr} {t t' : TT} (h : PT X e t) (i : ∀ σ H Q, t' σ H Q → t σ H Q) : PT X e t' := ⟨fun pins s σ H Q I q => h.run pins s σ H Q I (i σ H Q q)⟩
theorem PW.imp {X : Cx} {e : Expr} {t t' : TT} (h : PW X e t) (i : ∀ σ H Q, t' σ H Q → t σ H Q) : PW X e t' := ⟨fun wh pins s σ H Q I q => h.run wh pins s σ H Q I (i σ H Q q)⟩
theorem PA.imp {X : Cx} {e : List Expr} {t t' : TA} (h : PA X e t) (i : ∀ σ H Q, t' σ H Q → t σ H Q) : PA X e t' := ⟨fun pos pins s σ H Q I q => h.run pos pins s σ H Q I (i σ H Q q)⟩
theorem PO.imp {X : Cx} {e : Option Expr} {t t' : TO} (h : PO X e t) (i : ∀ σ H Q, t' σ H Q → t σ H Q) : PO X e t' := ⟨fun pins s σ H Q I q => h.run pins s σ H Q I (i σ H Q q)⟩

/-- what holds of the place where a def's body (or a block in it) runs -/
structure XOk (k : Nat) (X : Cx) : Prop where
  calm : X.calm = true
  nd : X.N.Nodup
  room : Room k X.A
  bt : ∀ x ∈ (["len", "int", "max", "min", "list", "tuple", "sorted", "all", "any", "repr", "abs", "range", "enumerate", "zip", "set", "dict", "isinstance", "bool", "str"] : List Str), X.mg x = none
structure SCOk (c : Sc) (X : Cx) : Prop where
  N : X.N = c.N
  names : X.env.scope.names = c.names
  fnb : ∀ x, c.fnb x = true → X.fn x = true
  kind : X.env.scope.kind = .function

section
variable {X : Cx} {cl : ClsT} {k : Nat} {c : Sc}
theorem visB_ok (S : SCOk c X) {i : Nat} {x : Str} (h : visB c i x = true) : X.N[i]? = some x ∧ Vis X.env.scope x ∧ (x == ("__debug__" : Str)) = false ∧ (x == ("__classdict__" : Str)) = false := by
  unfold visB at h
  simp only [Bool.and_eq_true, Bool.or_eq_true, decide_eq_true_eq, Bool.not_eq_true'] at h
  obtain ⟨⟨⟨h1, h2⟩, h3⟩, h4⟩ := h
  refine ⟨by rw [S.N]; exact h1, ?_, h3, h4⟩
  unfold Vis
  rw [S.names]
  rcases h2 with (h2 | h2) | h2
  · exact .inl h2
  · exact .inr (.inl h2)
  · exact .inr (.inr h2)
theorem glB_ok (S : SCOk c X) {x : Str} (h : glB c x = true) : Gl X x ∧ (x == ("__debug__" : Str)) = false := by
  unfold glB at h
  simp only [Bool.and_eq_true, decide_eq_true_eq, Bool.not_eq_true'] at h
  exact ⟨by unfold Gl Env.kindOf; rw [S.names]; exact h.1, h.2⟩
theorem locB_ok (S : SCOk c X) {i : Nat} {x : Str} (h : locB c i x = true) : X.N[i]? = some x ∧ L2.Loc X.env.scope x ∧ (X.fn x = true ∨ X.env.scope.names.lookup x = some .local) := by
  unfold locB at h
  simp only [Bool.and_eq_true, Bool.or_eq_true, decide_eq_true_eq] at h
  obtain ⟨h1, h2⟩ := h
  refine ⟨by rw [S.N]; exact h1, ?_, ?_⟩
  · unfold L2.Loc
    rw [S.names]
    exact h2.elim .inl fun z => .inr z.1
  · rw [S.names]
    exact h2.elim .inr fun z => .inl (S.fnb x z.2)

/-! ### the state and operands -/
theorem SR.slot {K : PySem.W.Frag} {F : FP} {env : Env} {G : Nat → List Addr} {σ : L2.St} {H : Hp} (S : SR K cl F env G σ H) {v : V} {d : PyData} : ∀ {o : Opv}, resolve env o = some d → OpR' K σ H (Zf F G) v o → WRep K H (Zf F G) v d
  | .st d', e, r => by
    simp only [resolve, Option.some.injEq] at e
    subst e
    exact .of r
  | .sl i, e, r => by
    simp only [resolve] at e
    split at e
    · rename_i o h
      cases o with
      | lst l =>
        simp only [OV.data, Option.some.injEq] at e
        subst e
        obtain ⟨w, hw, ow, _⟩ := S.own i _ h
        have r : σ[i]? = some (some v) := r
        rw [hw] at r
        cases r
        obtain ⟨p, xs, rfl, h1, h2, _⟩ := ow.lstInv
        exact .lst h1 h2
      | obj c fs => simp [OV.data] at e
    · rename_i o h
      cases o with
      | lst l =>
        simp only [OV.data, Option.some.injEq] at e
        subst e
        obtain ⟨w, hw, _, ow, _⟩ := S.io i _ h
        have r : σ[i]? = some (some v) := r
        rw [hw] at r
        cases r
        obtain ⟨p, xs, rfl, h1, h2, _⟩ := ow.lstInv
        exact .lst h1 h2
      | obj c fs => simp [OV.data] at e
    · cases e
theorem OpR'.step {K : PySem.W.Frag} {σ : L2.St} {H H' : Hp} {Z Z' : AddrS} {v : V} (s : Step H Z H' Z') : ∀ {o : Opv}, OpR' K σ H Z v o → OpR' K σ H' Z' v o
  | .st _, r => Rep.step s r
  | .sl _, r => r
theorem SR.zd {K : PySem.W.Frag} {F : FP} {env : Env} {G : Nat → List Addr} {σ : L2.St} {H : Hp} (S : SR K cl F env G σ H) : Zd (Zf F G) H := fun p h => mut_ne (S.mut h)
theorem SR.fr0 {K : PySem.W.Frag} {F : FP} {env : Env} {G : Nat → List Addr} {σ : L2.St} {H : Hp} (S : SR K cl F env G σ H) {p : Addr} (n : H p = none) : F.H0 p = none := by
  cases e : F.H0 p with
  | none => rfl
  | some o => exact absurd n (S.dom0 p (by rw [e]; exact fun z => nomatch z))
theorem SR.fre {K : PySem.W.Frag} {F : FP} {env : Env} {G : Nat → List Addr} {σ : L2.St} {H : Hp} (S : SR K cl F env G σ H) {p : Addr} (n : H p = none) : F.Fre p := by
  refine .inl ?_
  cases e : F.H0 p with
  | none => rfl
  | some o => exact absurd n (S.dom0 p (by rw [e]; exact fun z => nomatch z))
/-- a new thing that is held aside -/
theorem SR.pendO {K : PySem.W.Frag} {F : FP} {env : Env} {G : Nat → List Addr} {σ : L2.St} {H : Hp} (S : SR K cl F env G σ H) {p : Addr} (o' : HO) (hm : Mut (some o')) (n : H p = none) :
    ∃ G', SR K cl F env G' σ (upd H p o') ∧ Step H (Zf F G) (upd H p o') (Zf F G') ∧ G' σ.length = [p] ∧ ∀ j, j ≠ σ.length → G' j = G j := by
  let G' : Nat → List Addr := fun j => if j = σ.length then [p] else G j
  have gi : G' σ.length = [p] := if_pos rfl
  have gj : ∀ j, j ≠ σ.length → G' j = G j := fun j n => if_neg n
  have np : ∀ j a, a ∈ G j → a ≠ p := fun j a h z => by subst z; exact S.fresh n (.inr ⟨j, h⟩)
  have zp : ∀ a, F.Zc a → a ≠ p := fun a h z => by subst z; exact S.fresh n (.inl h)
  have sub : ∀ a, Zf F G' a → Zf F G a ∨ a = p := fun a z => z.elim (fun z => .inl (.inl z)) fun ⟨j, hj⟩ => by
    by_cases m : j = σ.length
    · subst m; rw [gi] at hj; exact .inr (List.mem_singleton.mp hj)
    · exact .inl (.inr ⟨j, by rw [← gj j m]; exact hj⟩)
  have st : Step H (Zf F G) (upd H p o') (Zf F G') := ⟨fun b o e q => ⟨by rw [upd_ne (ne_of_none e n)]; exact e, fun z => (sub b z).elim q fun z => by subst z; rw [n] at e; cases e⟩, fun b m => by
    by_cases z : b = p
    · rw [z, upd_same]; exact fun z => nomatch z
    · rw [upd_ne z]; exact m⟩
  have k : ∀ a, a ≠ p → upd H p o' a = H a := fun a h => upd_ne h
  have lt : ∀ i, getS env i ≠ .un → i ≠ σ.length := fun i h z => by have := getS_lt h; rw [S.len] at this; omega
  refine ⟨G', ⟨S.len, fun i d e => ?_, fun i o e => ?_, fun i o e => ?_, fun i ns e => ?_, fun i n1 n2 n3 => ?_, fun i hi a z => ?_, fun j1 j2 a h1 h2 => ?_, fun j => ?_, fun a z => ?_, S.zc, fun b o e m => ?_, fun b m => ?_, S.mil⟩, st, gi, gj⟩
  · obtain ⟨w, hw, r⟩ := S.shr i d e
    exact ⟨w, hw, r.step st⟩
  · obtain ⟨w, hw, r, q⟩ := S.own i o e
    rw [gj i (lt i (by rw [e]; exact fun z => nomatch z))]
    exact ⟨w, hw, r.move st fun a h => k a (np i a h), q⟩
  · obtain ⟨w, hw, h2, r, q⟩ := S.io i o e
    rw [gj i (lt i (by rw [e]; exact fun z => nomatch z))]
    exact ⟨w, hw, h2, r.move st fun a h => k a (np i a h), q⟩
  · obtain ⟨a, h1, r⟩ := S.scr i ns e
    exact ⟨a, h1, r.elim (fun ⟨o, z⟩ => .inl ⟨o, by rw [k a (ne_of_none z n)]; exact z⟩) .inr⟩
  · rw [gj i (by omega)]; exact S.off i n1 n2 n3
  · by_cases m : i = σ.length
    · subst m
      rw [gi] at z
      rw [List.mem_singleton.mp z, upd_same]
      exact ⟨hm, S.fr0 n, fun z => zp p z rfl⟩
    · rw [gj i m] at z
      rw [k a (np i a z)]
      exact S.pd i hi a z
  · by_cases m1 : j1 = σ.length
    · by_cases m2 : j2 = σ.length
      · rw [m1, m2]
      · subst m1; rw [gi] at h1; rw [gj _ m2] at h2
        exact absurd (List.mem_singleton.mp h1) (np _ _ h2)
    · rw [gj _ m1] at h1
      by_cases m2 : j2 = σ.length
      · subst m2; rw [gi] at h2
        exact absurd (List.mem_singleton.mp h2) (np _ _ h1)
      · rw [gj _ m2] at h2
        exact S.disj _ _ a h1 h2
  · by_cases m : j = σ.length
    · subst m; rw [gi]; simp
    · rw [gj j m]; exact S.nd j
  · rw [k a (zp a z)]; exact S.dom a z
  · have := S.kept b o e m
    rw [k b (ne_of_none this n)]; exact this
  · by_cases z : b = p
    · rw [z, upd_same]; exact fun z => nomatch z
    · rw [k b z]; exact S.dom0 b m
/-- a new list that is held aside -/
theorem SR.pend {K : PySem.W.Frag} {F : FP} {env : Env} {G : Nat → List Addr} {σ : L2.St} {H : Hp} (S : SR K cl F env G σ H) {p : Addr} (xs : List V) (n : H p = none) :
    ∃ G', SR K cl F env G' σ (upd H p (.lst xs)) ∧ Step H (Zf F G) (upd H p (.lst xs)) (Zf F G') ∧ G' σ.length = [p] ∧ ∀ j, j ≠ σ.length → G' j = G j := S.pendO (.lst xs) trivial n
/-- the end of an operation that leaves the state -/
theorem SR.give {K : PySem.W.Frag} {F : FP} {env : Env} {G : Nat → List Addr} {σ : L2.St} {H : Hp} {d : PyData} {Q : VK} (S : SR K cl F env G σ H)
    (q : ∀ v H' G', SR K cl F env G' σ H' → Step H (Zf F G) H' (Zf F G') → Rep K H' (Zf F G') v d → (isL d = true → Fr K cl F env σ H (Zf F G) H' v d) → Q v H') : Gv K H (Zf F G) d Q := fun v H' x r fr => q v H' G (S.heap x) x.step r fun z => by
  obtain ⟨p, xs, ds, rfl, rfl, n, rfl, ra⟩ := fr z
  obtain ⟨G', s', st, gp, sub⟩ := S.pend xs n
  exact ⟨G', p, xs, ds, rfl, rfl, s', st, upd_same, ra.step st, gp⟩

theorem o_of {x : Expr} {f : Env → Option (PyData × Env)} (h : PE X x (rdE X.K cl f)) : PE X x (rdO X.K cl fun env => (f env).map fun p => (.st p.1, p.2)) :=
  PE.imp h fun σ H Q ⟨F, G, env, d, env', S, e, q⟩ => by
    dsimp only at e
    cases e' : f env with
    | none => rw [e'] at e; simp at e
    | some p =>
      rw [e'] at e
      simp only [Option.map_some, Option.some.injEq, Prod.mk.injEq] at e
      obtain ⟨rfl, rfl⟩ := e
      exact ⟨F, G, env, p.1, p.2, S, e', fun v H' G' S' s r => q v H' G' S' s r⟩

/-! ### names, constants -/
theorem freeze_own {K : PySem.W.Frag} {F : FP} {env : Env} {G : Nat → List Addr} {σ : L2.St} {H : Hp} (S : SR K cl F env G σ H) {i : Nat} {l : List PyData} (h : getS env i = .own (.lst l)) :
    ∃ v G', σ[i]? = some (some v) ∧ SR K cl F (setS env i (.shr (.list l))) G' σ H ∧ Step H (Zf F G) H (Zf F G') ∧ Rep K H (Zf F G') v (.list l) := by
  obtain ⟨v, hv, ow, fr⟩ := S.own i _ h
  have hi : i < env.length := by
    unfold getS at h
    cases e : env[i]? with
    | none => rw [e] at h; cases h
    | some s => exact (List.getElem?_eq_some_iff.mp e).1
  let G' : Nat → List Addr := fun j => if j = i then [] else G j
  have gi : G' i = [] := if_pos rfl
  have gj : ∀ j, j ≠ i → G' j = G j := fun j n => if_neg n
  have sub : ∀ a, Zf F G' a → Zf F G a := fun a z => z.elim .inl fun ⟨j, hj⟩ => by
    by_cases n : j = i
    · subst n; rw [gi] at hj; cases hj
    · exact .inr ⟨j, by rw [← gj j n]; exact hj⟩
  have st : Step H (Zf F G) H (Zf F G') := .same (fun _ _ e => e) sub
  have gs : ∀ j, j ≠ i → getS (setS env i (.shr (.list l))) j = getS env j := fun j n => by
    unfold getS setS
    rw [List.getElem?_set_ne (Ne.symm n)]
  have gsi : getS (setS env i (.shr (.list l))) i = .shr (.list l) := by
    unfold getS setS
    rw [List.getElem?_set_self hi]
    rfl
  have rep : Rep K H (Zf F G') v (.list l) := by
    obtain ⟨p, xs, rfl, a, b, hG⟩ := ow.lstInv
    refine .lst ⟨a, fun z => ?_⟩ (b.step st)
    rcases z with z | ⟨j, hj⟩
    · exact (fr p (by rw [hG]; simp)).2 z
    · by_cases n : j = i
      · subst n; rw [gi] at hj; cases hj
      · rw [gj j n] at hj
        exact n (S.disj j i p hj (by rw [hG]; simp))
  refine ⟨v, G', hv, ⟨?_, fun j d e => ?_, fun j o e => ?_, fun j o e => ?_, fun j ns e => ?_, fun j n1 n2 n3 => ?_, fun j hj a z => ?_, fun j1 j2 a h1 h2 => ?_, fun j => ?_, S.dom, S.zc, S.kept, S.dom0, S.mil⟩, st, rep⟩
  · unfold setS; rw [List.length_set]; exact S.len
  · by_cases n : j = i
    · subst n
      rw [gsi] at e; cases e
      exact ⟨v, hv, rep⟩
    · rw [gs j n] at e
      obtain ⟨w, hw, r⟩ := S.shr j d e
      exact ⟨w, hw, r.step st⟩
  · by_cases n : j = i
    · subst n; rw [gsi] at e; cases e
    · rw [gs j n] at e
      obtain ⟨w, hw, r, q⟩ := S.own j o e
      rw [← gj j n] at r q
      exact ⟨w, hw, r.move st fun _ _ => rfl, q⟩
  · by_cases n : j = i
    · subst n; rw [gsi] at e; cases e
    · rw [gs j n] at e
      obtain ⟨w, hw, hw2, r, q⟩ := S.io j o e
      rw [← gj j n] at r q
      exact ⟨w, hw, hw2, r.move st fun _ _ => rfl, q⟩
  · by_cases n : j = i
    · subst n; rw [gsi] at e; cases e
    · rw [gs j n] at e
      exact S.scr j ns e
  · by_cases n : j = i
    · subst n; exact gi
    · rw [gs j n] at n1 n2
      rw [gj j n]; exact S.off j n1 n2 n3
  · have m : j ≠ i := by have := S.len; omega
    rw [gj _ m] at z
    exact S.pd j hj a z
  · by_cases n : j1 = i
    · subst n; rw [gi] at h1; cases h1
    · by_cases m : j2 = i
      · subst m; rw [gi] at h2; cases h2
      · rw [gj _ n] at h1; rw [gj _ m] at h2
        exact S.disj _ _ a h1 h2
  · by_cases n : j = i
    · subst n; rw [gi]; exact .nil
    · rw [gj j n]; exact S.nd j
theorem c_var {i : Nat} {x : Str} {pos : Pos} (hN : X.N[i]? = some x) (hv : Vis X.env.scope x) (hd : (x == ("__debug__" : Str)) = false) (hcd : (x == ("__classdict__" : Str)) = false) (C : Calls) :
    PE X (.Name x pos) (rdE X.K cl (evE C (.var i))) :=
  PE.imp (pe_var hN hv hd hcd) fun σ H Q ⟨F, G, env, d, env', S, e, q⟩ => by
    simp only [evE] at e
    split at e
    · rename_i d' h
      simp only [Option.some.injEq, Prod.mk.injEq] at e
      obtain ⟨rfl, rfl⟩ := e
      obtain ⟨v, hv, r⟩ := S.shr i _ h
      exact ⟨v, hv, q v H G S .refl r⟩
    · rename_i o h
      cases o with
      | lst l =>
        simp only [OV.data, Option.map_some, Option.some.injEq, Prod.mk.injEq] at e
        obtain ⟨rfl, rfl⟩ := e
        obtain ⟨v, G', hv, S', st, r⟩ := freeze_own S h
        exact ⟨v, hv, q v H G' S' st r⟩
      | obj c fs => simp [OV.data] at e
    · cases e
theorem c_varO {i : Nat} {x : Str} {pos : Pos} (hN : X.N[i]? = some x) (hv : Vis X.env.scope x) (hd : (x == ("__debug__" : Str)) = false) (hcd : (x == ("__classdict__" : Str)) = false) (C : Calls) :
    PE X (.Name x pos) (rdO X.K cl (opv (.var i) (evE C (.var i)))) :=
  PE.imp (pe_var hN hv hd hcd) fun σ H Q ⟨F, G, env, d, env', S, e, q⟩ => by
    simp only [opv, evE] at e
    split at e
    · rename_i o h
      simp only [Option.some.injEq, Prod.mk.injEq] at e
      obtain ⟨rfl, rfl⟩ := e
      obtain ⟨v, hv, r⟩ := S.own i _ h
      exact ⟨v, hv, q v H G S .refl hv⟩
    · rename_i o h
      simp only [Option.some.injEq, Prod.mk.injEq] at e
      obtain ⟨rfl, rfl⟩ := e
      obtain ⟨v, hv, r⟩ := S.io i _ h
      exact ⟨v, hv, q v H G S .refl hv⟩
    · split at e
      · rename_i d' h
        simp only [Option.map_some, Option.some.injEq, Prod.mk.injEq] at e
        obtain ⟨rfl, rfl⟩ := e
        obtain ⟨v, hv, r⟩ := S.shr i _ h
        exact ⟨v, hv, q v H G S .refl r⟩
      · simp_all
      · simp at e
theorem c_lit {kk : Const} {j : Nat} {pos : Pos} {d : PyData} (h : constB kk d = true) (C : Calls) : PE X (.Constant kk j pos) (rdE X.K cl (evE C (.lit d))) := by
  have fin : ∀ {v : V}, PE X (.Constant kk j pos) (tC v) → (∀ (K : PySem.W.Frag) (H : Hp) (Z : AddrS), Rep K H Z v d) → PE X (.Constant kk j pos) (rdE X.K cl (evE C (.lit d))) := fun {v} hp r =>
    PE.imp hp fun σ H Q ⟨F, G, env, d', env', S, e, q⟩ => by
      simp only [evE, Option.some.injEq, Prod.mk.injEq] at e
      obtain ⟨rfl, rfl⟩ := e
      exact q v H G S .refl (r _ _ _)
  cases kk <;> cases d <;> simp [constB] at h
  · exact fin pe_non fun _ _ _ => .non
  · subst h; exact fin pe_bl fun _ _ _ => .bl _
  · subst h; exact fin pe_int fun _ _ _ => .int _
  · subst h; exact fin pe_str fun _ _ _ => .str _

/-! ### operators -/
theorem c_op2 {p : P2} {z : Expr} {f g : Env → Option (Opv × Env)} (h : PE X z (tOp (r2 X.K (op2D p)) (rdO X.K cl f) (rdO X.K cl g))) :
    PE X z (rdX true X.K cl fun env => do
      let (x, env) ← f env
      let (y, env) ← g env
      let x ← resolve env x
      let y ← resolve env y
      let d ← op2D p x y
      some (d, env)) :=
  PE.imp h fun σ H Q ⟨F, G, env, d, env', S, e, q⟩ => by
    simp only [Option.bind_eq_bind, Option.bind_eq_some_iff, Option.some.injEq, Prod.mk.injEq, Prod.exists] at e
    obtain ⟨a, env1, e1, b, env2, e2, da, e3, db, e4, dd, e5, rfl, rfl⟩ := e
    refine ⟨F, G, env, a, env1, S, e1, fun v H1 G1 S1 st1 r1 => ⟨F, G1, env1, b, env2, S1, e2, fun w H2 G2 S2 st2 r2 => ?_⟩⟩
    exact ⟨Zf F G2, da, db, dd, S2.zd, S2.slot e3 (r1.step st2), S2.slot e4 r2, e5, S2.give fun v' H' G' S' s' r' fr => q v' H' G' S' ((st1.trans st2).trans s') r' fun z => (fr (by simpa using z)).back (st1.trans st2)⟩
theorem c_neg {x : Expr} {pos : Pos} {f : Env → Option (PyData × Env)} (h : PE X x (rdE X.K cl f)) : PE X (.UnaryOp .USub x pos) (rdE X.K cl fun env => do
    let (d, env) ← f env
    match d with
    | .int i => some (.int (-i), env)
    | _ => none) :=
  PE.imp (pe_un un_neg h) fun σ H Q ⟨F, G, env, d, env', S, e, q⟩ => by
    simp only [Option.bind_eq_bind, Option.bind_eq_some_iff, Prod.exists] at e
    obtain ⟨a, env1, e1, e⟩ := e
    split at e
    · simp only [Option.some.injEq, Prod.mk.injEq] at e
      obtain ⟨rfl, rfl⟩ := e
      refine ⟨F, G, env, _, _, S, e1, fun v H1 G1 S1 st1 r1 => ?_⟩
      cases r1
      exact ⟨_, rfl, q _ H1 G1 S1 st1 (.int _)⟩
    · cases e
end
end VL

set_option Elab.async false
set_option linter.all false
set_option maxRecDepth 100000
set_option maxHeartbeats 2000000
/-! VL: tests, displays, subscripts, built-ins. -/
namespace VL
open PySem L2
open PyProof.Rows

/-! ### what no term is -/
section
variable {T : Tb} {c : Sc}
theorem mE_set {e : E} {es : List Expr} {k : Nat} {p : Pos} : mE T e c (.Set es k p) = false := by
  cases e <;> first | rfl | (rename_i o _ _; cases o <;> rfl)
theorem mE_star {e : E} {x : Expr} {p : Pos} : mE T e c (.Starred x p) = false := by
  cases e <;> first | rfl | (rename_i o _ _; cases o <;> rfl)
theorem nomarkE {e : E} {x : Expr} (h : mE T e c x = true) (o : CmpOp) : behindInMarks o x = false := by
  cases x <;> first | rfl | (rw [mE_set] at h; cases h)
theorem foldE {e : E} {x : Expr} (h : mE T e c x = true) (env : PySem.Env) : ∀ v, foldedSetIterable x env v = pure v := by
  cases x <;> first | (intro _; rfl) | (rw [mE_set] at h; cases h)
theorem starE {e : E} {x : Expr} {xs : List Expr} (h : mE T e c x = true) (env : PySem.Env) : starEach (x :: xs) env = (false, eval x env) :: starEach xs env := by
  cases x <;> first | rfl | (rw [mE_star] at h; cases h)
end
theorem plainIx {b : Expr} (h : noSl b = true) : PlainIx b := by
  intro o i
  cases b <;> first | rfl | cases h
theorem attrE {o : Expr} {a : Str} {env : PySem.Env} (h : noC0 o = true) : attributeBase o a env (eval o env) = eval o env := by
  cases o with
  | Call f args kw p =>
    cases args with
    | nil => cases h
    | cons x r => cases f <;> rfl
  | _ => rfl

section
variable {X : Cx} {cl : ClsT} {k : Nat} {c : Sc}
/-! ### tests -/
def tstf (f : Env → Option (PyData × Env)) (env : Env) : Option (Bool × Env) := do
  let (x, env) ← f env
  let k ← truD x
  some (k, env)
theorem tru_rep {K : PySem.W.Frag} {H : Hp} {Z : AddrS} {v : V} {d : PyData} {k : Bool} (r : Rep K H Z v d) (e : truD d = some k) : TruV K v H k := by
  cases d <;> simp [truD] at e
  · cases r; subst e; exact (rfl : false = false)
  · cases r; subst e; exact (rfl : _ = _)
  · cases r; subst e; exact (rfl : _ = _)
theorem t_plain {x : Expr} {f : Env → Option (PyData × Env)} (h : PE X x (rdE X.K cl f)) (he : ∀ whole, isTrue x X.env whole = (do let v ← whole; standAt x.pos; holding [v] (truthy v))) : PT X x (rdT X.K cl (tstf f)) :=
  PT.imp (pt_truth h he) fun σ H Q ⟨F, G, env, d, env', S, e, q⟩ => by
    simp only [tstf, Option.bind_eq_bind, Option.bind_eq_some_iff, Prod.exists, Option.some.injEq, Prod.mk.injEq] at e
    obtain ⟨a, env1, e1, b, e2, rfl, rfl⟩ := e
    exact ⟨F, G, env, a, env1, S, e1, fun v H' G' S' s r => ⟨b, tru_rep r e2, q H' G' S' s⟩⟩
def notf (f : Env → Option (PyData × Env)) (env : Env) : Option (PyData × Env) := do
  let (x, env) ← f env
  let k ← truD x
  some (.bool (!k), env)
theorem t_not {x : Expr} {pos : Pos} {f : Env → Option (PyData × Env)} (h : PT X x (rdT X.K cl (tstf f))) : PT X (.UnaryOp .Not x pos) (rdT X.K cl (tstf (notf f))) :=
  PT.imp (pt_not h) fun σ H Q ⟨F, G, env, d, env', S, e, q⟩ => by
    simp only [tstf, notf, Option.bind_eq_bind, Option.bind_eq_some_iff, Prod.exists, Option.some.injEq, Prod.mk.injEq] at e
    obtain ⟨a, env1, ⟨b, env2, e1, kk, e2, rfl, rfl⟩, m, e3, rfl, rfl⟩ := e
    simp only [truD, Option.some.injEq] at e3
    subst e3
    refine ⟨F, G, env, kk, env2, S, ?_, fun H' G' S' s => q H' G' S' s⟩
    simp only [tstf, Option.bind_eq_bind, Option.bind_eq_some_iff, Prod.exists, Option.some.injEq, Prod.mk.injEq]
    exact ⟨b, env2, e1, kk, e2, rfl, rfl⟩
theorem c_not {x : Expr} {pos : Pos} {f : Env → Option (PyData × Env)} (h : PE X x (rdE X.K cl f)) : PE X (.UnaryOp .Not x pos) (rdE X.K cl (notf f)) :=
  PE.imp (pe_notT h) fun σ H Q ⟨F, G, env, d, env', S, e, q⟩ => by
    simp only [notf, Option.bind_eq_bind, Option.bind_eq_some_iff, Prod.exists, Option.some.injEq, Prod.mk.injEq] at e
    obtain ⟨b, env2, e1, kk, e2, rfl, rfl⟩ := e
    exact ⟨F, G, env, b, env2, S, e1, fun v H' G' S' s r => ⟨kk, tru_rep r e2, q _ H' G' S' s (.bl _)⟩⟩
def itef (c a b : Env → Option (PyData × Env)) (env : Env) : Option (PyData × Env) := do
  let (x, env) ← c env
  let k ← truD x
  if k then a env else b env
theorem tst_split {f : Env → Option (PyData × Env)} {env env' : Env} {k : Bool} : tstf f env = some (k, env') ↔ ∃ x, f env = some (x, env') ∧ truD x = some k := by
  simp only [tstf, Option.bind_eq_bind, Option.bind_eq_some_iff, Prod.exists, Option.some.injEq, Prod.mk.injEq]
  constructor
  · rintro ⟨a, e1, h1, b, h2, rfl, rfl⟩; exact ⟨a, h1, h2⟩
  · rintro ⟨a, h1, h2⟩; exact ⟨a, _, h1, k, h2, rfl, rfl⟩
theorem ite_split {c a b : Env → Option (PyData × Env)} {env env' : Env} {d : PyData} : itef c a b env = some (d, env') ↔ ∃ k env1, tstf c env = some (k, env1) ∧ (if k = true then a env1 else b env1) = some (d, env') := by
  simp only [itef, tst_split, Option.bind_eq_bind, Option.bind_eq_some_iff, Prod.exists]
  constructor
  · rintro ⟨x, e1, h1, k, h2, h3⟩; exact ⟨k, e1, ⟨x, h1, h2⟩, h3⟩
  · rintro ⟨k, e1, ⟨x, h1, h2⟩, h3⟩; exact ⟨x, e1, h1, k, h2, h3⟩
theorem c_ite {x y z : Expr} {pos : Pos} {f g h : Env → Option (PyData × Env)} (hf : PT X x (rdT X.K cl (tstf f))) (hg : PE X y (rdE X.K cl g)) (hh : PE X z (rdE X.K cl h)) : PE X (.IfExp x y z pos) (rdE X.K cl (itef f g h)) :=
  PE.imp (pe_ifExp hf hg hh) fun σ H Q ⟨F, G, env, d, env', S, e, q⟩ => by
    obtain ⟨k, env1, e1, e2⟩ := ite_split.mp e
    refine ⟨F, G, env, k, env1, S, e1, fun H1 G1 S1 st1 => ?_⟩
    cases k with
    | true => exact ⟨F, G1, env1, d, env', S1, e2, fun v H' G' S' s r => q v H' G' S' (st1.trans s) r⟩
    | false => exact ⟨F, G1, env1, d, env', S1, e2, fun v H' G' S' s r => q v H' G' S' (st1.trans s) r⟩
theorem t_ite {x y z : Expr} {pos : Pos} {f g h : Env → Option (PyData × Env)} (hf : PT X x (rdT X.K cl (tstf f))) (hg : PT X y (rdT X.K cl (tstf g))) (hh : PT X z (rdT X.K cl (tstf h))) : PT X (.IfExp x y z pos) (rdT X.K cl (tstf (itef f g h))) := by
  refine ⟨fun pins s σ H Q I ⟨F, G, env, d, env', S, e, q⟩ => ?_⟩
  obtain ⟨v, e0, e3⟩ := tst_split.mp e
  obtain ⟨k, env1, e1, e2⟩ := ite_split.mp e0
  refine isTrue_IfExp (thn (hf.run pins s σ H (fun c H1 => c = k ∧ ∃ G1, SR X.K cl F env1 G1 σ H1 ∧ Step H (Zf F G) H1 (Zf F G1)) I ⟨F, G, env, k, env1, S, e1, fun H1 G1 S1 st1 => ⟨rfl, G1, S1, st1⟩⟩) fun c s1 ⟨H1, I1, hq⟩ => ?_)
  obtain ⟨rfl, G1, S1, st1⟩ := hq
  cases c with
  | true => exact hg.run pins s1 σ H1 _ I1 ⟨F, G1, env1, d, env', S1, tst_split.mpr ⟨v, e2, e3⟩, fun H' G' S' s => q H' G' S' (st1.trans s)⟩
  | false => exact hh.run pins s1 σ H1 _ I1 ⟨F, G1, env1, d, env', S1, tst_split.mpr ⟨v, e2, e3⟩, fun H' G' S' s => q H' G' S' (st1.trans s)⟩

/-! ### and, or -/
def andf (f g : Env → Option (PyData × Env)) (env : Env) : Option (PyData × Env) := do
  let (x, env) ← f env
  let k ← truD x
  if k then g env else some (x, env)
def orf (f g : Env → Option (PyData × Env)) (env : Env) : Option (PyData × Env) := do
  let (x, env) ← f env
  let k ← truD x
  if k then some (x, env) else g env
theorem and_split {f g : Env → Option (PyData × Env)} {env env' : Env} {d : PyData} : andf f g env = some (d, env') ↔ ∃ x k env1, f env = some (x, env1) ∧ truD x = some k ∧ (if k = true then g env1 else some (x, env1)) = some (d, env') := by
  simp only [andf, Option.bind_eq_bind, Option.bind_eq_some_iff, Prod.exists]
  constructor
  · rintro ⟨x, e1, h1, k, h2, h3⟩; exact ⟨x, k, e1, h1, h2, h3⟩
  · rintro ⟨x, k, e1, h1, h2, h3⟩; exact ⟨x, e1, h1, k, h2, h3⟩
theorem or_split {f g : Env → Option (PyData × Env)} {env env' : Env} {d : PyData} : orf f g env = some (d, env') ↔ ∃ x k env1, f env = some (x, env1) ∧ truD x = some k ∧ (if k = true then some (x, env1) else g env1) = some (d, env') := by
  simp only [orf, Option.bind_eq_bind, Option.bind_eq_some_iff, Prod.exists]
  constructor
  · rintro ⟨x, e1, h1, k, h2, h3⟩; exact ⟨x, k, e1, h1, h2, h3⟩
  · rintro ⟨x, k, e1, h1, h2, h3⟩; exact ⟨x, e1, h1, k, h2, h3⟩
variable {a b : Expr} {rest : List Expr} {pos : Pos} {f g : Env → Option (PyData × Env)}
theorem c_and (ha : PE X a (rdE X.K cl f)) (hb : PE X (.BoolOp .And (b :: rest) pos) (rdE X.K cl g)) : PE X (.BoolOp .And (a :: b :: rest) pos) (rdE X.K cl (andf f g)) :=
  PE.imp (pe_andT ha hb) fun σ H Q ⟨F, G, env, d, env', S, e, q⟩ => by
    obtain ⟨x, k, env1, e1, e2, e3⟩ := and_split.mp e
    refine ⟨F, G, env, x, env1, S, e1, fun v H1 G1 S1 st1 r1 => ⟨k, tru_rep r1 e2, ?_⟩⟩
    cases k with
    | true => exact ⟨F, G1, env1, d, env', S1, e3, fun v H' G' S' s r => q v H' G' S' (st1.trans s) r⟩
    | false =>
      simp only [Bool.false_eq_true, if_false, Option.some.injEq, Prod.mk.injEq] at e3
      obtain ⟨rfl, rfl⟩ := e3
      exact q v H1 G1 S1 st1 r1
theorem c_or (ha : PE X a (rdE X.K cl f)) (hb : PE X (.BoolOp .Or (b :: rest) pos) (rdE X.K cl g)) : PE X (.BoolOp .Or (a :: b :: rest) pos) (rdE X.K cl (orf f g)) :=
  PE.imp (pe_orT ha hb) fun σ H Q ⟨F, G, env, d, env', S, e, q⟩ => by
    obtain ⟨x, k, env1, e1, e2, e3⟩ := or_split.mp e
    refine ⟨F, G, env, x, env1, S, e1, fun v H1 G1 S1 st1 r1 => ⟨k, tru_rep r1 e2, ?_⟩⟩
    cases k with
    | false => exact ⟨F, G1, env1, d, env', S1, e3, fun v H' G' S' s r => q v H' G' S' (st1.trans s) r⟩
    | true =>
      simp only [if_true, Option.some.injEq, Prod.mk.injEq] at e3
      obtain ⟨rfl, rfl⟩ := e3
      exact q v H1 G1 S1 st1 r1
theorem tr_true {x : PyData} (h : truD x = some true) {env env' : Env} {d : PyData} (e : some (x, env) = some (d, env')) : truD d = some true ∧ env = env' := by
  simp only [Option.some.injEq, Prod.mk.injEq] at e
  obtain ⟨rfl, rfl⟩ := e
  exact ⟨h, rfl⟩
theorem w_and (ha : PT X a (rdT X.K cl (tstf f))) (hb : PW X (.BoolOp .And (b :: rest) pos) (rdT X.K cl (tstf g))) : PW X (.BoolOp .And (a :: b :: rest) pos) (rdT X.K cl (tstf (andf f g))) :=
  PW.imp (pw_and ha hb) fun σ H Q ⟨F, G, env, d, env', S, e, q⟩ => by
    obtain ⟨v, e0, e4⟩ := tst_split.mp e
    obtain ⟨x, k, env1, e1, e2, e3⟩ := and_split.mp e0
    refine ⟨F, G, env, k, env1, S, tst_split.mpr ⟨x, e1, e2⟩, fun H1 G1 S1 st1 => ?_⟩
    cases k with
    | true => exact ⟨F, G1, env1, d, env', S1, tst_split.mpr ⟨v, e3, e4⟩, fun H' G' S' s => q H' G' S' (st1.trans s)⟩
    | false =>
      simp only [Bool.false_eq_true, if_false, Option.some.injEq, Prod.mk.injEq] at e3
      obtain ⟨rfl, rfl⟩ := e3
      rw [e2] at e4
      cases e4
      exact q H1 G1 S1 st1
theorem w_or (ha : PT X a (rdT X.K cl (tstf f))) (hb : PW X (.BoolOp .Or (b :: rest) pos) (rdT X.K cl (tstf g))) : PW X (.BoolOp .Or (a :: b :: rest) pos) (rdT X.K cl (tstf (orf f g))) :=
  PW.imp (pw_or ha hb) fun σ H Q ⟨F, G, env, d, env', S, e, q⟩ => by
    obtain ⟨v, e0, e4⟩ := tst_split.mp e
    obtain ⟨x, k, env1, e1, e2, e3⟩ := or_split.mp e0
    refine ⟨F, G, env, k, env1, S, tst_split.mpr ⟨x, e1, e2⟩, fun H1 G1 S1 st1 => ?_⟩
    cases k with
    | false => exact ⟨F, G1, env1, d, env', S1, tst_split.mpr ⟨v, e3, e4⟩, fun H' G' S' s => q H' G' S' (st1.trans s)⟩
    | true =>
      simp only [if_true, Option.some.injEq, Prod.mk.injEq] at e3
      obtain ⟨rfl, rfl⟩ := e3
      rw [e2] at e4
      cases e4
      exact q H1 G1 S1 st1

/-! ### comparisons as tests, chains -/
theorem t_cmp {x y : Expr} {o : CmpOp} {pos : Pos} {f g : Env → Option (Opv × Env)} (hr : Room k X.A) (hx : PE X x (rdO X.K cl f)) (hy : PE X y (rdO X.K cl g)) (hm : behindInMarks o y = false) :
    PT X (.Compare x [o] [y] pos) (rdT X.K cl (tstf fun env => do
      let (x, env) ← f env
      let (y, env) ← g env
      let x ← resolve env x
      let y ← resolve env y
      let d ← op2D (.cmp o) x y
      some (d, env))) :=
  PT.imp (pt_cmpR (cmp_ok hr o) hx hy hm) fun σ H Q ⟨F, G, env, d, env', S, e, q⟩ => by
    obtain ⟨v, e0, e6⟩ := tst_split.mp e
    simp only [Option.bind_eq_bind, Option.bind_eq_some_iff, Option.some.injEq, Prod.mk.injEq, Prod.exists] at e0
    obtain ⟨a, env1, e1, b, env2, e2, da, e3, db, e4, dd, e5, rfl, rfl⟩ := e0
    refine ⟨F, G, env, a, env1, S, e1, fun v H1 G1 S1 st1 r1 => ⟨F, G1, env1, b, env2, S1, e2, fun w H2 G2 S2 st2 r2 => ?_⟩⟩
    refine ⟨Zf F G2, da, db, dd, S2.zd, S2.slot e3 (r1.step st2), S2.slot e4 r2, e5, S2.give fun v' H' G' S' s' r' _ => ?_⟩
    simp only [op2D, Option.map_eq_some_iff] at e5
    obtain ⟨m, _, rfl⟩ := e5
    simp only [truD, Option.some.injEq] at e6
    subst e6
    cases r'
    exact ⟨_, rfl, q H' G' S' ((st1.trans st2).trans s')⟩
def chainf (o1 o2 : CmpOp) (f g h : Env → Option (PyData × Env)) (env : Env) : Option (PyData × Env) := do
  let (x, env) ← f env
  let (y, env) ← g env
  let k ← cmpD o1 x y
  if k then
    let (z, env) ← h env
    let m ← cmpD o2 y z
    some (.bool m, env)
  else some (.bool false, env)
theorem chain_split {o1 o2 : CmpOp} {f g h : Env → Option (PyData × Env)} {env env' : Env} {d : PyData} : chainf o1 o2 f g h env = some (d, env') ↔ ∃ x env1 y env2 k, f env = some (x, env1) ∧ g env1 = some (y, env2) ∧ cmpD o1 x y = some k ∧
    ((k = true ∧ ∃ z m, h env2 = some (z, env') ∧ cmpD o2 y z = some m ∧ d = .bool m) ∨ (k = false ∧ d = .bool false ∧ env2 = env')) := by
  simp only [chainf, Option.bind_eq_bind, Option.bind_eq_some_iff, Prod.exists]
  constructor
  · rintro ⟨x, e1, h1, y, e2, h2, k, h3, h4⟩
    refine ⟨x, e1, y, e2, k, h1, h2, h3, ?_⟩
    cases k with
    | true =>
      simp only [if_true, Option.bind_eq_some_iff, Prod.exists, Option.some.injEq, Prod.mk.injEq] at h4
      obtain ⟨z, e3, h5, m, h6, rfl, rfl⟩ := h4
      exact .inl ⟨rfl, z, m, h5, h6, rfl⟩
    | false =>
      simp only [Bool.false_eq_true, if_false, Option.some.injEq, Prod.mk.injEq] at h4
      exact .inr ⟨rfl, h4.1.symm, h4.2⟩
  · rintro ⟨x, e1, y, e2, k, h1, h2, h3, h4⟩
    refine ⟨x, e1, h1, y, e2, h2, k, h3, ?_⟩
    rcases h4 with ⟨rfl, z, m, h5, h6, rfl⟩ | ⟨rfl, rfl, rfl⟩
    · simp only [if_true, Option.bind_eq_some_iff, Prod.exists, Option.some.injEq, Prod.mk.injEq]
      exact ⟨z, env', h5, m, h6, rfl, rfl⟩
    · simp
theorem chain_rd {x y z : Expr} {o1 o2 : CmpOp} {f g h : Env → Option (PyData × Env)} {σ : L2.St} {H : Hp} {Q : VK} (hq : rdE X.K cl (chainf o1 o2 f g h) σ H Q) :
    tChain (r2 X.K (op2D (.cmp o1))) (r2 X.K (op2D (.cmp o2))) (rdE X.K cl f) (rdE X.K cl g) (rdE X.K cl h) σ H fun v H' => Q v H' := by
  obtain ⟨F, G, env, d, env', S, e, q⟩ := hq
  obtain ⟨a, env1, b, env2, kk, e1, e2, e3, e4⟩ := chain_split.mp e
  refine ⟨F, G, env, a, env1, S, e1, fun v H1 G1 S1 st1 r1 => ⟨F, G1, env1, b, env2, S1, e2, fun w H2 G2 S2 st2 r2 => ?_⟩⟩
  refine ⟨Zf F G2, a, b, .bool kk, S2.zd, .of (r1.step st2), .of r2, by simp [op2D, e3], S2.give fun v' H' G' S' s' r' _ => ?_⟩
  cases r'
  refine ⟨kk, rfl, ?_⟩
  rcases e4 with ⟨rfl, zz, m, e5, e6, rfl⟩ | ⟨rfl, rfl, rfl⟩
  · rw [if_pos rfl]
    refine ⟨F, G', env2, zz, env', S', e5, fun w' H3 G3 S3 st3 r3 => ?_⟩
    refine ⟨Zf F G3, b, zz, .bool m, S3.zd, .of ((r2.step s').step st3), .of r3, by simp [op2D, e6], S3.give fun v4 H4 G4 S4 s4 r4 _ => ?_⟩
    exact q v4 H4 G4 S4 ((((st1.trans st2).trans s').trans st3).trans s4) r4
  · rw [if_neg Bool.false_ne_true]
    exact q _ H' G' S' ((st1.trans st2).trans s') (.bl _)
theorem lastM {o1 o2 : CmpOp} {y z : Expr} (h : behindInMarks o2 z = false) : lastMarks [o1, o2] [y, z] = false := by
  show lastMarks [o2] [z] = false
  exact h
theorem c_chain {x y z : Expr} {o1 o2 : CmpOp} {pos : Pos} {f g h : Env → Option (PyData × Env)} (hr : Room k X.A) (hx : PE X x (rdE X.K cl f)) (hy : PE X y (rdE X.K cl g)) (hz : PE X z (rdE X.K cl h)) (hm : behindInMarks o2 z = false) :
    PE X (.Compare x [o1, o2] [y, z] pos) (rdE X.K cl (chainf o1 o2 f g h)) :=
  PE.imp (pe_chain (cmp_ok hr o1) (cmp_ok hr o2) hx hy hz (lastM hm)) fun σ H Q hq => chain_rd (x := x) (y := y) (z := z) hq
theorem rdE_mono {K : PySem.W.Frag} {f : Env → Option (PyData × Env)} {σ : L2.St} {H : Hp} {Q Q' : VK} (h : rdE K cl f σ H Q) (i : ∀ v H', Q v H' → Q' v H') : rdE K cl f σ H Q' := by
  obtain ⟨F, G, env, d, env', S, e, q⟩ := h
  exact ⟨F, G, env, d, env', S, e, fun v H' G' S' s r => i v H' (q v H' G' S' s r)⟩
/-- from a test of a bool value -/
theorem rdT_E {K : PySem.W.Frag} {f : Env → Option (PyData × Env)} {σ : L2.St} {H : Hp} {Q : Bool → Hp → Prop} (hb : ∀ env d env', f env = some (d, env') → ∃ m, d = .bool m) (h : rdT K cl (tstf f) σ H Q) : rdE K cl f σ H fun v H' => ∃ c, v = .bl c ∧ Q c H' := by
  obtain ⟨F, G, env, d, env', S, e, q⟩ := h
  obtain ⟨v, e0, e1⟩ := tst_split.mp e
  obtain ⟨m, rfl⟩ := hb _ _ _ e0
  simp only [truD, Option.some.injEq] at e1
  subst e1
  refine ⟨F, G, env, _, env', S, e0, fun v H' G' S' s r => ?_⟩
  cases r
  exact ⟨_, rfl, q H' G' S' s⟩
theorem t_chain {x y z : Expr} {o1 o2 : CmpOp} {pos : Pos} {f g h : Env → Option (PyData × Env)} (hr : Room k X.A) (hx : PE X x (rdE X.K cl f)) (hy : PE X y (rdE X.K cl g)) (hz : PE X z (rdE X.K cl h)) (hm : behindInMarks o2 z = false) :
    PT X (.Compare x [o1, o2] [y, z] pos) (rdT X.K cl (tstf (chainf o1 o2 f g h))) :=
  PT.imp (pt_chain (cmp_ok hr o1) (cmp_ok hr o2) hx hy hz (lastM hm)) fun σ H Q hq => by
    refine chain_rd (x := x) (y := y) (z := z) (rdT_E (fun env d env' e => ?_) hq)
    obtain ⟨a, env1, b, env2, kk, e1, e2, e3, e4⟩ := chain_split.mp e
    rcases e4 with ⟨rfl, zz, m, e5, e6, rfl⟩ | ⟨rfl, rfl, rfl⟩
    · exact ⟨_, rfl⟩
    · exact ⟨_, rfl⟩
end
end VL

set_option Elab.async false
set_option linter.all false
set_option maxRecDepth 100000
set_option maxHeartbeats 2000000
/-! VL: lists of expressions, displays, subscripts, built-ins. -/
namespace VL
open PySem L2
open PyProof.Rows

section
variable {X : Cx} {cl : ClsT} {k : Nat} {c : Sc} {f g h : Env → Option (PyData × Env)}
theorem pe_X {fr : Bool} {x : Expr} (hx : PE X x (rdX fr X.K cl f)) : PE X x (rdE X.K cl f) := PE.imp hx fun σ H Q q => rdX_E q
/-! ### lists of expressions -/
def consf (star : Bool) (f : Env → Option (PyData × Env)) (fs : Env → Option (List PyData × Env)) (env : Env) : Option (List PyData × Env) := do
  let (d, env) ← f env
  let ds ← splD star d
  let (rs, env) ← fs env
  some (ds ++ rs, env)
theorem cons_split {star : Bool} {f : Env → Option (PyData × Env)} {fs : Env → Option (List PyData × Env)} {env env' : Env} {l : List PyData} :
    consf star f fs env = some (l, env') ↔ ∃ d env1 ds rs, f env = some (d, env1) ∧ splD star d = some ds ∧ fs env1 = some (rs, env') ∧ l = ds ++ rs := by
  simp only [consf, Option.bind_eq_bind, Option.bind_eq_some_iff, Prod.exists, Option.some.injEq, Prod.mk.injEq]
  constructor
  · rintro ⟨d, e1, h1, ds, h2, rs, e2, h3, rfl, rfl⟩; exact ⟨d, e1, ds, rs, h1, h2, h3, rfl⟩
  · rintro ⟨d, e1, ds, rs, h1, h2, h3, rfl⟩; exact ⟨d, e1, h1, ds, h2, rs, env', h3, rfl, rfl⟩
theorem l_nil : PA X [] (rdL X.K cl fun env => some ([], env)) := PA.imp pa_nil fun σ H Q ⟨F, G, env, d, env', S, e, q⟩ => by
  simp only [Option.some.injEq, Prod.mk.injEq] at e
  obtain ⟨rfl, rfl⟩ := e
  exact q [] H G S .refl .nil
theorem l_cons {x : Expr} {xs : List Expr} {fs : Env → Option (List PyData × Env)} (hx : PE X x (rdE X.K cl f)) (hs : PA X xs (rdL X.K cl fs)) (he : starEach (x :: xs) X.env = (false, eval x X.env) :: starEach xs X.env) : PA X (x :: xs) (rdL X.K cl (consf false f fs)) :=
  PA.imp (pa_cons hx hs he) fun σ H Q ⟨F, G, env, d, env', S, e, q⟩ => by
    obtain ⟨a, env1, ds, rs, e1, e2, e3, rfl⟩ := cons_split.mp e
    simp only [splD, Option.some.injEq] at e2
    subst e2
    exact ⟨F, G, env, a, env1, S, e1, fun v H1 G1 S1 st1 r1 => ⟨F, G1, env1, rs, env', S1, e3, fun vs H' G' S' s r => q (v :: vs) H' G' S' (st1.trans s) (.cons (r1.step s) r)⟩⟩
theorem rep_seq {K : PySem.W.Frag} {H : Hp} {Z : AddrS} {v : V} {d : PyData} {ds : List PyData} (r : Rep K H Z v d) (e : seqD d = some ds) : ∃ p xs, v = .ref p ∧ (SqT K H p xs ∨ SqL K H p xs) ∧ RepAll K H Z xs ds := by
  cases d <;> simp [seqD] at e
  · subst e; cases r with | lst a b => exact ⟨_, _, rfl, .inr a.sq, b⟩
  · subst e; cases r with | tup a b => exact ⟨_, _, rfl, .inl a.sq, b⟩
theorem l_star {x : Expr} {xs : List Expr} {p : Pos} {fs : Env → Option (List PyData × Env)} (hx : PE X x (rdE X.K cl f)) (hs : PA X xs (rdL X.K cl fs)) : PA X (.Starred x p :: xs) (rdL X.K cl (consf true f fs)) :=
  PA.imp (StX.pa_star hx hs rfl) fun σ H Q ⟨F, G, env, d, env', S, e, q⟩ => by
    obtain ⟨a, env1, ds, rs, e1, e2, e3, rfl⟩ := cons_split.mp e
    simp only [splD] at e2
    refine ⟨F, G, env, a, env1, S, e1, fun v H1 G1 S1 st1 r1 => ?_⟩
    obtain ⟨p, ys, rfl, hq, ra⟩ := rep_seq r1 e2
    exact ⟨p, ys, rfl, hq, ⟨F, G1, env1, rs, env', S1, e3, fun vs H' G' S' s r => q (ys ++ vs) H' G' S' (st1.trans s) ((ra.step s).append r)⟩⟩
def rconsf (f : Env → Option (Opv × Env)) (fs : Env → Option (List Opv × Env)) (env : Env) : Option (List Opv × Env) := do
  let (d, env) ← f env
  let (rs, env) ← fs env
  some (d :: rs, env)
theorem r_nil : PA X [] (rdOs X.K cl fun env => some ([], env)) := PA.imp pa_nil fun σ H Q ⟨F, G, env, d, env', S, e, q⟩ => by
  simp only [Option.some.injEq, Prod.mk.injEq] at e
  obtain ⟨rfl, rfl⟩ := e
  exact q [] H G S .refl .nil
theorem OpAll.step {K : PySem.W.Frag} {σ : L2.St} {H H' : Hp} {Z Z' : AddrS} (s : Step H Z H' Z') : ∀ {vs : List V} {os : List Opv}, OpAll K σ H Z vs os → OpAll K σ H' Z' vs os
  | _, _, .nil => .nil
  | _, _, .cons a b => .cons (a.step s) (OpAll.step s b)
theorem r_cons {x : Expr} {xs : List Expr} {f : Env → Option (Opv × Env)} {fs : Env → Option (List Opv × Env)} (hx : PE X x (rdO X.K cl f)) (hs : PA X xs (rdOs X.K cl fs)) (he : starEach (x :: xs) X.env = (false, eval x X.env) :: starEach xs X.env) : PA X (x :: xs) (rdOs X.K cl (rconsf f fs)) :=
  PA.imp (pa_cons hx hs he) fun σ H Q ⟨F, G, env, d, env', S, e, q⟩ => by
    simp only [rconsf, Option.bind_eq_bind, Option.bind_eq_some_iff, Prod.exists, Option.some.injEq, Prod.mk.injEq] at e
    obtain ⟨a, env1, e1, rs, env2, e2, rfl, rfl⟩ := e
    exact ⟨F, G, env, a, env1, S, e1, fun v H1 G1 S1 st1 r1 => ⟨F, G1, env1, rs, _, S1, e2, fun vs H' G' S' s r => q (v :: vs) H' G' S' (st1.trans s) (.cons (r1.step s) r)⟩⟩
/-- the operands, when the operation runs -/
inductive WAll (K : PySem.W.Frag) (H : Hp) (Z : AddrS) : List V → List PyData → Prop
  | nil : WAll K H Z [] []
  | cons {v : V} {d : PyData} {vs : List V} {ds : List PyData} : WRep K H Z v d → WAll K H Z vs ds → WAll K H Z (v :: vs) (d :: ds)
theorem SR.slots {K : PySem.W.Frag} {F : FP} {env : Env} {G : Nat → List Addr} {σ : L2.St} {H : Hp} (S : SR K cl F env G σ H) : ∀ {os : List Opv} {vs : List V} {ds : List PyData}, resolveAll env os = some ds → OpAll K σ H (Zf F G) vs os → WAll K H (Zf F G) vs ds
  | [], _, _, e, r => by
    simp only [resolveAll, Option.some.injEq] at e
    subst e
    cases r
    exact .nil
  | o :: os, _, _, e, r => by
    simp only [resolveAll, Option.bind_eq_bind, Option.bind_eq_some_iff, Option.some.injEq] at e
    obtain ⟨d, e1, ds, e2, rfl⟩ := e
    cases r with
    | cons a b => exact .cons (S.slot e1 a) (SR.slots S e2 b)

/-! ### displays -/
theorem c_tup {xs : List Expr} {kk : Nat} {pos : Pos} {fs : Env → Option (List PyData × Env)} (hs : PA X xs (rdL X.K cl fs)) : PE X (.Tuple xs kk pos) (rdE X.K cl fun env => do
    let (ds, env) ← fs env
    if ds.length ≤ lineN then some (.tuple ds, env) else none) :=
  PE.imp (pe_tupF hs) fun σ H Q ⟨F, G, env, d, env', S, e, q⟩ => by
    simp only [Option.bind_eq_bind, Option.bind_eq_some_iff, Prod.exists] at e
    obtain ⟨ds, env1, e1, e2⟩ := e
    split at e2
    · rename_i hl
      simp only [Option.some.injEq, Prod.mk.injEq] at e2
      obtain ⟨rfl, rfl⟩ := e2
      refine ⟨F, G, env, ds, env1, S, e1, fun vs H1 G1 S1 st1 r1 => ⟨by rw [r1.length, lineEq]; exact hl, ?_⟩⟩
      exact Gv.newT (S1.give fun v H' G' S' s r _ => q v H' G' S' (st1.trans s) r) S1.zd r1
    · cases e2
theorem c_lst {xs : List Expr} {pos : Pos} {fs : Env → Option (List PyData × Env)} (hs : PA X xs (rdL X.K cl fs)) : PE X (.List xs pos) (rdX true X.K cl fun env => do
    let (ds, env) ← fs env
    if ds.length ≤ lineN then some (.list ds, env) else none) :=
  PE.imp (pe_lst hs) fun σ H Q ⟨F, G, env, d, env', S, e, q⟩ => by
    simp only [Option.bind_eq_bind, Option.bind_eq_some_iff, Prod.exists] at e
    obtain ⟨ds, env1, e1, e2⟩ := e
    split at e2
    · rename_i hl
      simp only [Option.some.injEq, Prod.mk.injEq] at e2
      obtain ⟨rfl, rfl⟩ := e2
      refine ⟨F, G, env, ds, env1, S, e1, fun vs H1 G1 S1 st1 r1 => ⟨by rw [r1.length, lineEq]; exact hl, ?_⟩⟩
      exact Gv.newL (S1.give fun v H' G' S' s r fr => q v H' G' S' (st1.trans s) r fun _ => (fr rfl).back st1) S1.zd r1
    · cases e2

/-! ### subscripts -/
theorem atD_eq {α : Type} (xs : List α) (i : Int) : atI xs i = atD xs i := by
  unfold atI atD ixN
  by_cases h : 0 ≤ i
  · rw [if_pos h, if_pos h]
    by_cases h2 : i < xs.length
    · rw [if_pos h2, if_pos h2]; rfl
    · rw [if_neg h2, if_neg h2]; rfl
  · rw [if_neg h, if_neg h]
    by_cases h2 : -(xs.length : Int) ≤ i
    · rw [if_pos h2, if_pos h2]; rfl
    · rw [if_neg h2, if_neg h2]; rfl
theorem at_rep {K : PySem.W.Frag} {H : Hp} {Z : AddrS} {vs : List V} {ds : List PyData} {i : Int} {d : PyData} (r : RepAll K H Z vs ds) (e : atD ds i = some d) : ∃ v, atI vs i = some v ∧ Rep K H Z v d := by
  rw [atD_eq]
  unfold atD at e ⊢
  rw [r.length]
  split at e
  · rename_i h1
    split at e
    · rename_i h2
      rw [if_pos h1, if_pos h2]; exact r.get e
    · cases e
  · rename_i h1
    split at e
    · rename_i h2
      rw [if_neg h1, if_pos h2]; exact r.get e
    · cases e
/-- an operation that hands on a part of its operand -/
def rI (K : PySem.W.Frag) (f : PyData → PyData → Option PyData) : R2 := fun x y H Q => ∃ Z a b d, WRep K H Z x a ∧ WRep K H Z y b ∧ f a b = some d ∧ ∀ v, Rep K H Z v d → Q v H
theorem ix_ok : IxR X (rI X.K idxD) := by
  intro value slice pins s σ H x y v u Q I rx ry ⟨Z, a, b, d, wa, wb, e, g⟩ hs
  cases a <;> try (simp [idxD] at e; done)
  · cases b <;> try (simp [idxD] at e; done)
    obtain ⟨p, xs, rfl, h1, q1⟩ := wa.list
    have := wb.int; subst this
    obtain ⟨w, hw, rw'⟩ := at_rep q1 (by simpa [idxD] using e)
    exact ix_list value slice pins s σ H _ _ v u Q I rx ry ⟨p, xs, _, w, rfl, rfl, h1, hw, g w rw'⟩ hs
  · cases b <;> try (simp [idxD] at e; done)
    obtain ⟨p, xs, rfl, h1, q1⟩ := wa.tuple
    have := wb.int; subst this
    obtain ⟨w, hw, rw'⟩ := at_rep q1 (by simpa [idxD] using e)
    exact ix_tup value slice pins s σ H _ _ v u Q I rx ry ⟨p, xs, _, w, rfl, rfl, h1.sq, hw, g w rw'⟩ hs
theorem c_idx {x y : Expr} {pos : Pos} {f : Env → Option (Opv × Env)} {g : Env → Option (PyData × Env)} (hx : PE X x (rdO X.K cl f)) (hy : PE X y (rdE X.K cl g)) (hs : noSl y = true) : PE X (.Subscript x y pos) (rdE X.K cl fun env => do
    let (x, env) ← f env
    let (y, env) ← g env
    let x ← resolve env x
    let d ← idxD x y
    some (d, env)) :=
  PE.imp (pe_ix ix_ok hx hy (plainIx hs)) fun σ H Q ⟨F, G, env, d, env', S, e, q⟩ => by
    simp only [Option.bind_eq_bind, Option.bind_eq_some_iff, Option.some.injEq, Prod.mk.injEq, Prod.exists] at e
    obtain ⟨a, env1, e1, b, env2, e2, da, e3, dd, e5, rfl, rfl⟩ := e
    refine ⟨F, G, env, a, env1, S, e1, fun v H1 G1 S1 st1 r1 => ⟨F, G1, env1, b, env2, S1, e2, fun w H2 G2 S2 st2 r2 => ?_⟩⟩
    exact ⟨Zf F G2, da, b, dd, S2.slot e3 (r1.step st2), .of r2, e5, fun v' r' => q v' H2 G2 S2 (st1.trans st2) r'⟩
/-- slices -/
theorem sIx_eq (n d : Nat) (o : Option Int) : HT.sIx n d o = sIx n d o := by
  cases o <;> rfl
theorem cut_rep {K : PySem.W.Frag} {H : Hp} {Z : AddrS} {vs : List V} {ds : List PyData} (r : RepAll K H Z vs ds) (lo hi : Option Int) : RepAll K H Z (cutV vs lo hi) (cutD ds lo hi) := by
  unfold cutV cutD
  rw [sIx_eq, sIx_eq, r.length]
  exact (r.drop _).take _
def rS (K : PySem.W.Frag) : V → Option Int → Option Int → Hp → VK → Prop := fun x lo hi H Q => ∃ Z a d, Zd Z H ∧ WRep K H Z x a ∧ slcD a lo hi = some d ∧ Gv K H Z d Q
theorem sl_ok : SlR X (rS X.K) := by
  intro pins s σ H x v vl vu lo hi sl Q I rx hs pl pu ⟨Z, a, d, zd, wa, e, g⟩
  cases a <;> simp [slcD] at e
  · subst e
    obtain ⟨p, xs, rfl, h1, q1⟩ := wa.list
    exact sl_list pins s σ H _ v vl vu lo hi sl Q I rx hs pl pu ⟨p, xs, rfl, h1, g.newL zd (cut_rep q1 lo hi)⟩
  · subst e
    obtain ⟨p, xs, rfl, h1, q1⟩ := wa.tuple
    refine slF pins s σ H _ v vl vu lo hi sl Q I rx hs pl pu ⟨p, xs, rfl, h1.sq, fun n => g.same rfl (.tup h1 ?_), g.newT zd (cut_rep q1 lo hi)⟩
    have := cut_rep q1 lo hi
    rw [n] at this
    exact this
def slf (f : Env → Option (Opv × Env)) (l h : Env → Option (Option Int × Env)) (env : Env) : Option (PyData × Env) := do
  let (x, env) ← f env
  let (l, env) ← l env
  let (h, env) ← h env
  let x ← resolve env x
  let d ← slcD x l h
  some (d, env)
theorem c_slc {x : Expr} {lo hi : Option Expr} {p2 pos : Pos} {f : Env → Option (Opv × Env)} {l h : Env → Option (Option Int × Env)} (hx : PE X x (rdO X.K cl f)) (hl : PO X lo (rdP X.K cl l)) (hh : PO X hi (rdP X.K cl h)) :
    PE X (.Subscript x (.Slice lo hi none p2) pos) (rdX true X.K cl (slf f l h)) :=
  PE.imp (pe_slice sl_ok hx hl hh) fun σ H Q ⟨F, G, env, d, env', S, e, q⟩ => by
    simp only [slf, Option.bind_eq_bind, Option.bind_eq_some_iff, Option.some.injEq, Prod.mk.injEq, Prod.exists] at e
    obtain ⟨a, env1, e1, b, env2, e2, c, env3, e3, da, e4, dd, e5, rfl, rfl⟩ := e
    refine ⟨F, G, env, a, env1, S, e1, fun v H1 G1 S1 st1 r1 => ⟨F, G1, env1, b, env2, S1, e2, fun H2 G2 S2 st2 => ⟨F, G2, env2, c, env3, S2, e3, fun H3 G3 S3 st3 => ?_⟩⟩⟩
    exact ⟨Zf F G3, da, dd, S3.zd, S3.slot e4 (r1.step (st2.trans st3)), e5, S3.give fun v' H' G' S' s' r' fr => q v' H' G' S' (((st1.trans st2).trans st3).trans s') r' fun z => (fr (by simpa using z)).back ((st1.trans st2).trans st3)⟩
theorem p_no : PO X none (rdP X.K cl fun env => some (none, env)) := PO.imp po_none fun σ H Q ⟨F, G, env, d, env', S, e, q⟩ => by
  simp only [Option.some.injEq, Prod.mk.injEq] at e
  obtain ⟨rfl, rfl⟩ := e
  exact q H G S .refl
def parf (f : Env → Option (PyData × Env)) (env : Env) : Option (Option Int × Env) := do
  let (d, env) ← f env
  match d with
  | .int i => some (some i, env)
  | _ => none
theorem p_so {x : Expr} (hx : PE X x (rdE X.K cl f)) : PO X (some x) (rdP X.K cl (parf f)) := PO.imp (po_some hx) fun σ H Q ⟨F, G, env, d, env', S, e, q⟩ => by
  simp only [parf, Option.bind_eq_bind, Option.bind_eq_some_iff, Prod.exists] at e
  obtain ⟨a, env1, e1, e2⟩ := e
  split at e2
  · simp only [Option.some.injEq, Prod.mk.injEq] at e2
    obtain ⟨rfl, rfl⟩ := e2
    refine ⟨F, G, env, _, env1, S, e1, fun v H' G' S' s r => ?_⟩
    cases r
    exact ⟨_, rfl, q H' G' S' s⟩
  · cases e2
/-- the script's slice -/
theorem vals_reps {K : PySem.W.Frag} {H : Hp} {Z : AddrS} : ∀ ns : List Int, RepAll K H Z (ns.map V.int) (ns.map PyData.int)
  | [] => .nil
  | n :: ns => .cons (.int n) (vals_reps ns)
theorem Scr.step {K : PySem.W.Frag} {H H' : Hp} {Z Z' : AddrS} {a : Addr} {xs : List V} (h : Scr K H a xs) (m : ∀ p, Z p → Mut (H p)) (s : Step H Z H' Z') : Scr K H' a xs := by
  rcases h with ⟨o, e⟩ | h
  · refine .inl ⟨o, (s.keep _ _ e fun z => ?_).1⟩
    have := m a z
    rw [e] at this
    exact this
  · exact .inr h
def scutf (i : Nat) (l h : Env → Option (Option Int × Env)) (env : Env) : Option (PyData × Env) := match getS env i with
  | .scr ns => do
    let (l, env) ← l env
    let (h, env) ← h env
    some (.list (cutD (ns.map .int) l h), env)
  | _ => none
theorem c_scut {i : Nat} {x : Str} {lo hi : Option Expr} {p p2 pos : Pos} {l h : Env → Option (Option Int × Env)} (hN : X.N[i]? = some x) (hv : Vis X.env.scope x) (hd : (x == ("__debug__" : Str)) = false) (hcd : (x == ("__classdict__" : Str)) = false)
    (hl : PO X lo (rdP X.K cl l)) (hh : PO X hi (rdP X.K cl h)) : PE X (.Subscript (.Name x p) (.Slice lo hi none p2) pos) (rdX true X.K cl (scutf i l h)) :=
  PE.imp (pe_slice sl_list (pe_var hN hv hd hcd) hl hh) fun σ H Q ⟨F, G, env, d, env', S, e, q⟩ => by
    unfold scutf at e
    split at e
    · rename_i ns hs
      simp only [Option.bind_eq_bind, Option.bind_eq_some_iff, Prod.exists, Option.some.injEq, Prod.mk.injEq] at e
      obtain ⟨b, env2, e2, c, env3, e3, rfl, rfl⟩ := e
      obtain ⟨a, ha, sc⟩ := S.scr i ns hs
      refine ⟨_, ha, F, G, env, b, env2, S, e2, fun H2 G2 S2 st2 => ⟨F, G2, env2, c, env3, S2, e3, fun H3 G3 S3 st3 => ?_⟩⟩
      have sc3 := sc.step (fun p z => S.mut z) (st2.trans st3)
      refine ⟨a, _, rfl, sc3.sq, ?_⟩
      exact Gv.newL (S3.give fun v' H' G' S' s' r' fr => q v' H' G' S' ((st2.trans st3).trans s') r' fun z => (fr (by simpa using z)).back (st2.trans st3)) S3.zd (cut_rep (vals_reps ns) b c)
    · cases e
end
end VL

set_option Elab.async false
set_option linter.all false
set_option maxRecDepth 100000
set_option maxHeartbeats 2000000
/-! VL: built-ins and methods of values. -/
namespace VL
open PySem L2
open PyProof.Rows

section
variable {X : Cx} {cl : ClsT} {k : Nat} {c : Sc} {f g h : Env → Option (PyData × Env)}
def rB (K : PySem.W.Frag) (b : Bi) : List V → Hp → VK → Prop := fun vs H Q => ∃ Z ds d, Zd Z H ∧ WAll K H Z vs ds ∧ biD b ds = some d ∧ Gv K H Z d Q
theorem ints_of {K : PySem.W.Frag} {H : Hp} {Z : AddrS} : ∀ {ds : List PyData} {vs : List V} {l : List Int}, RepAll K H Z vs ds → intsD ds = some l → vs = l.map V.int
  | [], _, _, r, e => by
    simp [intsD] at e; subst e; cases r; rfl
  | d :: ds, _, _, r, e => by
    cases r with
    | cons a b =>
      cases d <;> simp [intsD] at e
      obtain ⟨l', e', rfl⟩ := e
      cases a
      rw [ints_of b e']
      rfl
theorem bools_of {K : PySem.W.Frag} {H : Hp} {Z : AddrS} : ∀ {ds : List PyData} {vs : List V} {l : List Bool}, RepAll K H Z vs ds → boolsD ds = some l → vs = l.map V.bl
  | [], _, _, r, e => by
    simp [boolsD] at e; subst e; cases r; rfl
  | d :: ds, _, _, r, e => by
    cases r with
    | cons a b =>
      cases d <;> simp [boolsD] at e
      obtain ⟨l', e', rfl⟩ := e
      cases a
      rw [bools_of b e']
      rfl
theorem fmax (r : List Int) : ∀ i : Int, (∀ y ∈ i :: r, y ≤ r.foldl (fun m j => if j > m then j else m) i) ∧ r.foldl (fun m j => if j > m then j else m) i ∈ i :: r := by
  induction r with
  | nil => intro i; simp
  | cons j r ih =>
    intro i
    simp only [List.foldl_cons]
    by_cases q : j > i
    · rw [if_pos q]
      obtain ⟨h1, h2⟩ := ih j
      refine ⟨fun y hy => ?_, List.mem_cons_of_mem _ h2⟩
      rcases List.mem_cons.mp hy with rfl | hy
      · have := h1 j (by simp); omega
      · exact h1 y hy
    · rw [if_neg q]
      obtain ⟨h1, h2⟩ := ih i
      refine ⟨fun y hy => ?_, ?_⟩
      · rcases List.mem_cons.mp hy with rfl | hy
        · exact h1 y (by simp)
        · rcases List.mem_cons.mp hy with rfl | hy
          · have := h1 i (by simp); omega
          · exact h1 y (List.mem_cons_of_mem _ hy)
      · rcases List.mem_cons.mp h2 with h2 | h2
        · rw [h2]; simp
        · exact List.mem_cons_of_mem _ (List.mem_cons_of_mem _ h2)
theorem fmin (r : List Int) : ∀ i : Int, (∀ y ∈ i :: r, r.foldl (fun m j => if j < m then j else m) i ≤ y) ∧ r.foldl (fun m j => if j < m then j else m) i ∈ i :: r := by
  induction r with
  | nil => intro i; simp
  | cons j r ih =>
    intro i
    simp only [List.foldl_cons]
    by_cases q : j < i
    · rw [if_pos q]
      obtain ⟨h1, h2⟩ := ih j
      refine ⟨fun y hy => ?_, List.mem_cons_of_mem _ h2⟩
      rcases List.mem_cons.mp hy with rfl | hy
      · have := h1 j (by simp); omega
      · exact h1 y hy
    · rw [if_neg q]
      obtain ⟨h1, h2⟩ := ih i
      refine ⟨fun y hy => ?_, ?_⟩
      · rcases List.mem_cons.mp hy with rfl | hy
        · exact h1 y (by simp)
        · rcases List.mem_cons.mp hy with rfl | hy
          · have := h1 i (by simp); omega
          · exact h1 y (List.mem_cons_of_mem _ hy)
      · rcases List.mem_cons.mp h2 with h2 | h2
        · rw [h2]; simp
        · exact List.mem_cons_of_mem _ (List.mem_cons_of_mem _ h2)
theorem maxI_eq {ns : List Int} {m : Int} (h1 : m ∈ ns) (h2 : ∀ y ∈ ns, y ≤ m) : maxI ns = some m := by
  cases ns with
  | nil => cases h1
  | cons i r =>
    obtain ⟨a, b⟩ := fmax r i
    have e1 := a m h1
    have e2 := h2 _ b
    simp only [maxI, Option.some.injEq]
    omega
theorem minI_eq {ns : List Int} {m : Int} (h1 : m ∈ ns) (h2 : ∀ y ∈ ns, m ≤ y) : minI ns = some m := by
  cases ns with
  | nil => cases h1
  | cons i r =>
    obtain ⟨a, b⟩ := fmin r i
    have e1 := a m h1
    have e2 := h2 _ b
    simp only [minI, Option.some.injEq]
    omega
theorem w_seq {K : PySem.W.Frag} {H : Hp} {Z : AddrS} {v : V} {d : PyData} {ds : List PyData} (r : WRep K H Z v d) (e : seqD d = some ds) : ∃ p xs, v = .ref p ∧ (SqL K H p xs ∨ SqT K H p xs) ∧ RepAll K H Z xs ds := by
  cases d <;> simp [seqD] at e
  · subst e; obtain ⟨p, xs, rfl, a, b⟩ := r.list; exact ⟨_, _, rfl, .inl a, b⟩
  · subst e; obtain ⟨p, xs, rfl, a, b⟩ := r.tuple; exact ⟨_, _, rfl, .inr a.sq, b⟩
theorem w1 {K : PySem.W.Frag} {H : Hp} {Z : AddrS} {vs : List V} {d : PyData} (h : WAll K H Z vs [d]) : ∃ v, vs = [v] ∧ WRep K H Z v d := by
  cases h with | cons a b => cases b; exact ⟨_, rfl, a⟩
theorem w2 {K : PySem.W.Frag} {H : Hp} {Z : AddrS} {vs : List V} {d e : PyData} (h : WAll K H Z vs [d, e]) : ∃ v w, vs = [v, w] ∧ WRep K H Z v d ∧ WRep K H Z w e := by
  cases h with | cons a b => cases b with | cons a' b' => cases b'; exact ⟨_, _, rfl, a, a'⟩
theorem b_len : CallR X (.builtin "len") (rB X.K .len) := by
  intro pins s σ H xs us Q I r ⟨Z, ds, d, zd, wa, e, g⟩
  match ds, e with
  | [a], e =>
    obtain ⟨v, rfl, w⟩ := w1 wa
    simp only [biD, Option.map_eq_some_iff] at e
    obtain ⟨l, e1, rfl⟩ := e
    obtain ⟨p, ys, rfl, hq, ra⟩ := w_seq w e1
    refine call_len_seq pins s σ H _ us Q I r ⟨p, ys, rfl, hq, ?_⟩
    rw [ra.length]
    exact g.int
theorem b_int : CallR X (.type "int") (rB X.K .int) := by
  intro pins s σ H xs us Q I r ⟨Z, ds, d, zd, wa, e, g⟩
  match ds, e with
  | [.int i], e =>
    obtain ⟨v, rfl, w⟩ := w1 wa
    have := w.int; subst this
    simp only [biD, Option.some.injEq] at e; subst e
    exact call_int1 pins s σ H _ us Q I r (.inl ⟨i, rfl, g.int⟩)
  | [.bool i], e =>
    obtain ⟨v, rfl, w⟩ := w1 wa
    have := w.bool; subst this
    simp only [biD, Option.some.injEq] at e; subst e
    exact call_int1 pins s σ H _ us Q I r (.inr ⟨i, rfl, g.int⟩)
theorem b_max (hc : X.calm = true) : CallR X (.builtin "max") (rB X.K .max) := by
  intro pins s σ H xs us Q I r ⟨Z, ds, d, zd, wa, e, g⟩
  match ds, e with
  | [.int i, .int j], e =>
    obtain ⟨v, w, rfl, w1, w2⟩ := w2 wa
    have := w1.int; subst this
    have := w2.int; subst this
    simp only [biD, Option.some.injEq] at e; subst e
    exact call_max2 hc pins s σ H _ us Q I r ⟨i, j, rfl, g.int⟩
  | [.list l], e =>
    obtain ⟨v, rfl, w⟩ := w1 wa
    simp only [biD, Option.bind_eq_some_iff, Option.map_eq_some_iff] at e
    obtain ⟨ns, e1, m, e2, rfl⟩ := e
    obtain ⟨p, ys, rfl, hq, ra⟩ := w.list
    have := ints_of ra e1; subst this
    refine cr_max hc pins s σ H _ us Q I r ⟨p, ns, rfl, hq, ?_, fun m' h1 h2 => ?_⟩
    · cases ns with
      | nil => simp [maxI] at e2
      | cons _ _ => simp
    · have := maxI_eq h1 h2
      rw [e2] at this; cases this
      exact g.int
theorem b_min (hc : X.calm = true) : CallR X (.builtin "min") (rB X.K .min) := by
  intro pins s σ H xs us Q I r ⟨Z, ds, d, zd, wa, e, g⟩
  match ds, e with
  | [.int i, .int j], e =>
    obtain ⟨v, w, rfl, w1, w2⟩ := w2 wa
    have := w1.int; subst this
    have := w2.int; subst this
    simp only [biD, Option.some.injEq] at e; subst e
    exact call_min2 hc pins s σ H _ us Q I r ⟨i, j, rfl, g.int⟩
  | [.list l], e =>
    obtain ⟨v, rfl, w⟩ := w1 wa
    simp only [biD, Option.bind_eq_some_iff, Option.map_eq_some_iff] at e
    obtain ⟨ns, e1, m, e2, rfl⟩ := e
    obtain ⟨p, ys, rfl, hq, ra⟩ := w.list
    have := ints_of ra e1; subst this
    refine cr_min hc pins s σ H _ us Q I r ⟨p, ns, rfl, hq, ?_, fun m' h1 h2 => ?_⟩
    · cases ns with
      | nil => simp [minI] at e2
      | cons _ _ => simp
    · have := minI_eq h1 h2
      rw [e2] at this; cases this
      exact g.int
theorem b_list : CallR X (.type "list") (rB X.K .list) := by
  intro pins s σ H xs us Q I r ⟨Z, ds, d, zd, wa, e, g⟩
  match ds, e with
  | [a], e =>
    obtain ⟨v, rfl, w⟩ := w1 wa
    simp only [biD, Option.map_eq_some_iff] at e
    obtain ⟨l, e1, rfl⟩ := e
    obtain ⟨p, ys, rfl, hq, ra⟩ := w_seq w e1
    exact call_list_of pins s σ H _ us Q I r ⟨p, ys, rfl, hq, g.newL zd ra⟩
theorem b_tuple : CallR X (.type "tuple") (rB X.K .tuple) := by
  intro pins s σ H xs us Q I r ⟨Z, ds, d, zd, wa, e, g⟩
  match ds, e with
  | [a], e =>
    obtain ⟨v, rfl, w⟩ := w1 wa
    cases a <;> simp [biD, seqD] at e
    · subst e
      obtain ⟨p, ys, rfl, hq, ra⟩ := w.list
      exact tupleF pins s σ H _ us Q I r ⟨p, ys, rfl, .inl ⟨hq, g.newT zd ra⟩⟩
    · subst e
      obtain ⟨p, ys, rfl, hq, ra⟩ := w.tuple
      exact tupleF pins s σ H _ us Q I r ⟨p, ys, rfl, .inr ⟨hq.sq, g.same rfl (.tup hq ra)⟩⟩
theorem b_all (hc : X.calm = true) : CallR X (.builtin "all") (rB X.K .all) := by
  intro pins s σ H xs us Q I r ⟨Z, ds, d, zd, wa, e, g⟩
  match ds, e with
  | [.list l], e =>
    obtain ⟨v, rfl, w⟩ := w1 wa
    simp only [biD, Option.map_eq_some_iff] at e
    obtain ⟨bs, e1, rfl⟩ := e
    obtain ⟨p, ys, rfl, hq, ra⟩ := w.list
    have := bools_of ra e1; subst this
    exact cr_all hc pins s σ H _ us Q I r ⟨p, bs, rfl, hq, g.bool⟩
theorem b_any (hc : X.calm = true) : CallR X (.builtin "any") (rB X.K .any) := by
  intro pins s σ H xs us Q I r ⟨Z, ds, d, zd, wa, e, g⟩
  match ds, e with
  | [.list l], e =>
    obtain ⟨v, rfl, w⟩ := w1 wa
    simp only [biD, Option.map_eq_some_iff] at e
    obtain ⟨bs, e1, rfl⟩ := e
    obtain ⟨p, ys, rfl, hq, ra⟩ := w.list
    have := bools_of ra e1; subst this
    exact cr_any hc pins s σ H _ us Q I r ⟨p, bs, rfl, hq, g.bool⟩
theorem Gv.str {K : PySem.W.Frag} {H : Hp} {Z : AddrS} {Q : VK} {i : Str} (g : Gv K H Z (.str i) Q) : Q (.str i) H := g _ _ .refl (.str i) fun h => nomatch h
theorem b_repr : CallR X (.builtin "repr") (rB X.K .repr) := by
  intro pins s σ H xs us Q I r ⟨Z, ds, d, zd, wa, e, g⟩
  match ds, e with
  | [.bool b], e =>
    obtain ⟨v, rfl, w⟩ := w1 wa
    have := w.bool; subst this
    simp only [biD, Option.some.injEq] at e; subst e
    obtain ⟨u, rfl, ru⟩ := vals1 r
    cases ru
    exact PySem.P.repr_of_bool ⟨.str _, H, I.tok _, ⟨_, by cases b <;> rfl⟩, g.str⟩
  | [.none], e =>
    obtain ⟨v, rfl, w⟩ := w1 wa
    have := w.none; subst this
    simp only [biD, Option.some.injEq] at e; subst e
    obtain ⟨u, rfl, ru⟩ := vals1 r
    cases ru
    exact PySem.P.repr_of_none ⟨.str _, H, I.tok _, ⟨_, rfl⟩, g.str⟩
/-- which built-in it is -/
def biV : Bi → Value
  | .len => .builtin "len" | .int => .type "int" | .max => .builtin "max" | .min => .builtin "min" | .list => .type "list" | .tuple => .type "tuple" | .sorted => .builtin "sorted" | .all => .builtin "all" | .any => .builtin "any" | .repr => .builtin "repr" | .abs => .builtin "abs"
theorem bi_call (hc : X.calm = true) (b : Bi) : CallR X (biV b) (rB X.K b) := by
  cases b with
  | len => exact b_len
  | int => exact b_int
  | max => exact b_max hc
  | min => exact b_min hc
  | list => exact b_list
  | tuple => exact b_tuple
  | all => exact b_all hc
  | any => exact b_any hc
  | repr => exact b_repr
  | _ => intro pins s σ H xs us Q I r ⟨Z, ds, d, zd, wa, e, g⟩; simp [biD] at e
theorem bi_boot (b : Bi) : bootBuiltins (biName b) = some (biV b) := by
  cases b <;> decide +kernel
theorem bi_names (b : Bi) : biName b ≠ "__name__" ∧ ((biName b) == ("__debug__" : Str)) = false := by
  cases b <;> decide +kernel
/-- no argument is starred -/
theorem noStarEach {T : Tb} : ∀ {es : Es} {xs : List Expr} (env : PySem.Env), noStar es = true → mEs T es c xs = true → ∀ pos, (backTo pos (starEach xs env)).any (·.1) = false
  | .nil, xs, env, hn, hm, pos => by
    cases xs with
    | nil => rfl
    | cons _ _ => simp [mEs] at hm
  | .cons true e r, xs, env, hn, hm, pos => by simp [noStar] at hn
  | .cons false e r, xs, env, hn, hm, pos => by
    cases xs with
    | nil => simp [mEs] at hm
    | cons x xs =>
      simp only [mEs, Bool.and_eq_true] at hm
      simp only [noStar, Bool.not_false, Bool.true_and] at hn
      rw [starE hm.1]
      show (false || (backTo pos (starEach xs env)).any (·.1)) = false
      rw [noStarEach env hn hm.2 pos]
      rfl
def biF (b : Bi) (fs : Env → Option (List Opv × Env)) (env : Env) : Option (PyData × Env) := do
  let (xs, env) ← fs env
  let xs ← resolveAll env xs
  let d ← biD b xs
  some (d, env)
theorem c_bi {b : Bi} {x : Expr} {r : List Expr} {p pos : Pos} {fs : Env → Option (List Opv × Env)} (hx : XOk k X) (hg : Gl X (biName b)) (hs : PA X (x :: r) (rdOs X.K cl fs)) (h1 : starEach (x :: r) X.env = (false, eval x X.env) :: starEach r X.env) (h2 : (backTo pos (starEach r X.env)).any (·.1) = false) :
    PE X (.Call (.Name (biName b) p) (x :: r) [] pos) (rdX true X.K cl (biF b fs)) := by
  have hm : X.mg (biName b) = none := by cases b <;> exact hx.bt _ (by decide)
  have key : ∀ {σ : L2.St} {H : Hp} {Q : VK}, rdX true X.K cl (biF b fs) σ H Q → rdOs X.K cl fs σ H fun vs H1 => rB X.K b vs H1 Q := fun {σ H Q} ⟨F, G, env, d, env', S, e, q⟩ => by
    simp only [biF, Option.bind_eq_bind, Option.bind_eq_some_iff, Prod.exists, Option.some.injEq, Prod.mk.injEq] at e
    obtain ⟨os, env1, e1, ds, e2, dd, e3, rfl, rfl⟩ := e
    refine ⟨F, G, env, os, env1, S, e1, fun vs H1 G1 S1 st1 r1 => ⟨Zf F G1, ds, dd, S1.zd, S1.slots e2 r1, e3, ?_⟩⟩
    exact S1.give fun v' H' G' S' s' r' fr => q v' H' G' S' (st1.trans s') r' fun z => (fr (by simpa using z)).back st1
  have bo := bi_boot b
  have bn := bi_names b
  have bc := bi_call hx.calm b
  cases b <;> first
    | exact PE.imp (pe_callB bc hg hm bo hs bn.1 bn.2 h1 h2) fun σ H Q q => key q
    | exact PE.imp (pe_callTy bc hg hm bo hs bn.1 bn.2 h1 h2) fun σ H Q q => key q

/-! ### list(range(n)), tuple(range(n)) -/
theorem rg_reps {K : PySem.W.Frag} {H : Hp} {Z : AddrS} (a b : Int) : RepAll K H Z (rgV a b) ((List.range (b - a).toNat).map fun (k : Nat) => PyData.int (a + k)) := by
  refine .of (by rw [rgV_length, List.length_map, List.length_range]) fun i v d h1 h2 => ?_
  unfold rgV at h1
  rw [List.getElem?_map] at h1 h2
  cases e : (List.range (b - a).toNat)[i]? with
  | none => rw [e] at h2; cases h2
  | some n =>
    rw [e] at h1 h2
    simp only [Option.map_some, Option.some.injEq] at h1 h2
    subst h1 h2
    exact .int _
def lrangeF (t : Bool) (f : Env → Option (PyData × Env)) (env : Env) : Option (PyData × Env) := do
  let (x, env) ← f env
  match x with
  | .int n => (rangeD 0 n).map fun l => (if t then .tuple l else .list l, env)
  | _ => none
theorem rangeD_ok {a b : Int} {l : List PyData} (h : rangeD a b = some l) : RgOk a b ∧ l = (List.range (b - a).toNat).map fun (k : Nat) => PyData.int (a + k) := by
  unfold rangeD at h
  split at h
  · rename_i q
    simp only [Option.some.injEq] at h
    exact ⟨⟨by omega, by omega, by omega, by omega, by omega⟩, h.symm⟩
  · cases h
theorem lrange_split {t : Bool} {env env' : Env} {d : PyData} (e : lrangeF t f env = some (d, env')) : ∃ n l, f env = some (.int n, env') ∧ rangeD 0 n = some l ∧ d = if t = true then .tuple l else .list l := by
  simp only [lrangeF, Option.bind_eq_bind, Option.bind_eq_some_iff, Prod.exists] at e
  obtain ⟨x, env1, e1, e2⟩ := e
  split at e2
  · simp only [Option.map_eq_some_iff, Prod.mk.injEq] at e2
    obtain ⟨l, e3, e4, rfl⟩ := e2
    exact ⟨_, l, e1, e3, e4.symm⟩
  · cases e2
theorem c_lrange {x : Expr} {p p2 pos pos2 : Pos} (hx : XOk k X) (hg : Gl X "list") (hg2 : Gl X "range") (h : PE X x (rdE X.K cl f)) (hs : starEach [x] X.env = (false, eval x X.env) :: starEach [] X.env) :
    PE X (.Call (.Name "list" p) [.Call (.Name "range" p2) [x] [] pos2] [] pos) (rdX true X.K cl (lrangeF false f)) :=
  PE.imp (pe_listRg hx.calm hg (hx.bt _ (by decide)) (prg_1 hg2 (hx.bt _ (by decide)) h hs)) fun σ H Q ⟨F, G, env, d, env', S, e, q⟩ => by
    obtain ⟨n, l, e1, e2, rfl⟩ := lrange_split e
    obtain ⟨ok, rfl⟩ := rangeD_ok e2
    refine ⟨F, G, env, _, env', S, e1, fun v H1 G1 S1 st1 r1 => ?_⟩
    cases r1
    refine ⟨n, rfl, ok, ?_⟩
    exact Gv.newL (S1.give fun v' H' G' S' s' r' fr => q v' H' G' S' (st1.trans s') r' fun z => (fr rfl).back st1) S1.zd (rg_reps 0 n)
theorem c_trange {x : Expr} {p p2 pos pos2 : Pos} (hx : XOk k X) (hg : Gl X "tuple") (hg2 : Gl X "range") (h : PE X x (rdE X.K cl f)) (hs : starEach [x] X.env = (false, eval x X.env) :: starEach [] X.env) :
    PE X (.Call (.Name "tuple" p) [.Call (.Name "range" p2) [x] [] pos2] [] pos) (rdE X.K cl (lrangeF true f)) :=
  PE.imp (pe_tupRgF hx.calm hg (hx.bt _ (by decide)) (prg_1 hg2 (hx.bt _ (by decide)) h hs) rfl) fun σ H Q ⟨F, G, env, d, env', S, e, q⟩ => by
    obtain ⟨n, l, e1, e2, rfl⟩ := lrange_split e
    obtain ⟨ok, rfl⟩ := rangeD_ok e2
    refine ⟨F, G, env, _, env', S, e1, fun v H1 G1 S1 st1 r1 => ?_⟩
    cases r1
    refine ⟨n, rfl, ok, ?_⟩
    exact Gv.newT (S1.give fun v' H' G' S' s' r' fr => q v' H' G' S' (st1.trans s') r') S1.zd (rg_reps 0 n)
end
end VL

set_option Elab.async false
set_option linter.all false
set_option maxRecDepth 100000
set_option maxHeartbeats 2000000
/-! VL: methods of values, fields, pops. -/
namespace VL
open PySem L2
open PyProof.Rows

section
variable {X : Cx} {cl : ClsT} {k : Nat} {c : Sc} {f g h : Env → Option (PyData × Env)}
/-! ### the call of a built-in method -/
def TyX (K : PySem.W.Frag) (H : Hp) (T : String) (x : V) : Prop := (T = "list" ∧ ∃ p xs, x = .ref p ∧ SqL K H p xs) ∨ (T = "tuple" ∧ ∃ p xs, x = .ref p ∧ (FT H p xs ∨ KT K p xs))
theorem TyX.is {pins : List (Addr × Obj)} {σ : L2.St} {H : Hp} {s : Shared} {T : String} {x : V} {v : Value} (I : Inv X pins σ H s) (r : RelV x v) (ty : TyX X.K H T x) :
    s.TypeIs v T ∧ ∀ a, v = .ref a → ∃ ob, s.heap.get? a = some ob ∧ ob.dict = none := by
  rcases ty with ⟨rfl, p, xs, rfl, hq⟩ | ⟨rfl, p, xs, rfl, hq⟩
  · cases r
    obtain ⟨its, _, pl, _⟩ := I.list hq
    refine ⟨pl.isList.typeIs, fun a e => ?_⟩
    cases e
    obtain ⟨o, n, e, c, hd, _⟩ := pl
    exact ⟨o, e, hd⟩
  · cases r
    rcases hq with ⟨o, hd, e⟩ | ⟨o, its, n, hk, hc, hd, _⟩
    · obtain ⟨h1, _, its, _, o', h2, hc, _⟩ : s.heap.get? p = some o ∧ xs.length ≤ sizeLine ∧ ∃ its : List Value, Vals xs its ∧ IsTup s.heap p its.toArray := I.hok p _ e
      rw [h1] at h2; cases h2
      exact ⟨⟨o, h1, hc⟩, fun a e => by cases e; exact ⟨o, h1, hd⟩⟩
    · exact ⟨⟨o, I.kIn p o hk, hc⟩, fun a e => by cases e; exact ⟨o, I.kIn _ o hk, hd⟩⟩
/-- the kind is found when the object is there -/
def BmOk (X : Cx) (name : Str) (T id : String) (r : V → List V → Hp → VK → Prop) : Prop := PlainAttrs T ∧ PySem.Slot T name id ∧ typeOf (.builtin id) = pure (.type "method_descriptor") ∧ MtR X id r
theorem pe_bmX {o e : Expr} {es : List Expr} {to : TE} {t : TA} {name : Str} {apos cpos : Pos} (ho : PE X o to) (ha : PA X (e :: es) t)
    (hbase : attributeBase o name X.env (eval o X.env) = eval o X.env)
    (hfew : ((backTo cpos (starEach (e :: es) X.env)).all (fun x => !x.1) && (backToKw cpos (keywordEach [] X.env)).all (fun x => x.1.isSome)
      && decide ((e :: es).length + ([] : List Keyword).length + (if ([] : List Keyword).isEmpty then 0 else 1) < 30)) = true)
    (hline : (apos.endLine == cpos.line) = true) (hs : starEach (e :: es) X.env = (false, eval e X.env) :: starEach es X.env) (hplain : (backTo cpos (starEach es X.env)).any (·.1) = false) :
    PE X (.Call (.Attribute o name apos) (e :: es) [] cpos) (fun σ H Q => to σ H fun x H1 => ∃ T id r, BmOk X name T id r ∧ TyX X.K H1 T x ∧ t σ H1 fun xs H2 => r x xs H2 Q) := by
  refine ⟨fun pins s σ H Q I h => ?_⟩
  refine wpAny_Call_method_late hbase hfew hline rfl (thn (ho.run pins s σ H _ I h) fun v s1 ⟨x, H1, I1, r1, T, id, r, ⟨pa, slot, hty, hm⟩, ty, q1⟩ => ?_)
  obtain ⟨h1, h2⟩ := ty.is I1 r1
  refine ⟨T, id, pa, slot, hty, h1, h2, ?_⟩
  have hA := ha.run cpos pins s1 σ H1 _ I1 q1
  rw [hs] at hA ⊢
  refine Calls.callWith_builtin (by show (false || (backTo cpos (starEach es X.env)).any (·.1)) = false; rw [hplain] <;> rfl) (Calls.evalArgs_plain ?_)
  exact thn hA fun us s2 ⟨vs, H2, I2, r2, q2⟩ => hm pins s2 σ H2 x vs v us Q I2 r1 r2 q2

/-! ### index, count -/
theorem seq_facts {pins : List (Addr × Obj)} {σ : L2.St} {H : Hp} {s : Shared} {xs : List V} {ds : List PyData} {its : List Value} {y : V} {uy : Value} {d : PyData} (hu : X.A.units + 65 < cLine) (I : Inv X pins σ H s)
    (ha : DpAll X.K H xs ds) (rv : Vals xs its) (hy : Dp X.K H y d) (ry : RelV y uy) (sl : SeqAt.shaped (.list ds) = true) (sd : SeqAt.shaped d = true) :
    (∀ z ∈ its.toArray, SeqAt.EqAt X.A.in1 s z uy (PyData.eqv (SeqAt.readOf s.heap z) d)) ∧ its.map (SeqAt.readOf s.heap) = ds := by
  obtain ⟨bs, r1⟩ := Dp.reads I d y uy hy ry
  have hxs : PyData.canLayAll0 ds = true := SeqAt.canLay_of_shaped sl
  have hroom : X.A.units + 1 + min (PyData.depthAll ds) d.depth < cLine := room_in_shaped sd hu
  obtain ⟨as, h4⟩ := Dp.readsAll I ds _ its ha rv
  exact ⟨SeqAt.items_eqAt (vs := its.toArray) (show ReadsAll s.heap its.toArray.toList ds as from h4) r1 hxs (SeqAt.canLay_of_shaped sd) hroom, SeqAt.readsAll_map ds its as hxs h4⟩
def rMeL (K : PySem.W.Frag) (m : Me) : V → List V → Hp → VK → Prop := fun x xs H Q => ∃ p y zs ds d e, x = .ref p ∧ xs = [y] ∧ SqL K H p zs ∧ DpAll K H zs ds ∧ Dp K H y d ∧ meD m (.list ds) d = some (.int e) ∧ Q (.int e) H
def rMeT (K : PySem.W.Frag) (m : Me) : V → List V → Hp → VK → Prop := fun x xs H Q => ∃ p y zs ds d e, x = .ref p ∧ xs = [y] ∧ SqT K H p zs ∧ DpAll K H zs ds ∧ Dp K H y d ∧ meD m (.tuple ds) d = some (.int e) ∧ Q (.int e) H
theorem shT {ds : List PyData} : SeqAt.shaped (.tuple ds) = SeqAt.shaped (.list ds) := by
  rw [Bool.eq_iff_iff]
  simp [SeqAt.shaped, PyData.canLay0, PyData.depth]
theorem find_facts {d : PyData} {ds : List PyData} {j : Nat} (h : findD d ds = some j) : ∃ hj : j < ds.length, PyData.eqv ds[j] d = true ∧ ∀ (m : Nat) (hm : m < ds.length), m < j → PyData.eqv ds[m] d = false := by
  unfold findD at h
  obtain ⟨h1, h2, h3⟩ := List.findIdx?_eq_some_iff_getElem.mp h
  exact ⟨h1, h2, fun m hm hl => by simpa using h3 m hl⟩
theorem at_map {s : Shared} {its : List Value} {ds : List PyData} (h : its.map (SeqAt.readOf s.heap) = ds) (m : Nat) (hm : m < its.toArray.size) (hd : m < ds.length) : SeqAt.readOf s.heap its.toArray[m] = ds[m] := by
  subst h; simp
theorem count_map {s : Shared} {its : List Value} {ds : List PyData} {d : PyData} (h : its.map (SeqAt.readOf s.heap) = ds) : its.countP (fun z => PyData.eqv (SeqAt.readOf s.heap z) d) = ds.countP fun z => PyData.eqv z d := by
  subst h; rw [List.countP_map]; rfl
theorem mt_indexL (hu : X.A.units + 65 < cLine) : MtR X "list.index" (rMeL X.K .index) := by
  intro pins s σ H x xs v us Q I rx rxs h
  obtain ⟨p, y, zs, ds, d, e, rfl, rfl, hq, ha, hy, em, q⟩ := h
  cases rx
  obtain ⟨u, rfl, ru⟩ := rxs.one
  simp only [meD] at em
  split at em
  · rename_i sh
    simp only [Bool.and_eq_true] at sh
    simp only [Option.map_eq_some_iff, PyData.int.injEq] at em
    obtain ⟨j, ej, rfl⟩ := em
    obtain ⟨its, rv, ⟨⟨cls, dd, data, sls⟩, n, ho, hc, hdn, hdt⟩, hlen⟩ := I.list hq
    simp only at hc hdt
    subst hc hdt
    obtain ⟨f1, f2⟩ := seq_facts hu I ha rv hy ru sh.2 sh.1
    obtain ⟨hj, e1, e2⟩ := find_facts ej
    have hl : its.length = ds.length := by rw [← f2, List.length_map]
    have hjs : j < its.toArray.size := by simpa [hl] using hj
    have hsl := sizeLine_eq
    refine call_meets PySem.F.slot_list_index ⟨_, ho, rfl⟩ PySem.F.entry_list_index (PySem.F.args_list_index_2 _ _)
      (SeqAt.list_indexAt p its.toArray n dd sls u (fun u => PyData.eqv (SeqAt.readOf s.heap u) d) j hjs (by have := rv.length; omega) ?_ ?_) ⟨ho, f1, ⟨.int (j : Nat), H, I.tok _, ⟨_, rfl⟩, q⟩⟩
    · show PyData.eqv (SeqAt.readOf s.heap its.toArray[j]) d = true
      rw [at_map f2 j hjs hj]; exact e1
    · intro m hm hmj
      show PyData.eqv (SeqAt.readOf s.heap its.toArray[m]) d = false
      rw [at_map f2 m hm (by omega)]; exact e2 m _ hmj
  · cases em
theorem mt_countL (hu : X.A.units + 65 < cLine) : MtR X "list.count" (rMeL X.K .count) := by
  intro pins s σ H x xs v us Q I rx rxs h
  obtain ⟨p, y, zs, ds, d, e, rfl, rfl, hq, ha, hy, em, q⟩ := h
  cases rx
  obtain ⟨u, rfl, ru⟩ := rxs.one
  simp only [meD] at em
  split at em
  · rename_i sh
    simp only [Bool.and_eq_true] at sh
    simp only [Option.some.injEq, PyData.int.injEq] at em
    subst em
    obtain ⟨its, rv, ⟨⟨cls, dd, data, sls⟩, n, ho, hc, hdn, hdt⟩, hlen⟩ := I.list hq
    simp only at hc hdt
    subst hc hdt
    obtain ⟨f1, f2⟩ := seq_facts hu I ha rv hy ru sh.2 sh.1
    refine call_meets PySem.F.slot_list_count ⟨_, ho, rfl⟩ PySem.F.entry_list_count (PySem.F.args_list_count_2 _ _)
      (SeqAt.list_countAt p its.toArray n dd sls u (fun u => PyData.eqv (SeqAt.readOf s.heap u) d)) ⟨ho, f1, ⟨.int _, H, I.tok _, ⟨s.toks, ?_⟩, q⟩⟩
    show Value.int _ _ = _
    rw [show its.toArray.toList = its from rfl, count_map f2]
  · cases em
theorem mt_indexT (hu : X.A.units + 65 < cLine) : MtR X "tuple.index" (rMeT X.K .index) := by
  intro pins s σ H x xs v us Q I rx rxs h
  obtain ⟨p, y, zs, ds, d, e, rfl, rfl, hq, ha, hy, em, q⟩ := h
  cases rx
  obtain ⟨u, rfl, ru⟩ := rxs.one
  simp only [meD] at em
  split at em
  · rename_i sh
    rw [shT] at sh
    simp only [Bool.and_eq_true] at sh
    simp only [Option.map_eq_some_iff, PyData.int.injEq] at em
    obtain ⟨j, ej, rfl⟩ := em
    obtain ⟨its, rv, ⟨⟨cls, dd, data, sls⟩, ho, hc, n, hdt⟩, hlen⟩ := I.tuple hq
    simp only at hc hdt
    subst hc hdt
    obtain ⟨f1, f2⟩ := seq_facts hu I ha rv hy ru sh.2 sh.1
    obtain ⟨hj, e1, e2⟩ := find_facts ej
    have hl : its.length = ds.length := by rw [← f2, List.length_map]
    have hjs : j < its.toArray.size := by simpa [hl] using hj
    refine call_meets PySem.F.slot_tuple_index ⟨_, ho, rfl⟩ PySem.F.entry_tuple_index (PySem.F.args_tuple_index_2 _ _)
      (TI.tuple_indexAt p its.toArray n dd sls u (fun u => PyData.eqv (SeqAt.readOf s.heap u) d) j hjs ?_ ?_) ⟨ho, f1, ⟨.int (j : Nat), H, I.tok _, ⟨_, rfl⟩, q⟩⟩
    · show PyData.eqv (SeqAt.readOf s.heap its.toArray[j]) d = true
      rw [at_map f2 j hjs hj]; exact e1
    · intro m hm hmj
      show PyData.eqv (SeqAt.readOf s.heap its.toArray[m]) d = false
      rw [at_map f2 m hm (by omega)]; exact e2 m _ hmj
  · cases em
theorem mt_countT (hu : X.A.units + 65 < cLine) : MtR X "tuple.count" (rMeT X.K .count) := by
  intro pins s σ H x xs v us Q I rx rxs h
  obtain ⟨p, y, zs, ds, d, e, rfl, rfl, hq, ha, hy, em, q⟩ := h
  cases rx
  obtain ⟨u, rfl, ru⟩ := rxs.one
  simp only [meD] at em
  split at em
  · rename_i sh
    rw [shT] at sh
    simp only [Bool.and_eq_true] at sh
    simp only [Option.some.injEq, PyData.int.injEq] at em
    subst em
    obtain ⟨its, rv, ⟨⟨cls, dd, data, sls⟩, ho, hc, n, hdt⟩, hlen⟩ := I.tuple hq
    simp only at hc hdt
    subst hc hdt
    obtain ⟨f1, f2⟩ := seq_facts hu I ha rv hy ru sh.2 sh.1
    refine call_meets PySem.F.slot_tuple_count ⟨_, ho, rfl⟩ PySem.F.entry_tuple_count (PySem.F.args_tuple_count_2 _ _)
      (SeqAt.tuple_countAt p its.toArray n dd sls u (fun u => PyData.eqv (SeqAt.readOf s.heap u) d)) ⟨ho, f1, ⟨.int _, H, I.tok _, ⟨s.toks, ?_⟩, q⟩⟩
    show Value.int _ _ = _
    rw [show its.toArray.toList = its from rfl, count_map f2]
  · cases em
def mef (m : Me) (f : Env → Option (Opv × Env)) (g : Env → Option (PyData × Env)) (env : Env) : Option (PyData × Env) := do
  let (x, env) ← f env
  let x0 ← resolve env x
  let _ ← seqD x0
  let (y, env) ← g env
  let x ← resolve env x
  let d ← meD m x y
  some (d, env)
theorem meD_int {m : Me} {x y d : PyData} (h : meD m x y = some d) : ∃ e, d = .int e := by
  cases m <;> cases x <;> simp only [meD] at h <;> try (cases h; done)
  all_goals (split at h; rotate_left; cases h)
  · obtain ⟨a, _, rfl⟩ := Option.map_eq_some_iff.mp h; exact ⟨_, rfl⟩
  · obtain ⟨a, _, rfl⟩ := Option.map_eq_some_iff.mp h; exact ⟨_, rfl⟩
  · exact ⟨_, (Option.some.inj h).symm⟩
  · exact ⟨_, (Option.some.inj h).symm⟩
theorem resolve_two {env env' : Env} {o : Opv} {a b : PyData} (h : resolve env o = some a) (h' : resolve env' o = some b) : a = b ∨ ((∃ l, a = .list l) ∧ ∃ l, b = .list l) := by
  cases o with
  | st d => simp only [resolve, Option.some.injEq] at h h'; exact .inl (h.symm.trans h')
  | sl i =>
    have key : ∀ {env : Env} {a : PyData}, resolve env (.sl i) = some a → ∃ l, a = .list l := fun {env a} h => by
      simp only [resolve] at h
      split at h
      · rename_i o _; cases o <;> simp [OV.data] at h; exact ⟨_, h.symm⟩
      · rename_i o _; cases o <;> simp [OV.data] at h; exact ⟨_, h.symm⟩
      · cases h
    exact .inr ⟨key h, key h'⟩
theorem WRep.ty {K : PySem.W.Frag} {H : Hp} {Z : AddrS} {v : V} {d : PyData} {l : List PyData} (h : WRep K H Z v d) (e : seqD d = some l) : ((∃ l, d = .list l) ∧ TyX K H "list" v) ∨ ((∃ l, d = .tuple l) ∧ TyX K H "tuple" v) := by
  cases d <;> simp [seqD] at e
  · obtain ⟨p, xs, rfl, hq, _⟩ := h.list; exact .inl ⟨⟨_, rfl⟩, .inl ⟨rfl, p, xs, rfl, hq⟩⟩
  · obtain ⟨p, xs, rfl, hq, _⟩ := h.tuple; exact .inr ⟨⟨_, rfl⟩, .inr ⟨rfl, p, xs, rfl, hq.elim (fun z => .inl z.1) .inr⟩⟩
theorem bm_me (hr : Room k X.A) (m : Me) : (∃ id, BmOk X (meName m) "list" id (rMeL X.K m)) ∧ ∃ id, BmOk X (meName m) "tuple" id (rMeT X.K m) := by
  cases m with
  | index => exact ⟨⟨_, PySem.F.plainAttrs_list, PySem.F.slot_list_index, PySem.F.type_list_index, mt_indexL (hu65 hr)⟩, ⟨_, PySem.F.plainAttrs_tuple, PySem.F.slot_tuple_index, PySem.F.type_tuple_index, mt_indexT (hu65 hr)⟩⟩
  | count => exact ⟨⟨_, PySem.F.plainAttrs_list, PySem.F.slot_list_count, PySem.F.type_list_count, mt_countL (hu65 hr)⟩, ⟨_, PySem.F.plainAttrs_tuple, PySem.F.slot_tuple_count, PySem.F.type_tuple_count, mt_countT (hu65 hr)⟩⟩
theorem few1 {T : Tb} {e : E} {x : Expr} (h : mE T e c x = true) (env : PySem.Env) (p : Pos) : ((backTo p (starEach [x] env)).all (fun x => !x.1) && (backToKw p (keywordEach [] env)).all (fun x => x.1.isSome)
      && decide (([x] : List Expr).length + ([] : List Keyword).length + (if ([] : List Keyword).isEmpty then 0 else 1) < 30)) = true := by
  rw [starE h]; rfl
theorem pa_one {x : Expr} {t : TE} (hx : PE X x t) (he : starEach [x] X.env = (false, eval x X.env) :: starEach [] X.env) : PA X [x] (fun σ H Q => t σ H fun v H1 => Q [v] H1) := pa_cons hx pa_nil he
theorem c_me {T : Tb} {m : Me} {o x : Expr} {e : E} {ap cp : Pos} {f : Env → Option (Opv × Env)} (hr : Room k X.A) (hx : mE T e c x = true) (hn : noC0 o = true) (hl : (ap.endLine == cp.line) = true) (ho : PE X o (rdO X.K cl f)) (ha : PE X x (rdE X.K cl g)) :
    PE X (.Call (.Attribute o (meName m) ap) [x] [] cp) (rdE X.K cl (mef m f g)) :=
  PE.imp (pe_bmX ho (pa_one ha (starE hx _)) (attrE hn) (few1 hx _ _) hl (starE hx _) rfl) fun σ H Q ⟨F, G, env, d, env', S, e, q⟩ => by
    simp only [mef, Option.bind_eq_bind, Option.bind_eq_some_iff, Prod.exists, Option.some.injEq, Prod.mk.injEq] at e
    obtain ⟨a, env1, e1, x0, e2, sq, e3, b, env2, e4, x1, e5, dd, e6, rfl, rfl⟩ := e
    obtain ⟨ei, rfl⟩ := meD_int e6
    refine ⟨F, G, env, a, env1, S, e1, fun v H1 G1 S1 st1 r1 => ?_⟩
    obtain ⟨⟨id1, b1⟩, ⟨id2, b2⟩⟩ := bm_me hr m
    have two := resolve_two e2 e5
    rcases (S1.slot e2 r1).ty e3 with ⟨⟨l, hl⟩, ty⟩ | ⟨⟨l, hl⟩, ty⟩
    · refine ⟨_, _, _, b1, ty, F, G1, env1, b, env2, S1, e4, fun w H2 G2 S2 st2 r2 => ?_⟩
      have l1 : ∃ l, x1 = .list l := two.elim (fun z => ⟨l, by rw [← z]; exact hl⟩) (·.2)
      obtain ⟨l1, rfl⟩ := l1
      obtain ⟨p, zs, rfl, hq, ra⟩ := (S2.slot e5 (r1.step st2)).list
      exact ⟨p, w, zs, l1, b, ei, rfl, rfl, hq, ra.dp, r2.dp, e6, q _ H2 G2 S2 (st1.trans st2) (.int _)⟩
    · refine ⟨_, _, _, b2, ty, F, G1, env1, b, env2, S1, e4, fun w H2 G2 S2 st2 r2 => ?_⟩
      have l1 : ∃ l, x1 = .tuple l := two.elim (fun z => ⟨l, by rw [← z]; exact hl⟩) fun z => by
        obtain ⟨l', z1⟩ := z.1
        rw [hl] at z1; cases z1
      obtain ⟨l1, rfl⟩ := l1
      obtain ⟨p, zs, rfl, hq, ra⟩ := (S2.slot e5 (r1.step st2)).tuple
      exact ⟨p, w, zs, l1, b, ei, rfl, rfl, hq.sq, ra.dp, r2.dp, e6, q _ H2 G2 S2 (st1.trans st2) (.int _)⟩
end
end VL

set_option Elab.async false
set_option linter.all false
set_option maxRecDepth 100000
set_option maxHeartbeats 2000000
/-! VL: the reverse slice, of lists and tuples. -/
namespace VL
open PySem L2
open PyProof PyProof.Rows
section
variable {prog : Program} {w : World} {A : Around} {E : Value → Shared → Prop} {s : Shared}
theorem adjust_rev (n : Nat) : Builtin.Slice.sliceAdjust none none (-1) (n : Int) = ((n : Int) - 1, -1) := by
  unfold Builtin.Slice.sliceAdjust
  simp
theorem places_rev (n : Nat) : Builtin.Slice.slicePlaces ((n : Int) - 1) (-1) (-1) = n := by
  unfold Builtin.Slice.slicePlaces
  rw [if_neg (by decide)]
  split
  · simp
  · omega
theorem sliceApplied_rev {sl : Addr} {vl vu vs : Value} {n : Nat} {Q : Int × Int × Nat → Shared → Prop} (hs : s.heap.IsSliceOf sl vl vu vs) (pl : IsPart vl none) (pu : IsPart vu none) (ps : IsPart vs (some (-1)))
    (h : Q ((n : Int) - 1, -1, n) s) : wpAny (model prog w) A (Builtin.Slice.sliceApplied (.ref sl) (pure (n : Int))) Q E s := by
  obtain ⟨os, hos, hcs, hds⟩ := id hs
  unfold Builtin.Slice.sliceApplied Builtin.Slice.sliceFields
  refine wpAny_bind (wpAny_bind (wpAny_field hos hds (x := vl) rfl (wpAny_bind (wpAny_field hos hds (x := vu) rfl (wpAny_bind (wpAny_field hos hds (x := vs) rfl (wpAny_pure ?_)))))))
  refine wpAny_bind (HT.slicePart_ ps ?_)
  show wpAny _ _ (if ((-1 : Int) == 0) = true then _ else _) _ _ s
  rw [if_neg (by decide)]
  refine wpAny_bind (HT.slicePart_ pl (wpAny_bind (HT.slicePart_ pu (wpAny_bind (wpAny_pure ?_)))))
  show wpAny _ _ (match Builtin.Slice.sliceAdjust none none (-1) (n : Int) with | (lo, hi) => pure (lo, (-1 : Int), Builtin.Slice.slicePlaces lo hi (-1))) _ _ s
  rw [adjust_rev n]
  show wpAny _ _ (pure ((n : Int) - 1, (-1 : Int), Builtin.Slice.slicePlaces ((n : Int) - 1) (-1) (-1))) _ _ s
  rw [places_rev]
  exact wpAny_pure h
theorem pick_rev (xs : Array Value) : ((List.range xs.size).filterMap fun (m : Nat) => xs[((xs.size : Int) - 1 + (m : Int) * (-1)).toNat]?).toArray = xs.toList.reverse.toArray := by
  congr 1
  have e : ∀ l : List Nat, (∀ m ∈ l, m < xs.size) → l.filterMap (fun (m : Nat) => xs[((xs.size : Int) - 1 + (m : Int) * (-1)).toNat]?) = (l.map fun k => xs.size - 1 - k).filterMap (xs[·]?) := by
    intro l
    induction l with
    | nil => intro _; rfl
    | cons a l ih =>
      intro h
      have ha := h a (by simp)
      have : ((xs.size : Int) - 1 + (a : Int) * (-1)).toNat = xs.size - 1 - a := by omega
      rw [List.map_cons, List.filterMap_cons, List.filterMap_cons, this, ih fun m hm => h m (List.mem_cons_of_mem _ hm)]
  rw [e _ fun m hm => List.mem_range.mp hm, PySem.W.krv_range, List.filterMap_reverse, PySem.W.krv_all]
theorem getItem_tuple_rev {t sl : Addr} {items : Array Value} {vl vu vs : Value} {Q : Value → Shared → Prop} (ht : IsTup s.heap t items) (hs : s.heap.IsSliceOf sl vl vu vs) (pl : IsPart vl none) (pu : IsPart vu none) (ps : IsPart vs (some (-1)))
    (h : Q (.ref s.heap.objs.size) { s with heap := s.heap.push { cls := .type "tuple", data := .seq items.toList.reverse.toArray } })
    (hsz : items.size ≤ sizeLine) : wpAny (model prog w) A (getItem (.ref t) (.ref sl)) Q E s := by
  have htake : sizeOk (.seq items.toList.reverse.toArray) := by
    show items.toList.reverse.toArray.size ≤ sizeLine
    rw [List.size_toArray, List.length_reverse, Array.length_toList]
    exact hsz
  obtain ⟨os, hos, hcs, hds⟩ := id hs
  have hTs : s.TypeIs (.ref sl) "slice" := ⟨os, hos, hcs⟩
  unfold getItem
  try with_reducible refine wpAny_holding ?_
  first | refine wpAny_bind (wpAny_pure ?_) | skip
  refine wpAny_bind (wpAny_sequenceKey ht.typeIs (by decide) ?_)
  refine wpAny_bind (wpAny_callSpecial?_slot (name := Str.ofString "__getitem__") ht.typeIs PyProof.Rows.slot_tuple_getitem
    (wpAny_call_entry PyProof.Rows.slot_tuple_getitem ht.typeIs entry_tuple_getitem ?_ (args_tuple_getitem _ _)))
  show wpAny _ _ (Builtin.Tuple.tupleItemsOf (.ref t) >>= _) _ _ s
  refine wpAny_bind (tupleItemsOf_ ht ?_)
  refine wpAny_bind (wpAny_typeOf hTs ?_)
  rw [if_pos (by decide)]
  refine wpAny_bind (sliceApplied_rev hs pl pu ps ?_)
  have hno : ¬ ((((items.size : Int) - 1) == 0 && (-1 : Int) == 1 && items.size == items.size) = true) := by
    intro q
    rw [Bool.and_eq_true, Bool.and_eq_true] at q
    exact absurd q.1.2 (by decide)
  show wpAny _ _ (if (((items.size : Int) - 1) == 0 && (-1 : Int) == 1 && items.size == items.size) = true then _ else _) _ _ s
  rw [if_neg hno, pick_rev]
  first
    | exact wpAny_bind (m := Builtin.Tuple.tupleExact _) (wpAny_newObj_type (wpAny_pure ⟨_, rfl, wpAny_pure h⟩) htake)
    | exact wpAny_bind (m := Builtin.Tuple.tupleExact _) (wpAny_newObj_type (wpAny_bind (wpAny_pure (wpAny_pure ⟨_, rfl, wpAny_pure h⟩))) htake)
    | exact wpAny_bind (wpAny_bind (m := Builtin.Tuple.tupleExact _) (wpAny_newObj_type (wpAny_pure (wpAny_pure ⟨_, rfl, wpAny_pure h⟩)) htake))
    | exact wpAny_bind (wpAny_bind (m := Builtin.Tuple.tupleExact _) (wpAny_newObj_type (wpAny_pure ⟨_, rfl, wpAny_pure h⟩) htake))
end
section
variable {X : Cx} {cl : ClsT} {k : Nat} {c : Sc} {f g h : Env → Option (PyData × Env)}
def tRevX (K : PySem.W.Frag) (te : TE) : TE := fun σ H Q => te σ H fun x H1 => (∃ a xs, x = .ref a ∧ SqL K H1 a xs ∧ ∀ p, H1 p = none → Q (.ref p) (upd H1 p (.lst xs.reverse))) ∨ (∃ a xs, x = .ref a ∧ SqT K H1 a xs ∧ QT Q H1 xs.reverse)
theorem pe_revX {e : Expr} {te : TE} {k : Nat} {p1 p2 p3 pos : Pos} (he : PE X e te) : PE X (.Subscript e (.Slice none none (some (.UnaryOp .USub (.Constant (.int 1) k p1) p2)) p3) pos) (tRevX X.K te) := by
  refine ⟨fun pins s σ H Q I h => ?_⟩
  refine Subscript_ (thn (he.run pins s σ H _ I h) fun v s1 ⟨x, H1, I1, r1, q1⟩ => ?_)
  have hst : PO X (some (.UnaryOp .USub (.Constant (.int 1) k p1) p2)) (tPart (tUn (rU fun i => .int (-i)) (tC (.int 1)))) := po_some (pe_un un_neg pe_int)
  refine wpAny_Slice (thn (po_none.run pins s1 σ H1 (fun o H2 => o = none ∧ H2 = H1) I1 ⟨rfl, rfl⟩) fun vl s2 ⟨l, H2, I2, pl, el, e2⟩ => ?_)
  subst el e2
  refine thn (po_none.run pins s2 σ H2 (fun o H3 => o = none ∧ H3 = H2) I2 ⟨rfl, rfl⟩) fun vu s3 ⟨u, H3, I3, pu, eu, e3⟩ => ?_
  subst eu e3
  refine thn (hst.run pins s3 σ H3 (fun o H4 => o = some (-1) ∧ H4 = H3) I3 ⟨1, rfl, -1, rfl, rfl, rfl⟩) fun vs s4 ⟨o, H4, I4, ps, eo, e4⟩ => ?_
  subst eo e4
  have I5 : Inv X pins σ H4 { s4 with heap := s4.heap.push { cls := .type "slice", data := .fields #[vl, vu, vs] } } := I4.kept (t' := s4.toks) fun b ob q => Heap.get?_push_of_some _ q
  rcases q1 with ⟨a, xs, rfl, hx, q⟩ | ⟨a, xs, rfl, hx, q⟩
  · cases r1
    obtain ⟨its, r, ht, hz⟩ := I5.list hx
    have hlen := r.length
    show wpAny (model X.prog X.w) X.A (subscriptTail e (.Slice none none (some (.UnaryOp .USub (.Constant (.int 1) k p1) p2)) p3) (.ref a) (.ref s4.heap.objs.size)) (EP X pins σ Q) X.xe { s4 with heap := s4.heap.push { cls := .type "slice", data := .fields #[vl, vu, vs] } }
    refine tail_any (ops := [.ref a, .ref s4.heap.objs.size]) ht.isList.typeIs (PySem.slot_list_getitem.lookup) ?_ (by with_unfolding_all rfl)
    refine wpAny_getItem_list_slice ht.isList (Heap.IsSliceOf.new _ vl vu vs) pl pu ps (by decide) ?_ (by rw [List.size_toArray]; omega)
    rw [PySem.W.krv_pick]
    refine ⟨.ref _, _, I5.laid (t' := s4.toks) (o := .lst xs.reverse) (fun b ob q => Heap.get?_push_of_some _ q) (Nat.le_refl _) ?_, rfl, q _ (I5.hok.fresh (Nat.le_refl _))⟩
    exact ⟨by rw [List.length_reverse]; exact hz, _, 0, r.reverse, Heap.get?_push_size _ rfl⟩
  · cases r1
    obtain ⟨its, r, ht, hz⟩ := I5.tuple hx
    have hlen := r.length
    show wpAny (model X.prog X.w) X.A (subscriptTail e (.Slice none none (some (.UnaryOp .USub (.Constant (.int 1) k p1) p2)) p3) (.ref a) (.ref s4.heap.objs.size)) (EP X pins σ Q) X.xe { s4 with heap := s4.heap.push { cls := .type "slice", data := .fields #[vl, vu, vs] } }
    refine tail_any (ops := [.ref a, .ref s4.heap.objs.size]) ht.typeIs PyProof.Rows.slot_tuple_getitem.lookup ?_ (by with_unfolding_all rfl)
    refine getItem_tuple_rev ht (Heap.IsSliceOf.new _ vl vu vs) pl pu ps ?_ (by rw [List.size_toArray]; omega)
    exact tnew (t' := s4.toks) I5 (its := its.toArray.toList.reverse) r.reverse (by rw [List.length_reverse]; exact hz) q
def revf (f : Env → Option (Opv × Env)) (env : Env) : Option (PyData × Env) := do
  let (x, env) ← f env
  let x ← resolve env x
  let d ← revD x
  some (d, env)
theorem c_rev {x : Expr} {k : Nat} {p1 p2 p3 pos : Pos} {f : Env → Option (Opv × Env)} (hx : PE X x (rdO X.K cl f)) : PE X (.Subscript x (.Slice none none (some (.UnaryOp .USub (.Constant (.int 1) k p1) p2)) p3) pos) (rdX true X.K cl (revf f)) :=
  PE.imp (pe_revX hx) fun σ H Q ⟨F, G, env, d, env', S, e, q⟩ => by
    simp only [revf, Option.bind_eq_bind, Option.bind_eq_some_iff, Option.some.injEq, Prod.mk.injEq, Prod.exists] at e
    obtain ⟨a, env1, e1, x1, e2, dd, e3, rfl, rfl⟩ := e
    refine ⟨F, G, env, a, env1, S, e1, fun v H1 G1 S1 st1 r1 => ?_⟩
    have w := S1.slot e2 r1
    cases x1 <;> simp [revD] at e3
    · subst e3
      obtain ⟨p, xs, rfl, hq, ra⟩ := w.list
      exact .inl ⟨p, xs, rfl, hq, Gv.newL (S1.give fun v H' G' S' s r fr => q v H' G' S' (st1.trans s) r fun z => (fr (by simpa using z)).back st1) S1.zd ra.reverse⟩
    · subst e3
      obtain ⟨p, xs, rfl, hq, ra⟩ := w.tuple
      exact .inr ⟨p, xs, rfl, hq.sq, Gv.newT (S1.give fun v H' G' S' s r fr => q v H' G' S' (st1.trans s) r fun z => (fr (by simpa using z)).back st1) S1.zd ra.reverse⟩
end
end VL

set_option Elab.async false
set_option linter.all false
set_option maxRecDepth 100000
set_option maxHeartbeats 2000000
/-! VL: changes of what a name owns. -/
namespace VL
open PySem L2
open PyProof PyProof.Rows
section
variable {K : PySem.W.Frag} {cl : ClsT} {F : FP} {env env' : Env} {G G' : Nat → List Addr} {σ σ' : L2.St} {H H' : Hp}
def putG (G : Nat → List Addr) (i : Nat) (l : List Addr) : Nat → List Addr := fun j => if j = i then l else G j
theorem putG_same {i : Nat} {l : List Addr} : putG G i l i = l := if_pos rfl
theorem putG_ne {i j : Nat} {l : List Addr} (h : j ≠ i) : putG G i l j = G j := if_neg h
theorem putG_id {i : Nat} {l : List Addr} (h : G i = l) : putG G i l = G := by
  funext j
  by_cases e : j = i
  · subst e; rw [putG_same, h]
  · exact putG_ne e
theorem getS_set {i : Nat} {s : Slot} (h : i < env.length) : getS (setS env i s) i = s := by
  unfold getS setS
  rw [List.getElem?_set_self h]; rfl
theorem getS_ne {i j : Nat} {s : Slot} (h : j ≠ i) : getS (setS env i s) j = getS env j := by
  unfold getS setS
  rw [List.getElem?_set_ne (Ne.symm h)]
theorem setS_len {i : Nat} {s : Slot} : (setS env i s).length = env.length := by unfold setS; rw [List.length_set]
/-- the slot owns, or is the caller's -/
inductive Holds (s : Slot) : Prop
  | own (o : OV) : s = .own o → Holds s
  | io (o : OV) : s = .io o → Holds s
theorem Holds.lt {i : Nat} (h : Holds (getS env i)) : i < env.length := getS_lt (by cases h with | own o e => rw [e]; exact fun z => nomatch z | io o e => rw [e]; exact fun z => nomatch z)
theorem putO_ne {i j : Nat} {o : OV} (h : j ≠ i) : getS (putO env i o) j = getS env j := by
  unfold putO
  split
  · exact getS_ne h
  · exact getS_ne h
  · rfl
theorem putO_len {i : Nat} {o : OV} : (putO env i o).length = env.length := by
  unfold putO
  split <;> first | exact setS_len | rfl
theorem putO_own {i : Nat} {o o' : OV} (h : getS env i = .own o) : getS (putO env i o') i = .own o' := by
  unfold putO
  rw [h]
  exact getS_set (getS_lt (by rw [h]; exact fun z => nomatch z))
theorem putO_io {i : Nat} {o o' : OV} (h : getS env i = .io o) : getS (putO env i o') i = .io o' := by
  unfold putO
  rw [h]
  exact getS_set (getS_lt (by rw [h]; exact fun z => nomatch z))
/-- the heap behind a change of what i holds -/
structure Chg (H : Hp) (g : List Addr) (H' : Hp) (l' : List Addr) : Prop where
  same : ∀ a, a ∉ g → H a ≠ none → H' a = H a
  dm : ∀ a, H a ≠ none → H' a ≠ none
  mu : ∀ a ∈ g, Mut (H' a)
  nd : l'.Nodup
  sub : ∀ a ∈ l', a ∈ g ∨ H a = none
theorem SR.holds (S : SR K cl F env G σ H) {i : Nat} (h : Holds (getS env i)) : ∃ v o, σ[i]? = some (some v) ∧ (getS env i = .own o ∨ getS env i = .io o) ∧ Own K cl H (ZZ F.Zc G) v o (G i) ∧ ∀ a ∈ G i, F.Fre a := by
  cases h with
  | own o e => obtain ⟨v, a, b, c⟩ := S.own i o e; exact ⟨v, o, a, .inl e, b, fun a h => (c a h).1.fre⟩
  | io o e => obtain ⟨v, a, b, c, d⟩ := S.io i o e; exact ⟨v, o, a, .inr e, c, fun a h => (d a h).fre⟩
theorem SR.chgStep (S : SR K cl F env G σ H) {i : Nat} {l' : List Addr} (h : Chg H (G i) H' l') : Step H (ZZ F.Zc G) H' (ZZ F.Zc (putG G i l')) := by
  refine ⟨fun b o e n => ?_, h.dm⟩
  have nb : b ∉ G i := fun z => n (.inr ⟨i, z⟩)
  refine ⟨by rw [h.same b nb (by rw [e]; exact fun z => nomatch z)]; exact e, fun z => z.elim (fun z => n (.inl z)) fun ⟨j, hj⟩ => ?_⟩
  by_cases q : j = i
  · subst q
    rw [putG_same] at hj
    rcases h.sub b hj with z | z
    · exact nb z
    · rw [e] at z; cases z
  · rw [putG_ne q] at hj
    exact n (.inr ⟨j, hj⟩)
theorem SR.chg (S : SR K cl F env G σ H) {i : Nat} {o' : OV} {l' : List Addr} {v : V} (hh : Holds (getS env i)) (hv : σ[i]? = some (some v)) (h : Chg H (G i) H' l')
    (ow : Own K cl H' (ZZ F.Zc (putG G i l')) v o' l') : SR K cl F (putO env i o') (putG G i l') σ H' := by
  have st := S.chgStep h
  have lt := hh.lt
  have hm : ∀ {a j}, a ∈ G j → H a ≠ none := fun {a j} q => mut_ne (S.mut (.inr ⟨j, q⟩))
  have keep : ∀ {a j}, j ≠ i → a ∈ G j → H' a = H a := fun {a j} n q => h.same a (fun z => n (S.disj j i a q z)) (hm q)
  have ne : ∀ {j}, σ.length ≤ j → j ≠ i := fun {j} h => by have := S.len; omega
  refine ⟨by rw [putO_len]; exact S.len, fun j d e => ?_, fun j o e => ?_, fun j o e => ?_, fun j ns e => ?_, fun j n1 n2 n3 => ?_, fun j hj a z => ?_, fun j1 j2 a h1 h2 => ?_, fun j => ?_, fun a z => ?_, S.zc, fun b o e m => ?_, fun b m => h.dm b (S.dom0 b m), S.mil⟩
  · by_cases q : j = i
    · subst q
      cases hh with
      | own o z => rw [putO_own z] at e; cases e
      | io o z => rw [putO_io z] at e; cases e
    · rw [putO_ne q] at e
      obtain ⟨w, hw, r⟩ := S.shr j d e
      exact ⟨w, hw, r.step st⟩
  · by_cases q : j = i
    · subst q
      cases hh with
      | own o z =>
        rw [putO_own z] at e; cases e
        rw [putG_same]
        obtain ⟨_, _, _, r⟩ := S.own j _ z
        exact ⟨v, hv, ow, fun a ha => (h.sub a ha).elim (r a) fun z => ⟨.inl (S.fr0 z), fun q => mut_ne (S.dom a q) z⟩⟩
      | io o z => rw [putO_io z] at e; cases e
    · rw [putO_ne q] at e
      obtain ⟨w, hw, r, p⟩ := S.own j o e
      rw [putG_ne q]
      exact ⟨w, hw, r.move st fun a ha => keep q ha, p⟩
  · by_cases q : j = i
    · subst q
      cases hh with
      | own o z => rw [putO_own z] at e; cases e
      | io o z =>
        rw [putO_io z] at e; cases e
        rw [putG_same]
        obtain ⟨w, hw, h2, _, r⟩ := S.io j _ z
        rw [hv] at hw; cases hw
        exact ⟨v, hv, h2, ow, fun a ha => (h.sub a ha).elim (r a) fun z => .inl (S.fr0 z)⟩
    · rw [putO_ne q] at e
      obtain ⟨w, hw, h2, r, p⟩ := S.io j o e
      rw [putG_ne q]
      exact ⟨w, hw, h2, r.move st fun a ha => keep q ha, p⟩
  · have e' : getS env j = .scr ns := by
      by_cases q : j = i
      · subst q
        cases hh with
        | own o z => rw [putO_own z] at e; cases e
        | io o z => rw [putO_io z] at e; cases e
      · rw [putO_ne q] at e; exact e
    obtain ⟨a, h1, r⟩ := S.scr j ns e'
    exact ⟨a, h1, r.step (fun p z => S.mut z) st⟩
  · have q : j ≠ i := fun q => by
      subst q
      cases hh with
      | own o z => exact n1 _ (putO_own z)
      | io o z => exact n2 _ (putO_io z)
    rw [putO_ne q] at n1 n2
    rw [putG_ne q]; exact S.off j n1 n2 n3
  · rw [putG_ne (ne hj)] at z
    rw [keep (ne hj) z]
    exact S.pd j hj a z
  · by_cases m1 : j1 = i
    · by_cases m2 : j2 = i
      · rw [m1, m2]
      · subst m1; rw [putG_same] at h1; rw [putG_ne m2] at h2
        rcases h.sub a h1 with z | z
        · exact S.disj _ _ a z h2
        · exact absurd z (hm h2)
    · rw [putG_ne m1] at h1
      by_cases m2 : j2 = i
      · subst m2; rw [putG_same] at h2
        rcases h.sub a h2 with z | z
        · exact S.disj _ _ a h1 z
        · exact absurd z (hm h1)
      · rw [putG_ne m2] at h2
        exact S.disj _ _ a h1 h2
  · by_cases m : j = i
    · subst m; rw [putG_same]; exact h.nd
    · rw [putG_ne m]; exact S.nd j
  · by_cases m : a ∈ G i
    · exact h.mu a m
    · rw [h.same a m (mut_ne (S.dom a z))]; exact S.dom a z
  · have k := S.kept b o e m
    have nb : b ∉ G i := fun z => by
      obtain ⟨_, _, _, _, _, r⟩ := S.holds hh
      rcases r b z with q | q
      · rw [e] at q; cases q
      · exact m q
    rw [h.same b nb (by rw [k]; exact fun z => nomatch z)]; exact k
/-- a list that a name holds is written -/
theorem SR.putL (S : SR K cl F env G σ H) {i : Nat} {l : List PyData} (hl : lstOf (getS env i) = some l) :
    ∃ p xs, σ[i]? = some (some (.ref p)) ∧ H p = some (.lst xs) ∧ RepAll K H (ZZ F.Zc G) xs l ∧ ZZ F.Zc G p ∧
      ∀ ys ds, RepAll K H (ZZ F.Zc G) ys ds → SR K cl F (putO env i (.lst ds)) G σ (upd H p (.lst ys)) ∧ Step H (ZZ F.Zc G) (upd H p (.lst ys)) (ZZ F.Zc G) := by
  have hh : Holds (getS env i) ∧ ∃ v, σ[i]? = some (some v) ∧ Own K cl H (ZZ F.Zc G) v (.lst l) (G i) := by
    cases e : getS env i with
    | own o =>
      rw [e] at hl
      cases o <;> simp [lstOf] at hl
      subst hl
      obtain ⟨v, a, b, _⟩ := S.own i _ e
      exact ⟨.own _ rfl, v, a, b⟩
    | io o =>
      rw [e] at hl
      cases o <;> simp [lstOf] at hl
      subst hl
      obtain ⟨v, a, _, b, _⟩ := S.io i _ e
      exact ⟨.io _ rfl, v, a, b⟩
    | _ => rw [e] at hl; simp [lstOf] at hl
  obtain ⟨hh, v, hv, ow⟩ := hh
  obtain ⟨p, xs, rfl, hp, ra, hg⟩ := ow.lstInv
  have zp : ZZ F.Zc G p := .inr ⟨i, by rw [hg]; simp⟩
  refine ⟨p, xs, hv, hp, ra, zp, fun ys ds r => ?_⟩
  have st : Step H (ZZ F.Zc G) (upd H p (.lst ys)) (ZZ F.Zc G) := Step.put zp
  have ch : Chg H (G i) (upd H p (.lst ys)) [p] := by
    rw [hg]
    refine ⟨fun a n _ => upd_ne (by simpa using n), st.dom, fun a ha => ?_, by simp, fun a ha => .inl ha⟩
    rw [List.mem_singleton.mp ha, upd_same]; trivial
  have := S.chg (o' := .lst ds) hh hv ch (by rw [putG_id hg]; exact .lst upd_same (r.step st))
  rw [putG_id hg] at this
  exact ⟨this, st⟩
/-- a name takes a new list -/
theorem SR.take (S : SR K cl F env G σ H) {v : V} {o : OV} {l : List Addr} {i n : Nat} (hn : σ.length ≤ n) (hg : G n = l) (ow : Own K cl H (ZZ F.Zc G) v o l) (hi : i < env.length) (hio : ∀ o, getS env i ≠ .io o) (hsc : ∀ o, getS env i ≠ .scr o) :
    SR K cl F (setS env i (.own o)) (putG (putG G n []) i l) (σ.set i (some v)) H ∧ Step H (ZZ F.Zc G) H (ZZ F.Zc (putG (putG G n []) i l)) := by
  have ne : i ≠ n := by have := S.len; omega
  generalize hG' : putG (putG G n []) i l = G'
  have g1 : G' n = [] := by rw [← hG', putG_ne (Ne.symm ne), putG_same]
  have g2 : G' i = l := by rw [← hG', putG_same]
  have g3 : ∀ j, j ≠ n → j ≠ i → G' j = G j := fun j a b => by rw [← hG', putG_ne b, putG_ne a]
  have sub : ∀ {a j}, a ∈ G' j → (j = i ∧ a ∈ G n) ∨ (j ≠ n ∧ j ≠ i ∧ a ∈ G j) := fun {a j} h => by
    by_cases m : j = n
    · subst m; rw [g1] at h; cases h
    · by_cases m2 : j = i
      · subst m2; rw [g2, ← hg] at h; exact .inl ⟨rfl, h⟩
      · rw [g3 j m m2] at h; exact .inr ⟨m, m2, h⟩
  have st : Step H (ZZ F.Zc G) H (ZZ F.Zc G') := .same (fun _ _ e => e) fun a z => z.elim .inl fun ⟨j, hj⟩ => (sub hj).elim (fun z => .inr ⟨_, z.2⟩) fun z => .inr ⟨_, z.2.2⟩
  have sn : ∀ j, j ≠ i → (σ.set i (some v))[j]? = σ[j]? := fun j n => List.getElem?_set_ne (Ne.symm n)
  have si : (σ.set i (some v))[i]? = some (some v) := List.getElem?_set_self (by have := S.len; omega)
  have lt : ∀ {j}, getS env j ≠ .un → j ≠ n := fun {j} h z => by have := getS_lt h; rw [S.len] at this; omega
  refine ⟨⟨by rw [setS_len, List.length_set]; exact S.len, fun j d e => ?_, fun j o e => ?_, fun j o e => ?_, fun j ns e => ?_, fun j n1 n2 n3 => ?_, fun j hj a z => ?_, fun j1 j2 a h1 h2 => ?_, fun j => ?_, S.dom, S.zc, S.kept, S.dom0, fun i a h => by rw [List.length_set]; exact S.mil i a h⟩, st⟩
  · by_cases q : j = i
    · subst q; rw [getS_set hi] at e; cases e
    · rw [getS_ne q] at e
      obtain ⟨w, hw, r⟩ := S.shr j d e
      exact ⟨w, by rw [sn j q]; exact hw, r.step st⟩
  · by_cases q : j = i
    · subst q; rw [getS_set hi] at e; cases e
      rw [g2]
      exact ⟨_, si, ow.move st fun _ _ => rfl, fun a ha => let z := (S.pd n hn a (by rw [hg]; exact ha)).2; ⟨.inl z.1, z.2⟩⟩
    · rw [getS_ne q] at e
      obtain ⟨w, hw, r, p⟩ := S.own j o e
      rw [g3 j (lt (by rw [e]; exact fun z => nomatch z)) q]
      exact ⟨w, by rw [sn j q]; exact hw, r.move st fun _ _ => rfl, p⟩
  · by_cases q : j = i
    · subst q; rw [getS_set hi] at e; cases e
    · rw [getS_ne q] at e
      obtain ⟨w, hw, h2, r, p⟩ := S.io j o e
      rw [g3 j (lt (by rw [e]; exact fun z => nomatch z)) q]
      exact ⟨w, by rw [sn j q]; exact hw, h2, r.move st fun _ _ => rfl, p⟩
  · by_cases q : j = i
    · subst q; rw [getS_set hi] at e; cases e
    · rw [getS_ne q] at e
      obtain ⟨a, h1, r⟩ := S.scr j ns e
      exact ⟨a, by rw [sn j q]; exact h1, r⟩
  · by_cases q : j = i
    · subst q; exact absurd (getS_set hi) (n1 _)
    · rw [List.length_set] at n3
      rw [getS_ne q] at n1 n2
      rw [g3 j (by omega) q]; exact S.off j n1 n2 n3
  · rw [List.length_set] at hj
    rcases sub z with ⟨e1, _⟩ | ⟨_, _, z⟩
    · have := S.len; omega
    · exact S.pd j hj a z
  · rcases sub h1 with ⟨e1, z1⟩ | ⟨m1, e1, z1⟩ <;> rcases sub h2 with ⟨e2, z2⟩ | ⟨m2, e2, z2⟩
    · rw [e1, e2]
    · exact absurd (S.disj _ _ a z1 z2).symm m2
    · exact absurd (S.disj _ _ a z1 z2) m1
    · exact S.disj _ _ a z1 z2
  · by_cases m : j = n
    · subst m; rw [g1]; exact .nil
    · by_cases m2 : j = i
      · subst m2; rw [g2, ← hg]; exact S.nd _
      · rw [g3 j m m2]; exact S.nd j
/-- a name takes a value -/
theorem SR.asg (S : SR K cl F env G σ H) {v : V} {d : PyData} {i : Nat} (r : Rep K H (ZZ F.Zc G) v d) (hi : i < env.length) (hio : ∀ o, getS env i ≠ .io o) (hsc : ∀ o, getS env i ≠ .scr o) :
    SR K cl F (setS env i (.shr d)) (putG G i []) (σ.set i (some v)) H ∧ Step H (ZZ F.Zc G) H (ZZ F.Zc (putG G i [])) := by
  have sub : ∀ {a j}, a ∈ putG G i [] j → j ≠ i ∧ a ∈ G j := fun {a j} h => by
    by_cases m : j = i
    · subst m; rw [putG_same] at h; cases h
    · rw [putG_ne m] at h; exact ⟨m, h⟩
  have st : Step H (ZZ F.Zc G) H (ZZ F.Zc (putG G i [])) := .same (fun _ _ e => e) fun a z => z.elim .inl fun ⟨j, hj⟩ => .inr ⟨j, (sub hj).2⟩
  have sn : ∀ j, j ≠ i → (σ.set i (some v))[j]? = σ[j]? := fun j n => List.getElem?_set_ne (Ne.symm n)
  have si : (σ.set i (some v))[i]? = some (some v) := List.getElem?_set_self (by have := S.len; omega)
  refine ⟨⟨by rw [setS_len, List.length_set]; exact S.len, fun j d e => ?_, fun j o e => ?_, fun j o e => ?_, fun j ns e => ?_, fun j n1 n2 n3 => ?_, fun j hj a z => ?_, fun j1 j2 a h1 h2 => ?_, fun j => ?_, S.dom, S.zc, S.kept, S.dom0, fun i a h => by rw [List.length_set]; exact S.mil i a h⟩, st⟩
  · by_cases q : j = i
    · subst q; rw [getS_set hi] at e; cases e
      exact ⟨v, si, r.step st⟩
    · rw [getS_ne q] at e
      obtain ⟨w, hw, r⟩ := S.shr j d e
      exact ⟨w, by rw [sn j q]; exact hw, r.step st⟩
  · by_cases q : j = i
    · subst q; rw [getS_set hi] at e; cases e
    · rw [getS_ne q] at e
      obtain ⟨w, hw, r, p⟩ := S.own j o e
      rw [putG_ne q]
      exact ⟨w, by rw [sn j q]; exact hw, r.move st fun _ _ => rfl, p⟩
  · by_cases q : j = i
    · subst q; rw [getS_set hi] at e; cases e
    · rw [getS_ne q] at e
      obtain ⟨w, hw, h2, r, p⟩ := S.io j o e
      rw [putG_ne q]
      exact ⟨w, by rw [sn j q]; exact hw, h2, r.move st fun _ _ => rfl, p⟩
  · by_cases q : j = i
    · subst q; rw [getS_set hi] at e; cases e
    · rw [getS_ne q] at e
      obtain ⟨a, h1, r⟩ := S.scr j ns e
      exact ⟨a, by rw [sn j q]; exact h1, r⟩
  · by_cases q : j = i
    · subst q; exact putG_same
    · rw [List.length_set] at n3
      rw [getS_ne q] at n1 n2
      rw [putG_ne q]; exact S.off j n1 n2 n3
  · rw [List.length_set] at hj
    exact S.pd j hj a (sub z).2
  · exact S.disj _ _ a (sub h1).2 (sub h2).2
  · by_cases m : j = i
    · subst m; rw [putG_same]; exact .nil
    · rw [putG_ne m]; exact S.nd j
end
end VL

set_option Elab.async false
set_option linter.all false
set_option maxRecDepth 100000
set_option maxHeartbeats 2000000
/-! VL: fields, pops, constants of the module, isinstance. -/
namespace VL
open PySem L2
open PyProof PyProof.Rows
section
variable {X : Cx} {cl : ClsT} {k : Nat} {c : Sc} {f g h : Env → Option (PyData × Env)}
/-! ### xs.pop(i) -/
def popf (i : Nat) (g : Env → Option (PyData × Env)) (env : Env) : Option (PyData × Env) := do
  let _ ← lstOf (getS env i)
  let (y, env) ← g env
  let xs ← lstOf (getS env i)
  match y with
  | .int k => if 0 ≤ k ∧ k < xs.length ∧ xs.length ≤ lineN then (xs[k.toNat]?).map fun d => (d, putO env i (.lst (xs.eraseIdx k.toNat))) else none
  | _ => none
theorem c_pop {T : Tb} {i : Nat} {x : Str} {e : E} {p ap cp : Pos} {y : Expr} (hN : X.N[i]? = some x) (hv : Vis X.env.scope x) (hd : (x == ("__debug__" : Str)) = false) (hcd : (x == ("__classdict__" : Str)) = false) (hy : mE T e c y = true)
    (hl : (ap.endLine == cp.line) = true) (ha : PE X y (rdE X.K cl g)) : PE X (.Call (.Attribute (.Name x p) "pop" ap) [y] [] cp) (rdE X.K cl (popf i g)) :=
  PE.imp (pe_bmX (pe_var hN hv hd hcd) (pa_one ha (starE hy _)) rfl (few1 hy _ _) hl (starE hy _) rfl) fun σ H Q ⟨F, G, env, d, env', S, e, q⟩ => by
    simp only [popf, Option.bind_eq_bind, Option.bind_eq_some_iff, Prod.exists] at e
    obtain ⟨l0, e0, b, env1, e1, l1, e2, e3⟩ := e
    obtain ⟨p0, xs0, hs0, hp0, _⟩ := S.putL e0
    refine ⟨_, hs0, "list", _, _, ⟨PySem.F.plainAttrs_list, PySem.F.slot_list_pop, PySem.F.type_list_pop, mt_popAt⟩, .inl ⟨rfl, p0, xs0, rfl, .inl (.inl hp0)⟩, F, G, env, b, env1, S, e1, fun w H1 G1 S1 st1 r1 => ?_⟩
    split at e3
    · rename_i kk
      split at e3
      · rename_i hk
        simp only [Option.map_eq_some_iff, Prod.mk.injEq] at e3
        obtain ⟨dd, e4, rfl, rfl⟩ := e3
        cases r1
        obtain ⟨p1, xs1, hs1, hp1, ra, zp, put⟩ := S1.putL e2
        rw [hs0] at hs1; cases hs1
        obtain ⟨w, hw, rw'⟩ := ra.get e4
        have hlen := ra.length
        have hn := line63
        obtain ⟨S2, st2⟩ := put _ _ (ra.eraseIdx kk.toNat)
        have hlt : (kk : Int) < xs1.length := by omega
        refine ⟨p0, xs1, kk, kk.toNat, w, rfl, rfl, hp1, by omega, ?_, seqIndex_of hk.1 hlt, hw, q _ _ G1 S2 (st1.trans st2) (rw'.step st2)⟩
        have := lineEq
        omega
      · cases e3
    · cases e3

/-! ### constants of the module -/
theorem c_glb {x : Str} {d : PyData} {pos : Pos} {u : Value} {v : V} (hg : Gl X x) (hm : X.mg x = some u) (r : RelV v u) (hr : ∀ H Z, Rep X.K H Z v d) (hd : (x == ("__debug__" : Str)) = false) (C : Calls) : PE X (.Name x pos) (rdE X.K cl (evE C (.glb x d))) :=
  PE.imp (pe_glob hg hm r hd) fun σ H Q ⟨F, G, env, d', env', S, e, q⟩ => by
    simp only [evE, Option.some.injEq, Prod.mk.injEq] at e
    obtain ⟨rfl, rfl⟩ := e
    exact q v H G S .refl (hr _ _)

/-! ### isinstance -/
def isinf (n : Str) (f : Env → Option (Opv × Env)) (env : Env) : Option (PyData × Env) := do
  let (x, env) ← f env
  let x ← resolve env x
  let b ← isinD n x
  some (.bool b, env)
/-- a value's type's name -/
def tyN : PyData → String
  | .none => "NoneType" | .bool _ => "bool" | .int _ => "int" | .str _ => "str" | .list _ => "list" | .tuple _ => "tuple" | .dict _ => "dict"
def isN (n : Str) : Prop := n = "int" ∨ n = "bool" ∨ n = "tuple" ∨ n = "list" ∨ n = "str"
theorem kitOne_ty {K : PySem.W.Frag} {n : String} {d : PyData} {b : Bool} (hn : n ∈ (["int", "bool", "tuple", "list", "str"] : List String)) (e : isinD (Str.ofString n) d = some b) : PySem.W.kitOne K (.type (tyN d)) (.type n) = some b := by
  simp only [List.mem_cons, List.not_mem_nil, or_false] at hn
  rcases hn with rfl | rfl | rfl | rfl | rfl <;> cases d <;> (first | (have e := Option.some.inj e; subst e; with_unfolding_all rfl) | cases e)
theorem WRep.tyX {K : PySem.W.Frag} {H : Hp} {Z : AddrS} {v : V} {d : PyData} (h : WRep K H Z v d) (hd : ∀ l, d ≠ .dict l) : L2.TyX K H v (.type (tyN d)) := by
  cases d with
  | none => have := h.none; subst this; exact .base .non
  | bool b => have := h.bool; subst this; exact .base (.bl _)
  | int b => have := h.int; subst this; exact .base (.int _)
  | str b => have := h.str; subst this; exact .base (.str _)
  | list l =>
    obtain ⟨p, xs, rfl, hq, _⟩ := h.list
    rcases hq with (h | ⟨o, h⟩) | ⟨o, its, n, hk, hc, _⟩
    · exact .base (.lst h)
    · exact .base (.frz h)
    · exact .kList hk hc
  | tuple l =>
    obtain ⟨p, xs, rfl, hq, _⟩ := h.tuple
    rcases hq with ⟨⟨o, _, h⟩, _⟩ | ⟨o, its, n, hk, hc, _⟩
    · exact .fTuple h
    · exact .kTuple hk hc
  | dict l => exact absurd rfl (hd l)
theorem c_isin {T : Tb} {n : String} {e : E} {y : Expr} {p pz pos : Pos} {f : Env → Option (Opv × Env)} (hx : XOk k X) (hn : n ∈ (["int", "bool", "tuple", "list", "str"] : List String)) (hg : Gl X "isinstance") (hz : Gl X (Str.ofString n)) (hy : mE T e c y = true) (ha : PE X y (rdO X.K cl f)) :
    PE X (.Call (.Name "isinstance" p) [y, .Name (Str.ofString n) pz] [] pos) (rdE X.K cl (isinf (Str.ofString n) f)) := by
  have hz' : PE X (.Name (Str.ofString n) pz) (tC (.ty n)) := by
    simp only [List.mem_cons, List.not_mem_nil, or_false] at hn
    rcases hn with rfl | rfl | rfl | rfl | rfl <;> exact pe_bltn hz (hx.bt _ (by decide)) (by decide +kernel) rfl
  refine PE.imp (pe_callB call_isi hg (hx.bt _ (by decide)) (by decide +kernel) (pa_cons ha (pa_one hz' rfl) (starE hy _)) (by decide) (by decide) (starE hy _) rfl) fun σ H Q ⟨F, G, env, d, env', S, e, q⟩ => ?_
  simp only [isinf, Option.bind_eq_bind, Option.bind_eq_some_iff, Prod.exists, Option.some.injEq, Prod.mk.injEq] at e
  obtain ⟨a, env1, e1, x1, e2, b, e3, rfl, rfl⟩ := e
  refine ⟨F, G, env, a, env1, S, e1, fun v H1 G1 S1 st1 r1 => ?_⟩
  refine ⟨v, .ty n, .type (tyN x1), .type n, b, rfl, .ty n, (S1.slot e2 r1).tyX fun l hl => ?_, kitOne_ty hn e3, q _ H1 G1 S1 st1 (.bl b)⟩
  subst hl; simp [isinD] at e3

/-! ### fields -/
structure COk (T : Tb) (X : Cx) (cl : ClsT) : Prop where
  cls : ∀ c C, cl c = some C → Cls X.K C ∧ ∀ f ∈ T.fl, NoAttr X.K C f
theorem RFlds.look {K : PySem.W.Frag} {H : Hp} {Z : AddrS} : ∀ {fs : List (Str × V)} {gs : List (Str × Fld)} {l : List Addr} {f : Str} {x : Fld}, RFlds K H Z fs gs l → gs.lookup f = some x → ∃ v m, fs.lookup f = some v ∧ RFld K H Z v x m ∧ ∀ a ∈ m, a ∈ l
  | _, _, _, _, _, .nil, h => by simp at h
  | _, _, _, f, x, @RFlds.cons _ _ _ f' v x' r s l m a b, h => by
    by_cases e : f = f'
    · subst e
      simp only [List.lookup, beq_self_eq_true, Option.some.injEq] at h ⊢
      subst h
      exact ⟨v, l, rfl, a, fun z hz => List.mem_append_left _ hz⟩
    · have hb : (f == f') = false := beq_eq_false_iff_ne.mpr e
      simp only [List.lookup, hb] at h ⊢
      obtain ⟨v', m', h1, h2, h3⟩ := RFlds.look b h
      exact ⟨v', m', h1, h2, fun z hz => List.mem_append_right _ (h3 z hz)⟩
theorem SR.objAt {K : PySem.W.Frag} {F : FP} {env : Env} {G : Nat → List Addr} {σ : L2.St} {H : Hp} (S : SR K cl F env G σ H) {i : Nat} {c : Str} {fs : List (Str × Fld)} (h : fldsOf (getS env i) = some (c, fs)) :
    Holds (getS env i) ∧ ∃ a C dx gs l, σ[i]? = some (some (.ref a)) ∧ cl c = some C ∧ H a = some (.ins C dx gs) ∧ gs.length ≤ 100 ∧ RFlds K H (Zf F G) gs fs l ∧ G i = a :: l := by
  cases e : getS env i with
  | own o =>
    rw [e] at h
    cases o <;> simp [fldsOf] at h
    obtain ⟨rfl, rfl⟩ := h
    obtain ⟨v, hv, ow, _⟩ := S.own i _ e
    obtain ⟨a, C, dx, gs, l, rfl, h1, h2, h3, h4, h5⟩ := ow.objInv
    exact ⟨.own _ rfl, a, C, dx, gs, l, hv, h1, h2, h3, h4, h5⟩
  | io o =>
    rw [e] at h
    cases o <;> simp [fldsOf] at h
    obtain ⟨rfl, rfl⟩ := h
    obtain ⟨v, hv, _, ow, _⟩ := S.io i _ e
    obtain ⟨a, C, dx, gs, l, rfl, h1, h2, h3, h4, h5⟩ := ow.objInv
    exact ⟨.io _ rfl, a, C, dx, gs, l, hv, h1, h2, h3, h4, h5⟩
  | _ => rw [e] at h; simp [fldsOf] at h
theorem c_fld {T : Tb} {i : Nat} {x f : Str} {p pos : Pos} (co : COk T X cl) (hf : f ∈ T.fl) (hN : X.N[i]? = some x) (hv : Vis X.env.scope x) (hd : (x == ("__debug__" : Str)) = false) (hcd : (x == ("__classdict__" : Str)) = false) (C : Calls) :
    PE X (.Attribute (.Name x p) f pos) (rdE X.K cl (evE C (.fld i f))) :=
  PE.imp (pe_fld (pe_var hN hv hd hcd) rfl) fun σ H Q ⟨F, G, env, d, env', S, e, q⟩ => by
    simp only [evE] at e
    split at e
    · rename_i cn fs hfs
      split at e
      · rename_i xd hx
        simp only [Option.some.injEq, Prod.mk.injEq] at e
        obtain ⟨rfl, rfl⟩ := e
        obtain ⟨_, a, C, dx, gs, l, hs, hc, ha, hl, rf, hg⟩ := S.objAt hfs
        obtain ⟨v, m, h1, h2, h3⟩ := rf.look hx
        cases h2 with
        | d r => exact ⟨_, hs, a, C, dx, gs, v, rfl, ha, (co.cls _ _ hc).1, (co.cls _ _ hc).2 f hf, h1, q v H G S .refl r⟩
      · cases e
    · cases e
theorem c_lfld {T : Tb} {i : Nat} {x f : Str} {p p0 pos ap : Pos} (hX : XOk k X) (co : COk T X cl) (hf : f ∈ T.fl) (hg : Gl X "list") (hN : X.N[i]? = some x) (hv : Vis X.env.scope x) (hd : (x == ("__debug__" : Str)) = false) (hcd : (x == ("__classdict__" : Str)) = false) (C : Calls) :
    PE X (.Call (.Name "list" p0) [.Attribute (.Name x p) f ap] [] pos) (rdX true X.K cl (evE C (.lfld i f))) :=
  PE.imp (pe_callTy call_list_of hg (hX.bt _ (by decide)) (by decide +kernel) (pa_one (pe_fld (pe_var hN hv hd hcd) rfl) rfl)) fun σ H Q ⟨F, G, env, d, env', S, e, q⟩ => by
    simp only [evE] at e
    split at e
    · rename_i cn fs hfs
      split at e
      · rename_i xd hx
        simp only [Option.some.injEq, Prod.mk.injEq] at e
        obtain ⟨rfl, rfl⟩ := e
        obtain ⟨_, a, C, dx, gs, l, hs, hc, ha, hl, rf, hg⟩ := S.objAt hfs
        obtain ⟨v, m, h1, h2, h3⟩ := rf.look hx
        cases h2 with
        | l hp ra =>
          refine ⟨_, hs, a, C, dx, gs, _, rfl, ha, (co.cls _ _ hc).1, (co.cls _ _ hc).2 f hf, h1, _, _, rfl, .inl (.inl (.inl hp)), ?_⟩
          exact Gv.newL (S.give fun v' H' G' S' s r fr => q v' H' G' S' s r fun z => fr (by simpa using z)) S.zd ra
      · cases e
    · cases e
end
end VL

set_option Elab.async false
set_option linter.all false
set_option maxRecDepth 100000
set_option maxHeartbeats 2000000
/-! VL: walking lists and tuples, enumerate and zip over either. -/
namespace VLI
open PySem Sem
open AutoSeq1 (wpAny_loadPart')
theorem meets_enum1 {v : Value} {o : Obj} {H : Heap → Prop} (B : Begins v o H) :
    Meets (Builtin.«enumerate.__new__» ⟨[.type "enumerate", v], []⟩) (fun _ R s => H s.heap ∧
      R (.ok (.ret (.ref (s.heap.push o).objs.size))) { s with heap := (s.heap.push o).push { cls := .type "enumerate", data := .fields #[.none, .bool false, .ref s.heap.objs.size, rawInt 0, .none, .none] } }) :=
  .of_wp fun prog w A R s h => by
    obtain ⟨hp, g, d, tk, os⟩ := s; obtain ⟨h1, h⟩ := h
    have hsub := sub_enumerate
    have q1 : ∀ {A' : Around} {E : Value → Shared → Prop} {Q : Value → Shared → Prop}, Q (.ref hp.objs.size) ⟨hp.push o, g, d, tk, os⟩ → wpAny (model prog w) A' (pyIter v) Q E ⟨hp, g, d, tk, os⟩ :=
      fun q => B.iter prog w _ _ ⟨hp, g, d, tk, os⟩ _ h1 q
    wp_walk using q1
    refine wpAny_stack_any fun st => wpAny_pure ?_
    split
    · rename_i c _ _ _ _ _
      cases (c == Value.type "enumerate")
      · wp_walk using q1
        exact ⟨_, rfl, h⟩
      · wp_walk using q1
        exact ⟨_, rfl, h⟩
    · wp_walk using q1
      exact ⟨_, rfl, h⟩
section
variable {prog : Program} {w : World} {A : Around} {E : Value → Shared → Prop} {s : Shared}
theorem enum1_begins {v : Value} {o : Obj} {H : Heap → Prop} {Q : Value → Shared → Prop} (B : Begins v o H) (h1 : H s.heap)
    (h : ∀ h', IsEnum h' (s.heap.objs.size + 1) s.heap.objs.size 0 .none → h'.get? s.heap.objs.size = some o → h'.objs.size = s.heap.objs.size + 2 →
      (∀ b o, s.heap.get? b = some o → h'.get? b = some o) → Q (.ref (s.heap.objs.size + 1)) { s with heap := h' }) :
    wpAny (model prog w) A (call (.type "enumerate") [v]) Q E s := by
  refine callType_new F.called_enumerate (by decide) (F.typeCall_enumerate_1 _) (F.newCall_enumerate_1 _) (fun obj => F.args_object_init_2 obj _) F.entry_enumerate_new
    (meets_enum1 B) ⟨h1, ?_⟩
  have hz : (s.heap.push o).objs.size = s.heap.objs.size + 1 := Heap.size_push ..
  show _ ∧ _
  rw [hz]
  have he : IsEnum ((s.heap.push o).push { cls := .type "enumerate", data := .fields #[.none, .bool false, .ref s.heap.objs.size, rawInt 0, .none, .none] }) (s.heap.objs.size + 1) s.heap.objs.size 0 .none := by
    have := Heap.get?_push_size (s.heap.push o) (o := { cls := .type "enumerate", data := .fields #[.none, .bool false, .ref s.heap.objs.size, rawInt 0, .none, .none] }) rfl
    rw [hz] at this; exact this
  refine ⟨⟨_, he, rfl⟩, h _ he (Heap.get?_push_of_some _ (Heap.get?_push_size _ B.free)) (by rw [Heap.size_push, hz]) fun b o x => Heap.get?_push_of_some _ (Heap.get?_push_of_some _ x)⟩
end
end VLI
namespace VL
open PySem L2
open PyProof PyProof.Rows
/-- a list or a tuple -/
inductive SK | L | T
def SqS (K : PySem.W.Frag) (H : Hp) : SK → Addr → List V → Prop
  | .L, a, xs => SqL K H a xs
  | .T, a, xs => SqT K H a xs
def IsS (h : Heap) : SK → Addr → Array Value → Prop
  | .L, a, xs => h.IsList a xs
  | .T, a, xs => h.IsTuple a xs
def ItS (h : Heap) : SK → Addr → Addr → Nat → Prop
  | .L, it, a, i => h.IsListIter it a i
  | .T, it, a, i => h.IsTupleIter it a i
section
variable {X : Cx} {pins : List (Addr × Obj)} {σ : L2.St} {H : Hp} {s : Shared} {k k2 : SK} {a b : Addr} {xs ys : List V}
theorem inv_sq (I : Inv X pins σ H s) (h : SqS X.K H k a xs) : ∃ its : List Value, Vals xs its ∧ IsS s.heap k a its.toArray := by
  cases k with
  | L => obtain ⟨its, r, p, _⟩ := I.list h; exact ⟨its, r, p.isList⟩
  | T => obtain ⟨its, r, p, _⟩ := I.tuple h; exact ⟨its, r, p⟩
theorem inv_inj (I : Inv X pins σ H s) (h : SqS X.K H k a xs) (h' : SqS X.K H k a ys) : xs = ys := by
  cases k with
  | L => exact I.list_inj h h'
  | T => exact I.tuple_inj h h'
theorem ItS.look {h : Heap} {it a : Addr} {i : Nat} (q : ItS h k it a i) : ∃ o, h.get? it = some o ∧ o.data = .fields #[.ref a, .int i 0] := by
  cases k with
  | L => obtain ⟨o, e, _, d⟩ := q; exact ⟨o, e, d⟩
  | T => obtain ⟨o, e, _, d⟩ := q; exact ⟨o, e, d⟩
theorem ItS.to {h h' : Heap} {it a : Addr} {i : Nat} (q : ItS h k it a i) (kp : ∀ o, h.get? it = some o → h'.get? it = some o) : ItS h' k it a i := by
  cases k with
  | L => exact Heap.IsListIter.at q kp
  | T => exact Heap.IsTupleIter.at q kp
theorem draws_S {prog : Program} {w : World} {A : Around} (hh : A.handled = none) (it a : Addr) (hne : a ≠ it) (items : Array Value) :
    Draws prog w A it [it, a] items.size (fun i v => items[i]? = some v) (fun i h => ItS h k it a i ∧ IsS h k a items) := by
  cases k with
  | L => exact Draws.list hh it a hne items
  | T => exact Draws.tuple hh it a hne items
/-- what an iterator of it begins as -/
def itObj : SK → Addr → Obj
  | .L, a => { cls := .type "list_iterator", data := .fields #[.ref a, .int 0 0] }
  | .T, a => { cls := .type "tuple_iterator", data := .fields #[.ref a, .int 0 0] }
theorem begins_S (k : SK) (a : Addr) (items : Array Value) : Begins (.ref a) (itObj k a) fun h => IsS h k a items := by
  cases k with
  | L => exact begins_list a items
  | T => exact begins_tuple a items
theorem itObj_is {h : Heap} {it a : Addr} (e : h.get? it = some (itObj k a)) : ItS h k it a 0 := by
  cases k with
  | L => exact ⟨_, e, rfl, rfl⟩
  | T => exact ⟨_, e, rfl, rfl⟩
theorem IsS.lt {h : Heap} {its : Array Value} (q : IsS h k a its) : a < h.objs.size := by
  cases k with
  | L => obtain ⟨o, e, _⟩ := q; exact Heap.lt_size e
  | T => obtain ⟨o, e, _⟩ := q; exact Heap.lt_size e
end

/-! ### the values themselves -/
def ItSq (K : PySem.W.Frag) : SK → Addr → It
  | .L, a => Itl K a
  | .T, a => Itt K a
theorem pi_seq {X : Cx} {tg l : Expr} {tl : TE} (hl : PE X l tl) : PI X tg l (fun σ H R => tl σ H fun x H1 => ∃ k a xs, x = .ref a ∧ SqS X.K H1 k a xs ∧ R (ItSq X.K k a) H1) := by
  refine ⟨fun pins s σ H R I h => ?_⟩
  refine thn (hl.run pins s σ H _ I h) fun v s1 ⟨x, H1, I1, r1, q1⟩ => ?_
  obtain ⟨k, a, xs, e, hq, q⟩ := q1
  subst e
  cases r1
  cases k with
  | L =>
    obtain ⟨its, rv, p, hz⟩ := I1.list hq
    refine wpAny_pyIter_list p.isList ?_
    refine ⟨s1.heap.objs.size, [s1.heap.objs.size], _, _, H1, rfl, I1.kept (t' := s1.toks) fun b o e => Heap.get?_push_of_some _ e, turn_list a _, ⟨_, Heap.get?_push_size _ rfl, rfl, rfl⟩, fun b hb => ?_, q⟩
    have e : b = s1.heap.objs.size := by simpa using hb
    subst e
    exact I1.fpOk (Nat.le_refl _) (I1.hok.fresh (Nat.le_refl _))
  | T =>
    obtain ⟨its, rv, p, hz⟩ := I1.tuple hq
    refine wpAny_pyIter_tuple (show s1.heap.IsTuple a its.toArray from p) ?_
    refine ⟨s1.heap.objs.size, [s1.heap.objs.size], _, _, H1, rfl, I1.kept (t' := s1.toks) fun b o e => Heap.get?_push_of_some _ e, turn_tuple a _, ⟨_, Heap.get?_push_size _ rfl, rfl, rfl⟩, fun b hb => ?_, q⟩
    have e : b = s1.heap.objs.size := by simpa using hb
    subst e
    exact I1.fpOk (Nat.le_refl _) (I1.hok.fresh (Nat.le_refl _))

/-! ### enumerate -/
def IteS (K : PySem.W.Frag) (k : SK) (a : Addr) : It :=
  ⟨fun i H => ∃ (xs : List V) (x : V), SqS K H k a xs ∧ xs[i]? = some x, fun i H v H' => ∃ T x, v = .ref T ∧ H T = none ∧ H' = upd H T (.tup [.int (i : Nat), x]) ∧ ∀ xs, SqS K H k a xs → xs[i]? = some x, fun i H => ∃ xs : List V, SqS K H k a xs ∧ xs.length = i⟩
theorem turn_enumS {P : Program} {w : World} {K : PySem.W.Frag} {elts : List Expr} {kk : Nat} {tpos : Pos} (k : SK) (a e it : Addr) :
    Turn P w K (.Tuple elts kk tpos) (IteS K k a) [e, it] e (fun i h => (∃ old, IsEnum h e it ((i : Nat) : Int) old) ∧ ItS h k it a i ∧ e ≠ it ∧ a ≠ it ∧ a ≠ e) where
  mem := by simp
  obj := fun i h st b hb => by
    obtain ⟨⟨old, he⟩, hi, _⟩ := st
    obtain ⟨o, ho, hd⟩ := hi.look
    have e' : b = e ∨ b = it := by simpa using hb
    rcases e' with z | z
    · rw [z]; exact ⟨_, he, fun v q => nomatch q⟩
    · rw [z]; exact ⟨o, ho, fun v q => by rw [hd] at q; cases q⟩
  keep := fun i h h' st kp => let ⟨⟨old, he⟩, hi, hne⟩ := st; ⟨⟨old, kp e (by simp) _ he⟩, hi.to fun o q => kp it (by simp) o q, hne⟩
  item := by
    intro X hP hw hK hc i pins s σ H E I hf st hg
    subst hP hw hK
    obtain ⟨⟨old, he⟩, hit, hne, hai, hae⟩ := st
    obtain ⟨xs, x, hq, hx⟩ := hg
    obtain ⟨its, rv, p⟩ := inv_sq I hq
    obtain ⟨u, hu, ru⟩ := rv.get hx
    have hel : e < s.heap.objs.size := Heap.lt_size he
    have hil : it < s.heap.objs.size := by obtain ⟨_, q, _⟩ := hit.look; exact Heap.lt_size q
    have hlt : i < its.toArray.size := by obtain ⟨h1, _⟩ := List.getElem?_eq_some_iff.mp hu; simpa using h1
    have D := draws_S (prog := X.prog) (w := X.w) (A := X.A.in1) (k := k) (I.ok.hd hc) it a hai its.toArray
    refine wpAny_pyNext_enum_itemC D he ⟨hit, p⟩ hlt hne (by simp only [List.mem_cons, List.not_mem_nil, or_false, not_or]; exact ⟨hne, Ne.symm hae⟩) fun x' h' tk hx' ho hit' hT hsz hk => ?_
    have hxu : x' = u := by
      have h1 : its.toArray[i]? = some x' := hx'
      have h2 : its.toArray[i]? = some u := by simpa using hu
      rw [h1] at h2; exact Option.some.inj h2
    subst hxu
    refine ⟨_, rfl, wpAny_letOwnedTupleGo_enum (s := { s with heap := h', toks := tk + 1 }) ho fun h'' he' sb => ?_⟩
    have hT2 : h''.get? s.heap.objs.size = some { cls := .type "tuple", data := .seq #[.int i tk, x'] } := (sb.2 _ (Nat.ne_of_gt hel)).trans hT
    have new : ObjOk X.prog X.w (upd H s.heap.objs.size (.tup [.int (i : Nat), x])) h'' s.heap.objs.size (.tup [.int (i : Nat), x]) :=
      ⟨by show 2 ≤ sizeLine; decide, [.int i tk, x'], .cons ⟨_, rfl⟩ (.cons ru .nil), ⟨_, hT2, rfl, _, rfl⟩⟩
    have I1 : Inv X pins σ (upd H s.heap.objs.size (.tup [.int (i : Nat), x])) { s with heap := h'', toks := tk + 1 } :=
      I.turnedNew (ch := [e, it]) (fun b ob hb q => (sb.2 b (fun z => hb (by simp [z]))).trans (hk b ob (fun z => hb (by simp [z])) (fun z => hb (by simp [z])) q)) hf (Nat.le_refl _) new
    refine ⟨.ref s.heap.objs.size, _, I1, rfl, ⟨_, x, rfl, I.hok.fresh (Nat.le_refl _), rfl, fun ys hy => by rw [inv_inj I hy hq]; exact hx⟩, ⟨⟨x', ?_⟩, hit'.1.to fun o q => (sb.2 it (Ne.symm hne)).trans q, hne, hai, hae⟩, fun b hb => ?_⟩
    · have e1 : ((i + 1 : Nat) : Int) = (i : Int) + 1 := by omega
      rw [e1]; exact he'
    · have hb' : b < s.heap.objs.size := by
        have e' : b = e ∨ b = it := by simpa using hb
        rcases e' with z | z
        · rw [z]; exact hel
        · rw [z]; exact hil
      rw [upd_ne (Nat.ne_of_lt hb')]
      exact (hf b hb).1
  done := by
    intro X hP hw hK hc i pins s σ H E I hf st hg
    subst hP hw hK
    obtain ⟨⟨old, he⟩, hit, hne, hai, hae⟩ := st
    obtain ⟨xs, hq, hx⟩ := hg
    obtain ⟨its, rv, p⟩ := inv_sq I hq
    obtain ⟨f0, f1, f2, f3, f4, f5⟩ := hf it (by simp)
    have D := draws_S (prog := X.prog) (w := X.w) (A := X.A.in1) (k := k) (I.ok.hd hc) it a hai its.toArray
    have hn : its.toArray.size = i := by rw [← hx, rv.length]; simp
    exact wpAny_pyNext_enum_endD D he (by rw [hn]; exact ⟨hit, p⟩) fun h' eb => ⟨rfl, I.turned (t' := s.toks) (fun b o hb q => eb b o hb q) f0 f1 f3 f4 f5⟩
  self := fun A i s Q E st h => let ⟨⟨_, he⟩, _⟩ := st; wpAny_pyIter_enum he h
theorem pi_enumS {X : Cx} {e : Expr} {ta : TA} {p pos tpos : Pos} {elts : List Expr} {kk : Nat} (hg : Gl X "enumerate") (hm : X.mg "enumerate" = none) (ha : PA X [e] ta) (hs : starEach [e] X.env = [(false, eval e X.env)]) :
    PI X (.Tuple elts kk tpos) (.Call (.Name "enumerate" p) [e] [] pos) (fun σ H R => ta σ H fun vs H1 => ∃ k a xs, vs = [.ref a] ∧ SqS X.K H1 k a xs ∧ R (IteS X.K k a) H1) := by
  refine ⟨fun pins s σ H R I h => ?_⟩
  refine Call_ (ld_blt I hg hm boot_enumerate (PyProof.Rows.callWith_type1 (thn (ha.run pos pins s σ H _ I h) fun us s1 ⟨vs, H1, I1, r1, q1⟩ => ?_) hs rfl))
  obtain ⟨k, a, xs, ex, hq, q⟩ := q1
  subst ex
  cases r1 with
  | cons r rr =>
    cases rr
    cases r
    obtain ⟨its, rv, p'⟩ := inv_sq I1 hq
    refine VLI.enum1_begins (begins_S k a its.toArray) p' fun h' he hit hsz hk => wpAny_pyIter_enum he ?_
    have I2 : Inv X pins σ H1 { s1 with heap := h' } := I1.kept (t' := s1.toks) hk
    have hal := p'.lt
    refine ⟨s1.heap.objs.size + 1, [s1.heap.objs.size + 1, s1.heap.objs.size], _, _, H1, rfl, I2, turn_enumS k a (s1.heap.objs.size + 1) s1.heap.objs.size, ⟨⟨.none, he⟩, itObj_is hit, Nat.succ_ne_self _, Nat.ne_of_lt hal, Nat.ne_of_lt (Nat.lt_succ_of_lt hal)⟩, fun b hb => ?_, q⟩
    have e' : b = s1.heap.objs.size + 1 ∨ b = s1.heap.objs.size := by simpa using hb
    have hle : s1.heap.objs.size ≤ b := by
      rcases e' with z | z
      · rw [z]; exact Nat.le_add_right _ _
      · rw [z]; exact Nat.le_refl _
    exact I1.fpOk hle (I1.hok.fresh hle)

/-! ### zip -/
def ItzS (K : PySem.W.Frag) (k k2 : SK) (a b : Addr) : It :=
  ⟨fun i H => ∃ (xs ys : List V) (x y : V), SqS K H k a xs ∧ SqS K H k2 b ys ∧ xs[i]? = some x ∧ ys[i]? = some y,
    fun i H v H' => ∃ T x y, v = .ref T ∧ H T = none ∧ H' = upd H T (.tup [x, y]) ∧ (∀ xs, SqS K H k a xs → xs[i]? = some x) ∧ ∀ ys, SqS K H k2 b ys → ys[i]? = some y,
    fun i H => ∃ xs ys : List V, SqS K H k a xs ∧ SqS K H k2 b ys ∧ i ≤ xs.length ∧ i ≤ ys.length ∧ (i = xs.length ∨ i = ys.length)⟩
theorem turn_zipS {P : Program} {w : World} {K : PySem.W.Frag} {elts : List Expr} {kk : Nat} {tpos : Pos} (k k2 : SK) {a b z TI TO i1 i2 : Addr} (D : ZipSep2 z TI TO i1 i2 [i1, a] [i2, b]) (ha : a ≠ i1) (hb : b ≠ i2) :
    Turn P w K (.Tuple elts kk tpos) (ItzS K k k2 a b) [z, TI, TO, i1, i2] z (fun i h => IsZip h z TI TO .none ∧ IsTupOf2 h TI (.ref i1) (.ref i2) ∧ (∃ x y, IsTupOf2 h TO x y) ∧ ItS h k i1 a i ∧ ItS h k2 i2 b i) where
  mem := by simp
  obj := fun i h st c hc => by
    obtain ⟨hz, hTI, ⟨x, y, hTO⟩, h1, h2⟩ := st
    obtain ⟨o1, e1, d1⟩ := h1.look
    obtain ⟨o2, e2, d2⟩ := h2.look
    have e' : c = z ∨ c = TI ∨ c = TO ∨ c = i1 ∨ c = i2 := by simpa using hc
    rcases e' with q | q | q | q | q
    · rw [q]; exact ⟨_, hz, fun v q => nomatch q⟩
    · rw [q]; exact ⟨_, hTI, fun v q => nomatch q⟩
    · rw [q]; exact ⟨_, hTO, fun v q => nomatch q⟩
    · rw [q]; exact ⟨o1, e1, fun v q => by rw [d1] at q; cases q⟩
    · rw [q]; exact ⟨o2, e2, fun v q => by rw [d2] at q; cases q⟩
  keep := fun i h h' st kp => by
    obtain ⟨hz, hTI, ⟨x, y, hTO⟩, h1, h2⟩ := st
    exact ⟨kp z (by simp) _ hz, kp TI (by simp) _ hTI, ⟨x, y, kp TO (by simp) _ hTO⟩, h1.to fun o q => kp i1 (by simp) o q, h2.to fun o q => kp i2 (by simp) o q⟩
  item := by
    intro X hP hw hK hc i pins s σ H E I hf st hg
    subst hP hw hK
    obtain ⟨hz, hTI, ⟨x0, y0, hTO⟩, h1, h2⟩ := st
    obtain ⟨xs, ys, x, y, hqx, hqy, hx, hy⟩ := hg
    obtain ⟨its, rv, p⟩ := inv_sq I hqx
    obtain ⟨its2, rv2, p2⟩ := inv_sq I hqy
    obtain ⟨u, hu, ru⟩ := rv.get hx
    obtain ⟨u2, hu2, ru2⟩ := rv2.get hy
    have hzl : z < s.heap.objs.size := Heap.lt_size hz
    have hlt1 : i < its.toArray.size := by obtain ⟨h1, _⟩ := List.getElem?_eq_some_iff.mp hu; simpa using h1
    have hlt2 : i < its2.toArray.size := by obtain ⟨h1, _⟩ := List.getElem?_eq_some_iff.mp hu2; simpa using h1
    have D1 := draws_S (prog := X.prog) (w := X.w) (A := X.A.in1) (k := k) (I.ok.hd hc) i1 a ha its.toArray
    have D2 := draws_S (prog := X.prog) (w := X.w) (A := X.A.in1) (k := k2) (I.ok.hd hc) i2 b hb its2.toArray
    refine wpAny_pyNext_zipD2_item D D1 D2 hz hTI hTO ⟨h1, p⟩ ⟨h2, p2⟩ hlt1 hlt2 fun v1 v2 h' tk hv1 hv2 z' TO' h1' h2' hT hsz hk => ?_
    have e1 : v1 = u := by
      have q1 : its.toArray[i]? = some v1 := hv1
      have q2 : its.toArray[i]? = some u := by simpa using hu
      rw [q1] at q2; exact Option.some.inj q2
    have e2 : v2 = u2 := by
      have q1 : its2.toArray[i]? = some v2 := hv2
      have q2 : its2.toArray[i]? = some u2 := by simpa using hu2
      rw [q1] at q2; exact Option.some.inj q2
    subst e1 e2
    refine ⟨_, rfl, wpAny_letOwnedTupleGo_zip (s := { s with heap := h', toks := tk }) z' fun h'' z'' sb => ?_⟩
    have hT2 : h''.get? s.heap.objs.size = some { cls := .type "tuple", data := .seq #[v1, v2] } := (sb.2 _ (Nat.ne_of_gt hzl)).trans hT
    have new : ObjOk X.prog X.w (upd H s.heap.objs.size (.tup [x, y])) h'' s.heap.objs.size (.tup [x, y]) :=
      ⟨by show 2 ≤ sizeLine; decide, [v1, v2], .cons ru (.cons ru2 .nil), ⟨_, hT2, rfl, _, rfl⟩⟩
    have I1 : Inv X pins σ (upd H s.heap.objs.size (.tup [x, y])) { s with heap := h'', toks := tk } :=
      I.turnedNew (ch := [z, TI, TO, i1, i2]) (fun c o hb q => (sb.2 c (fun q' => hb (by simp [q']))).trans (hk c o (fun q' => hb (by simp [q'])) (fun q' => hb (by simp [q'])) (fun q' => hb (by simp [q'])) (fun q' => hb (by simp [q'])) q)) hf (Nat.le_refl _) new
    refine ⟨.ref s.heap.objs.size, _, I1, rfl, ⟨_, x, y, rfl, I.hok.fresh (Nat.le_refl _), rfl, fun l hl => by rw [inv_inj I hl hqx]; exact hx, fun l hl => by rw [inv_inj I hl hqy]; exact hy⟩, ⟨z'', ?_, ⟨v1, v2, ?_⟩, ?_, ?_⟩, fun c hcm => ?_⟩
    · exact (sb.2 _ D.TIz).trans (hk _ _ D.TIz D.TITO D.TIi1 D.TIi2 hTI)
    · exact (sb.2 _ D.TOz).trans TO'
    · exact h1'.1.to fun o q => (sb.2 _ (Ne.symm D.zi1)).trans q
    · exact h2'.1.to fun o q => (sb.2 _ (Ne.symm D.zi2)).trans q
    · have hlt : c < s.heap.objs.size := by
        have e' : c = z ∨ c = TI ∨ c = TO ∨ c = i1 ∨ c = i2 := by simpa using hcm
        rcases e' with q | q | q | q | q
        · rw [q]; exact hzl
        · rw [q]; exact Heap.lt_size hTI
        · rw [q]; exact Heap.lt_size hTO
        · rw [q]; obtain ⟨_, e1, _⟩ := h1.look; exact Heap.lt_size e1
        · rw [q]; obtain ⟨_, e1, _⟩ := h2.look; exact Heap.lt_size e1
      rw [upd_ne (Nat.ne_of_lt hlt)]
      exact (hf c hcm).1
  done := by
    intro X hP hw hK hc i pins s σ H E I hf st hg
    subst hP hw hK
    obtain ⟨hz, hTI, ⟨x0, y0, hTO⟩, h1, h2⟩ := st
    obtain ⟨xs, ys, hqx, hqy, hl1, hl2, hend⟩ := hg
    obtain ⟨its, rv, p⟩ := inv_sq I hqx
    obtain ⟨its2, rv2, p2⟩ := inv_sq I hqy
    have l1 := rv.length
    have l2 := rv2.length
    have D1 := draws_S (prog := X.prog) (w := X.w) (A := X.A.in1) (k := k) (I.ok.hd hc) i1 a ha its.toArray
    have D2 := draws_S (prog := X.prog) (w := X.w) (A := X.A.in1) (k := k2) (I.ok.hd hc) i2 b hb its2.toArray
    exact wpAny_pyNext_zipD2_end D D1 D2 hz hTI hTO ⟨h1, p⟩ ⟨h2, p2⟩ (by simp; omega) (by simp; omega) (by simp; omega) fun h' tk hk => ⟨rfl, I.turnedL (t' := tk) (ch := [z, TI, TO, i1, i2]) (fun c o hb q =>
      hk c o (fun q' => hb (by simp [q'])) (fun q' => hb (by simp [q'])) (fun q' => hb (by simp [q'])) (fun q' => hb (by simp [q'])) q) hf⟩
  self := fun A i s Q E st h => wpAny_pyIter_zip st.1 h
theorem pi_zipS {X : Cx} {e e2 : Expr} {ta : TA} {p pos tpos : Pos} {elts : List Expr} {kk : Nat} (hg : Gl X "zip") (hm : X.mg "zip" = none) (ha : PA X [e, e2] ta)
    (hs : starEach [e, e2] X.env = (false, eval e X.env) :: starEach [e2] X.env) (hpl : (backTo pos (starEach [e2] X.env)).any (·.1) = false) :
    PI X (.Tuple elts kk tpos) (.Call (.Name "zip" p) [e, e2] [] pos) (fun σ H R => ta σ H fun vs H1 => ∃ k k2 a b xs ys, vs = [.ref a, .ref b] ∧ SqS X.K H1 k a xs ∧ SqS X.K H1 k2 b ys ∧ R (ItzS X.K k k2 a b) H1) := by
  refine ⟨fun pins s σ H R I h => ?_⟩
  refine Call_ (ld_blt I hg hm PyProof.Rows.boot_zip (PyProof.Rows.callWith_type1 (thn (ha.run pos pins s σ H _ I h) fun us s1 ⟨vs, H1, I1, r1, q1⟩ => ?_) hs hpl))
  obtain ⟨k, k2, a, b, xs, ys, ex, hqx, hqy, q⟩ := q1
  subst ex
  cases r1 with
  | cons r rr =>
    cases rr with
    | cons r' rr =>
      cases rr
      cases r
      cases r'
      obtain ⟨its, rv, p1⟩ := inv_sq I1 hqx
      obtain ⟨its2, rv2, p2⟩ := inv_sq I1 hqy
      have la : a < s1.heap.objs.size := p1.lt
      have lb : b < s1.heap.objs.size := p2.lt
      refine zip_begins2 (begins_S k a its.toArray) (begins_S k2 b its2.toArray) p1 p2 fun h' hz hTI hTO h1 h2 hsz hk => wpAny_pyIter_zip hz ?_
      have I2 : Inv X pins σ H1 { s1 with heap := h' } := I1.kept (t' := s1.toks) hk
      refine ⟨s1.heap.objs.size + 4, [s1.heap.objs.size + 4, s1.heap.objs.size + 2, s1.heap.objs.size + 3, s1.heap.objs.size, s1.heap.objs.size + 1], _, _, H1, rfl, I2, turn_zipS k k2 (zip_sep2 (fp1 := [a]) (fp2 := [b]) (fun c hc => by rw [List.mem_singleton.mp hc]; exact la) (fun c hc => by rw [List.mem_singleton.mp hc]; exact lb)) (Nat.ne_of_lt la) (Nat.ne_of_lt (Nat.lt_succ_of_lt lb)), ⟨hz, hTI, ⟨_, _, hTO⟩, itObj_is h1, itObj_is h2⟩, fun c hcm => ?_, q⟩
      have e' : c = s1.heap.objs.size + 4 ∨ c = s1.heap.objs.size + 2 ∨ c = s1.heap.objs.size + 3 ∨ c = s1.heap.objs.size ∨ c = s1.heap.objs.size + 1 := by simpa using hcm
      have hle : s1.heap.objs.size ≤ c := by
        rcases e' with z | z | z | z | z
        · rw [z]; exact Nat.le_add_right _ _
        · rw [z]; exact Nat.le_add_right _ _
        · rw [z]; exact Nat.le_add_right _ _
        · rw [z]; exact Nat.le_refl _
        · rw [z]; exact Nat.le_add_right _ _
      exact I1.fpOk hle (I1.hok.fresh hle)
end VL

set_option Elab.async false
set_option linter.all false
set_option maxRecDepth 100000
set_option maxHeartbeats 2000000
/-! VL: lists held aside while the rest runs; a comprehension's names. -/
namespace VL
open PySem L2
open PyProof PyProof.Rows
section
variable {K : PySem.W.Frag} {cl : ClsT} {F : FP} {env env' : Env} {G G' : Nat → List Addr} {σ σ' : L2.St} {H H' : Hp}
def below (n : Nat) (G : Nat → List Addr) : Nat → List Addr := fun j => if j < n then G j else []
theorem below_lt {n j : Nat} (h : j < n) : below n G j = G j := if_pos h
theorem below_ge {n j : Nat} (h : n ≤ j) : below n G j = [] := if_neg (by omega)
theorem below_sub {n j : Nat} {a : Addr} (h : a ∈ below n G j) : j < n ∧ a ∈ G j := by
  by_cases q : j < n
  · rw [below_lt q] at h; exact ⟨q, h⟩
  · rw [below_ge (by omega)] at h; cases h
theorem SR.gi (S : SR K cl F env G σ H) {i : Nat} {a : Addr} (hi : i < σ.length) (h : a ∈ G i) : F.Fre a ∧ Holds (getS env i) := by
  cases e : getS env i with
  | own o => obtain ⟨_, _, _, q⟩ := S.own i o e; exact ⟨(q a h).1.fre, .own o rfl⟩
  | io o => obtain ⟨_, _, _, _, q⟩ := S.io i o e; exact ⟨(q a h).fre, .io o rfl⟩
  | _ => rw [S.off i (fun o z => by rw [e] at z; cases z) (fun o z => by rw [e] at z; cases z) hi] at h; cases h
/-- what is held aside is let go -/
theorem SR.noPend (S : SR K cl F env G σ H) : SR K cl F env (below σ.length G) σ H ∧ Step H (ZZ F.Zc G) H (ZZ F.Zc (below σ.length G)) := by
  have st : Step H (ZZ F.Zc G) H (ZZ F.Zc (below σ.length G)) := .same (fun _ _ e => e) fun a z => z.elim .inl fun ⟨j, hj⟩ => .inr ⟨j, (below_sub hj).2⟩
  have lt : ∀ {i}, getS env i ≠ .un → i < σ.length := fun {i} h => by have := getS_lt h; rw [S.len] at this; exact this
  refine ⟨⟨S.len, fun i d e => ?_, fun i o e => ?_, fun i o e => ?_, S.scr, fun i n1 n2 n3 => ?_, fun i hi a z => ?_, fun j1 j2 a h1 h2 => S.disj _ _ a (below_sub h1).2 (below_sub h2).2, fun j => ?_, S.dom, S.zc, S.kept, S.dom0, S.mil⟩, st⟩
  · obtain ⟨w, hw, r⟩ := S.shr i d e; exact ⟨w, hw, r.step st⟩
  · obtain ⟨w, hw, r, q⟩ := S.own i o e
    rw [below_lt (lt (by rw [e]; exact fun z => nomatch z))]
    exact ⟨w, hw, r.move st fun _ _ => rfl, q⟩
  · obtain ⟨w, hw, h2, r, q⟩ := S.io i o e
    rw [below_lt (lt (by rw [e]; exact fun z => nomatch z))]
    exact ⟨w, hw, h2, r.move st fun _ _ => rfl, q⟩
  · rw [below_lt n3]; exact S.off i n1 n2 n3
  · rw [below_ge hi] at z; cases z
  · by_cases q : j < σ.length
    · rw [below_lt q]; exact S.nd j
    · rw [below_ge (by omega)]; exact .nil
/-- the frame while what is held aside waits -/
def FP.inn (F : FP) (n : Nat) (G : Nat → List Addr) (H : Hp) : FP := ⟨fun a => F.Zc a ∨ ∃ j, n ≤ j ∧ a ∈ G j, H, fun j a => j < n ∧ a ∈ G j, F.av⟩
theorem inn_zone {n : Nat} : ∀ a, ZZ (F.inn n G H).Zc (below n G) a ↔ ZZ F.Zc G a := fun a => by
  constructor
  · rintro ((h | ⟨j, _, h⟩) | ⟨j, h⟩)
    · exact .inl h
    · exact .inr ⟨j, h⟩
    · exact .inr ⟨j, (below_sub h).2⟩
  · rintro (h | ⟨j, h⟩)
    · exact .inl (.inl h)
    · by_cases q : j < n
      · exact .inr ⟨j, by rw [below_lt q]; exact h⟩
      · exact .inl (.inr ⟨j, by omega, h⟩)
theorem SR.inn (S : SR K cl F env G σ H) : SR K cl (F.inn σ.length G H) env (below σ.length G) σ H ∧ Step H (ZZ F.Zc G) H (ZZ (F.inn σ.length G H).Zc (below σ.length G)) := by
  have st : Step H (ZZ F.Zc G) H (ZZ (F.inn σ.length G H).Zc (below σ.length G)) := .same (fun _ _ e => e) fun a z => (inn_zone a).mp z
  have lt : ∀ {i}, getS env i ≠ .un → i < σ.length := fun {i} h => by have := getS_lt h; rw [S.len] at this; exact this
  refine ⟨⟨S.len, fun i d e => ?_, fun i o e => ?_, fun i o e => ?_, S.scr, fun i n1 n2 n3 => ?_, fun i hi a z => ?_, fun j1 j2 a h1 h2 => S.disj _ _ a (below_sub h1).2 (below_sub h2).2, fun j => ?_, fun a z => S.mut ((inn_zone a).mp (.inl z)), fun a z => mut_ne (S.mut ((inn_zone a).mp (.inl z))), fun b o e _ => e, fun b e => e, fun i a h => h.1⟩, st⟩
  · obtain ⟨w, hw, r⟩ := S.shr i d e; exact ⟨w, hw, r.step st⟩
  · obtain ⟨w, hw, r, q⟩ := S.own i o e
    have hi := lt (i := i) (by rw [e]; exact fun z => nomatch z)
    rw [below_lt hi]
    refine ⟨w, hw, r.move st fun _ _ => rfl, fun a ha => ⟨.inr ⟨hi, ha⟩, fun z => z.elim (q a ha).2 fun ⟨j, hj, hm⟩ => ?_⟩⟩
    have := S.disj _ _ a ha hm
    omega
  · obtain ⟨w, hw, h2, r, q⟩ := S.io i o e
    have hi := lt (i := i) (by rw [e]; exact fun z => nomatch z)
    rw [below_lt hi]
    exact ⟨w, hw, h2, r.move st fun _ _ => rfl, fun a ha => .inr ⟨hi, ha⟩⟩
  · rw [below_lt n3]; exact S.off i n1 n2 n3
  · rw [below_ge hi] at z; cases z
  · by_cases q : j < σ.length
    · rw [below_lt q]; exact S.nd j
    · rw [below_ge (by omega)]; exact .nil
/-- back: what waited is held aside again, and what was held aside meanwhile goes behind it -/
def outG (len : Nat) (G G2 : Nat → List Addr) : Nat → List Addr := fun j => if j < len then G2 j else if j = len then G len else G2 (j - 1)
theorem outG_lt {len j : Nat} {G G2 : Nat → List Addr} (h : j < len) : outG len G G2 j = G2 j := if_pos h
theorem outG_n {len : Nat} {G G2 : Nat → List Addr} : outG len G G2 len = G len := by unfold outG; rw [if_neg (by omega), if_pos rfl]
theorem outG_gt {len j : Nat} {G G2 : Nat → List Addr} (h : len < j) : outG len G G2 j = G2 (j - 1) := by unfold outG; rw [if_neg (by omega), if_neg (by omega)]
theorem SR.waits (S : SR K cl F env G σ H) {env2 : Env} {G2 : Nat → List Addr} {σ2 : L2.St} {H2 : Hp} (S2 : SR K cl (F.inn σ.length G H) env2 G2 σ2 H2) {j : Nat} {a : Addr} (hj : σ.length ≤ j) (h : a ∈ G j) : H2 a = H a := by
  cases e : H a with
  | none => exact absurd e (mut_ne (S.mut (.inr ⟨j, h⟩)))
  | some o => exact S2.kept a o e fun ⟨i, hi, z⟩ => by have := S.disj _ _ a z h; omega
theorem SR.out (S : SR K cl F env G σ H) {env2 : Env} {G2 : Nat → List Addr} {σ2 : L2.St} {H2 : Hp} (S2 : SR K cl (F.inn σ.length G H) env2 G2 σ2 H2) (hl : σ2.length = σ.length) :
    SR K cl F env2 (outG σ.length G G2) σ2 H2 ∧ (∀ a, ZZ F.Zc (outG σ.length G G2) a → ZZ (F.inn σ.length G H).Zc G2 a) := by
  have gI : ∀ {i a}, i < σ.length → a ∈ G i → F.FreI i a := fun {i a} hi z => by
    cases e1 : getS env i with
    | io o1 => obtain ⟨_, _, _, _, q1⟩ := S.io i o1 e1; exact q1 a z
    | own o1 => obtain ⟨_, _, _, q1⟩ := S.own i o1 e1; exact (q1 a z).1
    | _ => rw [S.off i (fun o z => by rw [e1] at z; cases z) (fun o z => by rw [e1] at z; cases z) hi] at z; cases z
  have nw : ∀ {j a}, σ.length ≤ j → a ∈ G j → ¬ (F.inn σ.length G H).Fre a := fun {j a} hj h z => z.elim (fun z => mut_ne (S.mut (.inr ⟨j, h⟩)) z) fun ⟨i, hi, z⟩ => by have := S.disj _ _ a z h; omega
  have cs : ∀ {j a}, a ∈ outG σ.length G G2 j → (j < σ.length ∧ a ∈ G2 j) ∨ (j = σ.length ∧ a ∈ G σ.length) ∨ (σ.length < j ∧ a ∈ G2 (j - 1)) := fun {j a} h => by
    by_cases q : j < σ.length
    · rw [outG_lt q] at h; exact .inl ⟨q, h⟩
    · by_cases q2 : j = σ.length
      · subst q2; rw [outG_n] at h; exact .inr (.inl ⟨rfl, h⟩)
      · rw [outG_gt (by omega)] at h; exact .inr (.inr ⟨by omega, h⟩)
  have zn : ∀ a, ZZ F.Zc (outG σ.length G G2) a → ZZ (F.inn σ.length G H).Zc G2 a := fun a z => z.elim (fun z => .inl (.inl z)) fun ⟨j, hj⟩ => by
    rcases cs hj with ⟨_, z⟩ | ⟨_, z⟩ | ⟨_, z⟩
    · exact .inr ⟨_, z⟩
    · exact .inl (.inr ⟨_, Nat.le_refl _, z⟩)
    · exact .inr ⟨_, z⟩
  have st : Step H2 (ZZ (F.inn σ.length G H).Zc G2) H2 (ZZ F.Zc (outG σ.length G G2)) := .same (fun _ _ e => e) zn
  have lt : ∀ {i}, getS env2 i ≠ .un → i < σ.length := fun {i} h => by have := getS_lt h; rw [S2.len, hl] at this; exact this
  have fre2 : ∀ {j a}, a ∈ G2 j → (F.inn σ.length G H).Fre a := fun {j a} h => by
    by_cases q : j < σ.length
    · exact (S2.gi (by omega) h).1
    · exact .inl (S2.pd j (by omega) a h).2.1
  refine ⟨⟨S2.len, fun i d e => ?_, fun i o e => ?_, fun i o e => ?_, S2.scr, fun i n1 n2 n3 => ?_, fun i hi a z => ?_, fun j1 j2 a h1 h2 => ?_, fun j => ?_, fun a z => S2.dom a (.inl z), S.zc, fun b o e m => ?_, fun b m => S2.dom0 b (S.dom0 b m), fun i a h => by rw [hl]; exact S.mil i a h⟩, zn⟩
  · obtain ⟨w, hw, r⟩ := S2.shr i d e; exact ⟨w, hw, r.step st⟩
  · obtain ⟨w, hw, r, q⟩ := S2.own i o e
    rw [outG_lt (lt (by rw [e]; exact fun z => nomatch z))]
    exact ⟨w, hw, r.move st fun _ _ => rfl, fun a ha => ⟨(q a ha).1.elim (fun z => .inl (S.fr0 z)) fun ⟨hi, z⟩ => gI hi z, fun z => (q a ha).2 (.inl z)⟩⟩
  · obtain ⟨w, hw, h2, r, q⟩ := S2.io i o e
    rw [outG_lt (lt (by rw [e]; exact fun z => nomatch z))]
    exact ⟨w, hw, h2, r.move st fun _ _ => rfl, fun a ha => (q a ha).elim (fun z => .inl (S.fr0 z)) fun ⟨hi, z⟩ => gI hi z⟩
  · rw [outG_lt (by omega)]; exact S2.off i n1 n2 n3
  · rw [hl] at hi
    rcases cs z with ⟨_, z⟩ | ⟨_, z⟩ | ⟨_, z⟩
    · omega
    · obtain ⟨p1, p2, p3⟩ := S.pd _ (Nat.le_refl _) a z
      exact ⟨by rw [S.waits S2 (Nat.le_refl _) z]; exact p1, p2, p3⟩
    · obtain ⟨p1, p2, p3⟩ := S2.pd (i - 1) (by omega) a z
      exact ⟨p1, S.fr0 p2, fun z => p3 (.inl z)⟩
  · rcases cs h1 with ⟨a1, b1⟩ | ⟨a1, b1⟩ | ⟨a1, b1⟩ <;> rcases cs h2 with ⟨a2, b2⟩ | ⟨a2, b2⟩ | ⟨a2, b2⟩
    · exact S2.disj _ _ a b1 b2
    · exact absurd (fre2 b1) (nw (Nat.le_refl _) b2)
    · have := S2.disj _ _ a b1 b2; omega
    · exact absurd (fre2 b2) (nw (Nat.le_refl _) b1)
    · rw [a1, a2]
    · exact absurd (fre2 b2) (nw (Nat.le_refl _) b1)
    · have := S2.disj _ _ a b1 b2; omega
    · exact absurd (fre2 b1) (nw (Nat.le_refl _) b2)
    · have := S2.disj _ _ a b1 b2; omega
  · by_cases q : j < σ.length
    · rw [outG_lt q]; exact S2.nd j
    · by_cases q2 : j = σ.length
      · subst q2; rw [outG_n]; exact S.nd _
      · rw [outG_gt (by omega)]; exact S2.nd _
  · refine S2.kept b o (S.kept b o e m) fun ⟨i, hi, z⟩ => ?_
    rcases (S.gi hi z).1 with q | q
    · rw [e] at q; cases q
    · exact m q
/-- the step as a whole -/
theorem SR.outStep (S : SR K cl F env G σ H) {G2 : Nat → List Addr} {H2 : Hp} (zn : ∀ a, ZZ F.Zc (outG σ.length G G2) a → ZZ (F.inn σ.length G H).Zc G2 a)
    (st : Step H (ZZ (F.inn σ.length G H).Zc (below σ.length G)) H2 (ZZ (F.inn σ.length G H).Zc G2)) : Step H (ZZ F.Zc G) H2 (ZZ F.Zc (outG σ.length G G2)) :=
  ((Step.same (fun _ _ e => e) fun a z => (inn_zone a).mp z).trans st).trans (.same (fun _ _ e => e) zn)

/-! ### a comprehension's names -/
def wipeT (env : Env) : List Nat → Env
  | [] => env
  | i :: r => setS (wipeT env r) i .un
theorem wipeT_len {own : List Nat} : (wipeT env own).length = env.length := by
  induction own with
  | nil => rfl
  | cons i r ih => show (setS _ _ _).length = _; rw [setS_len, ih]
theorem wipeT_in : ∀ {own : List Nat} {i : Nat}, i ∈ own → getS (wipeT env own) i = .un
  | j :: r, i, h => by
    show getS (setS (wipeT env r) j .un) i = .un
    by_cases q : i = j
    · subst q
      unfold getS setS
      by_cases l : i < (wipeT env r).length
      · rw [List.getElem?_set_self l]; rfl
      · rw [List.getElem?_eq_none (by rw [List.length_set]; omega)]; rfl
    · rw [getS_ne q]
      exact wipeT_in ((List.mem_cons.mp h).resolve_left q)
theorem wipeT_out : ∀ {own : List Nat} {i : Nat}, i ∉ own → getS (wipeT env own) i = getS env i
  | [], i, h => rfl
  | j :: r, i, h => by
    show getS (setS (wipeT env r) j .un) i = _
    rw [getS_ne (fun z => h (by simp [z]))]
    exact wipeT_out fun z => h (List.mem_cons_of_mem _ z)
/-- the slot owns nothing -/
def plain : Slot → Prop
  | .un => True
  | .shr _ => True
  | _ => False
theorem wipeE_T : ∀ {own : List Nat} {e : Env}, wipeE env own = some e → e = wipeT env own ∧ ∀ i ∈ own, plain (getS env i)
  | [], e, h => by cases h; exact ⟨rfl, fun i h => nomatch h⟩
  | j :: r, e, h => by
    simp only [wipeE, Option.bind_eq_some_iff] at h
    obtain ⟨e1, h1, h2⟩ := h
    obtain ⟨rfl, hp⟩ := wipeE_T h1
    have key : e = setS (wipeT env r) j .un ∧ plain (getS env j) := by
      split at h2
      · rename_i d q; cases h2; exact ⟨rfl, by rw [q]; trivial⟩
      · rename_i q; cases h2; exact ⟨rfl, by rw [q]; trivial⟩
      · cases h2
    refine ⟨key.1, fun i hi => ?_⟩
    by_cases m : i ∈ r
    · exact hp i m
    · have : i = j := (List.mem_cons.mp hi).resolve_right m
      subst this
      exact key.2
theorem wipeL : ∀ {own : List Nat}, (wipe σ own).length = σ.length := fun {own} => wipe_length σ own
theorem wipe_out : ∀ {own : List Nat} {i : Nat}, i ∉ own → (wipe σ own)[i]? = σ[i]?
  | [], i, h => rfl
  | j :: r, i, h => by
    show ((wipe σ r).set j none)[i]? = _
    rw [List.getElem?_set_ne (fun z => h (by simp [z]))]
    exact wipe_out fun z => h (List.mem_cons_of_mem _ z)
theorem wipe_in : ∀ {own : List Nat} {i : Nat}, i ∈ own → i < σ.length → (wipe σ own)[i]? = some none
  | j :: r, i, h, l => by
    show ((wipe σ r).set j none)[i]? = _
    by_cases q : i = j
    · subst q; exact List.getElem?_set_self (by rw [wipeL]; exact l)
    · rw [List.getElem?_set_ne (Ne.symm q)]
      exact wipe_in ((List.mem_cons.mp h).resolve_left q) l
theorem wipe_eq {own : List Nat} (hl : σ.length = σ'.length) (h : ∀ i, i ∉ own → σ[i]? = σ'[i]?) : wipe σ own = wipe σ' own := by
  refine List.ext_getElem? fun i => ?_
  by_cases m : i ∈ own
  · by_cases l : i < σ.length
    · rw [wipe_in m l, wipe_in m (by omega)]
    · rw [List.getElem?_eq_none (by rw [wipeL]; omega), List.getElem?_eq_none (by rw [wipeL]; omega)]
  · rw [wipe_out m, wipe_out m]; exact h i m
theorem SR.wiped (S : SR K cl F env G σ H) {own : List Nat} (hp : ∀ i ∈ own, plain (getS env i)) : SR K cl F (wipeT env own) G (wipe σ own) H := by
  have nin : ∀ {i}, getS (wipeT env own) i ≠ .un → i ∉ own ∧ getS (wipeT env own) i = getS env i := fun {i} h => by
    have : i ∉ own := fun z => h (wipeT_in z)
    exact ⟨this, wipeT_out this⟩
  refine ⟨by rw [wipeT_len, wipeL]; exact S.len, fun i d e => ?_, fun i o e => ?_, fun i o e => ?_, fun i ns e => ?_, fun i n1 n2 n3 => ?_, fun i hi => S.pd i (by rw [wipeL] at hi; exact hi), S.disj, S.nd, S.dom, S.zc, S.kept, S.dom0, fun i a h => by rw [wipeL]; exact S.mil i a h⟩
  · obtain ⟨m, q⟩ := nin (by rw [e]; exact fun z => nomatch z)
    rw [q] at e
    rw [wipe_out m]; exact S.shr i d e
  · obtain ⟨m, q⟩ := nin (by rw [e]; exact fun z => nomatch z)
    rw [q] at e
    rw [wipe_out m]; exact S.own i o e
  · obtain ⟨m, q⟩ := nin (by rw [e]; exact fun z => nomatch z)
    rw [q] at e
    rw [wipe_out m]; exact S.io i o e
  · obtain ⟨m, q⟩ := nin (by rw [e]; exact fun z => nomatch z)
    rw [q] at e
    rw [wipe_out m]; exact S.scr i ns e
  · rw [wipeL] at n3
    by_cases m : i ∈ own
    · have := hp i m
      refine S.off i (fun o z => ?_) (fun o z => ?_) n3 <;> (rw [z] at this; exact this)
    · rw [wipeT_out m] at n1 n2
      exact S.off i n1 n2 n3
theorem backE_len : ∀ {own : List Nat}, (backE env env' own).length = env.length
  | [] => rfl
  | i :: r => by show (setS _ _ _).length = _; rw [setS_len, backE_len]
theorem backE_out : ∀ {own : List Nat} {i : Nat}, i ∉ own → getS (backE env env' own) i = getS env i
  | [], i, h => rfl
  | j :: r, i, h => by
    show getS (setS (backE env env' r) j _) i = _
    rw [getS_ne (fun z => h (by simp [z]))]
    exact backE_out fun z => h (List.mem_cons_of_mem _ z)
theorem backE_in : ∀ {own : List Nat} {i : Nat}, i ∈ own → i < env.length → getS (backE env env' own) i = getS env' i
  | j :: r, i, h, l => by
    show getS (setS (backE env env' r) j _) i = _
    by_cases q : i = j
    · subst q; exact getS_set (by rw [backE_len]; exact l)
    · rw [getS_ne q]
      exact backE_in ((List.mem_cons.mp h).resolve_left q) l
theorem SR.back {env1 : Env} {G1 : Nat → List Addr} {H1 : Hp} {own : List Nat} (S1 : SR K cl F env1 G1 σ H1) (hp : ∀ i ∈ own, plain (getS env1 i)) (S : SR K cl F (wipeT env own) G (wipe σ own) H) (st : Step H1 (ZZ F.Zc G1) H (ZZ F.Zc G)) :
    SR K cl F (backE env env1 own) G σ H := by
  have el : env.length = σ.length := by have := S.len; rwa [wipeT_len, wipeL] at this
  have cs : ∀ i s, getS (backE env env1 own) i = s → s ≠ .un → (i ∈ own ∧ getS env1 i = s) ∨ (i ∉ own ∧ getS (wipeT env own) i = s) := fun i s e n => by
    by_cases m : i ∈ own
    · by_cases l : i < env.length
      · rw [backE_in m l] at e; exact .inl ⟨m, e⟩
      · have : getS (backE env env1 own) i = .un := by unfold getS; rw [List.getElem?_eq_none (by rw [backE_len]; omega)]; rfl
        rw [this] at e; exact absurd e.symm n
    · rw [backE_out m] at e; exact .inr ⟨m, by rw [wipeT_out m]; exact e⟩
  refine ⟨by rw [backE_len]; exact el, fun i d e => ?_, fun i o e => ?_, fun i o e => ?_, fun i ns e => ?_, fun i n1 n2 n3 => ?_, fun i hi => S.pd i (by rw [wipeL]; exact hi), S.disj, S.nd, S.dom, S.zc, S.kept, S.dom0, fun i a h => by have := S.mil i a h; rwa [wipeL] at this⟩
  · rcases cs i _ e (fun z => nomatch z) with ⟨m, q⟩ | ⟨m, q⟩
    · obtain ⟨w, hw, r⟩ := S1.shr i d q; exact ⟨w, hw, r.step st⟩
    · obtain ⟨w, hw, r⟩ := S.shr i d q; rw [wipe_out m] at hw; exact ⟨w, hw, r⟩
  · rcases cs i _ e (fun z => nomatch z) with ⟨m, q⟩ | ⟨m, q⟩
    · have := hp i m; rw [q] at this; exact this.elim
    · have := S.own i o q; rwa [wipe_out m] at this
  · rcases cs i _ e (fun z => nomatch z) with ⟨m, q⟩ | ⟨m, q⟩
    · have := hp i m; rw [q] at this; exact this.elim
    · have := S.io i o q; rwa [wipe_out m] at this
  · rcases cs i _ e (fun z => nomatch z) with ⟨m, q⟩ | ⟨m, q⟩
    · have := hp i m; rw [q] at this; exact this.elim
    · have := S.scr i ns q; rwa [wipe_out m] at this
  · by_cases m : i ∈ own
    · refine S.off i (fun o z => ?_) (fun o z => ?_) (by rw [wipeL]; exact n3) <;> (rw [wipeT_in m] at z; cases z)
    · rw [backE_out m] at n1 n2
      exact S.off i (by rw [wipeT_out m]; exact n1) (by rw [wipeT_out m]; exact n2) (by rw [wipeL]; exact n3)
end
end VL

set_option Elab.async false
set_option linter.all false
set_option maxRecDepth 100000
set_option maxHeartbeats 2000000
/-! VL: targets, sources, comprehensions. -/
namespace VL
open PySem L2
open PyProof PyProof.Rows
/-- what an iterator hands out: a value, or a pair just made -/
def YRep (K : PySem.W.Frag) (H : Hp) (Z : AddrS) (v : V) (d : PyData) : Prop := Rep K H Z v d ∨ ∃ p xs ds, v = .ref p ∧ d = .tuple ds ∧ SqT K H p xs ∧ RepAll K H Z xs ds
def TRep (t : Tg) (K : PySem.W.Frag) (H : Hp) (Z : AddrS) (v : V) (d : PyData) : Prop := match t with
  | .tp _ => YRep K H Z v d
  | _ => Rep K H Z v d
section
variable {X : Cx} {cl : ClsT} {k : Nat} {c : Sc}
/-! ### targets -/
def rdG (K : PySem.W.Frag) (cl : ClsT) (t : Tg) : TG := fun v σ H Q => ∃ F G env d env', SR K cl F env G σ H ∧ TRep t K H (Zf F G) v d ∧ putTg t d env = some env' ∧
  ∀ σ' H' G', SR K cl F env' G' σ' H' → Step H (Zf F G) H' (Zf F G') → σ'.length = σ.length → (∀ i, i ∉ tgIx t → σ'[i]? = σ[i]?) → Q σ' H'
def rdGs (K : PySem.W.Frag) (cl : ClsT) (t : List Tg) : TGs := fun vs σ H Q => ∃ F G env d env', SR K cl F env G σ H ∧ RepAll K H (Zf F G) vs d ∧ putTgs t d env = some env' ∧
  ∀ σ' H' G', SR K cl F env' G' σ' H' → Step H (Zf F G) H' (Zf F G') → σ'.length = σ.length → (∀ i, i ∉ tgIxs t → σ'[i]? = σ[i]?) → Q σ' H'
theorem PG.imp {tg : Expr} {t t' : TG} (h : PG X tg t) (i : ∀ v σ H Q, t' v σ H Q → t v σ H Q) : PG X tg t' := ⟨fun pins s σ H v u Q I r q => h.run pins s σ H v u Q I r (i v σ H Q q)⟩
theorem PGs.imp {tg : List Expr} {t t' : TGs} (h : PGs X tg t) (i : ∀ v σ H Q, t' v σ H Q → t v σ H Q) : PGs X tg t' := ⟨fun pins s σ H v u Q I r q => h.run pins s σ H v u Q I r (i v σ H Q q)⟩
theorem freeS_ok {env : Env} {i : Nat} (h : (decide (i < env.length) && freeS (getS env i)) = true) : i < env.length ∧ (∀ o, getS env i ≠ .io o) ∧ ∀ o, getS env i ≠ .scr o := by
  simp only [Bool.and_eq_true, decide_eq_true_eq] at h
  refine ⟨h.1, fun o e => ?_, fun o e => ?_⟩ <;> (rw [e] at h; exact absurd h.2 (by simp [freeS]))
theorem putFl_look {f : Str} {v : Fld} : ∀ {gs : List (Str × Fld)}, (putFl f v gs).length ≤ gs.length + 1
  | [] => by simp [putFl]
  | (g, x) :: r => by
    unfold putFl
    split
    · simp
    · simp only [List.length_cons]; have := @putFl_look f v r; omega
/-- a field is stored: l the addresses that the new field owns -/
theorem RFlds.put {K : PySem.W.Frag} {H : Hp} {Z : AddrS} {f : Str} {v : V} {x : Fld} {l0 : List Addr} (r : RFld K H Z v x l0) : ∀ {fs : List (Str × V)} {gs : List (Str × Fld)} {l : List Addr}, RFlds K H Z fs gs l → l.Nodup → l0.Nodup → (∀ a ∈ l0, a ∉ l) →
    ∃ l', RFlds K H Z (putF f v fs) (putFl f x gs) l' ∧ l'.Nodup ∧ (∀ a ∈ l', a ∈ l ∨ a ∈ l0)
  | _, _, _, .nil, _, n0, _ => ⟨l0 ++ [], .cons r .nil, by simpa using n0, fun a h => .inr (by simpa using h)⟩
  | _, _, _, @RFlds.cons _ _ _ g w y fr gr l1 m a b, nd, n0, dj => by
    rw [show putF f v ((g, w) :: fr) = (if g = f then (g, v) :: fr else (g, w) :: putF f v fr) from rfl, show putFl f x ((g, y) :: gr) = (if g = f then (g, x) :: gr else (g, y) :: putFl f x gr) from rfl]
    obtain ⟨n1, n2, n3⟩ := List.nodup_append.mp nd
    by_cases e : g = f
    · rw [if_pos e, if_pos e]
      exact ⟨l0 ++ m, .cons r b, List.nodup_append.mpr ⟨n0, n2, fun a ha b hb z => dj a ha (by rw [z]; exact List.mem_append_right _ hb)⟩, fun a h => (List.mem_append.mp h).elim .inr fun z => .inl (List.mem_append_right _ z)⟩
    · rw [if_neg e, if_neg e]
      obtain ⟨l', q1, q2, q3⟩ := RFlds.put (f := f) r b n2 n0 fun a ha z => dj a ha (List.mem_append_right _ z)
      refine ⟨l1 ++ l', .cons a q1, List.nodup_append.mpr ⟨n1, q2, fun a ha b hb z => ?_⟩, fun a h => (List.mem_append.mp h).elim (fun z => .inl (List.mem_append_left _ z)) fun z => (q3 a z).imp (List.mem_append_right _) id⟩
      subst z
      rcases q3 a hb with z | z
      · exact n3 a ha a z rfl
      · exact dj a z (List.mem_append_left _ ha)
theorem length_putF' (f : Str) (v : V) : ∀ fs : List (Str × V), (putF f v fs).length ≤ fs.length + 1
  | [] => by simp [putF]
  | (g, x) :: r => by
    rw [show putF f v ((g, x) :: r) = (if g = f then (g, v) :: r else (g, x) :: putF f v r) from rfl]
    split
    · simp
    · simp only [List.length_cons]; have := length_putF' f v r; omega
theorem RFlds.len {K : PySem.W.Frag} {H : Hp} {Z : AddrS} : ∀ {fs : List (Str × V)} {gs : List (Str × Fld)} {l : List Addr}, RFlds K H Z fs gs l → fs.length = gs.length
  | _, _, _, .nil => rfl
  | _, _, _, .cons a b => by simp [RFlds.len b]
/-- an object's field takes a value -/
theorem SR.putD {K : PySem.W.Frag} {F : FP} {env : Env} {G : Nat → List Addr} {σ : L2.St} {H : Hp} (S : SR K cl F env G σ H) {i : Nat} {c : Str} {fs : List (Str × Fld)} {v : V} {d : PyData} {f : Str} (h : fldsOf (getS env i) = some (c, fs)) (hl : fs.length < 100) (r : Rep K H (Zf F G) v d) :
    ∃ a C dx gs G', σ[i]? = some (some (.ref a)) ∧ cl c = some C ∧ H a = some (.ins C dx gs) ∧ gs.length < 1000 ∧ SR K cl F (putO env i (.obj c (putFl f (.d d) fs))) G' σ (upd H a (.ins C dx (putF f v gs))) ∧ Step H (Zf F G) (upd H a (.ins C dx (putF f v gs))) (Zf F G') := by
  obtain ⟨hh, a, C, dx, gs, l, hs, hc, ha, hle, rf, hg⟩ := S.objAt h
  have za : ZZ F.Zc G a := .inr ⟨i, by rw [hg]; simp⟩
  have nd := S.nd i
  rw [hg] at nd
  obtain ⟨na, nl⟩ := List.nodup_cons.mp nd
  obtain ⟨l', rf', nl', sub'⟩ := RFlds.put (f := f) (.d r) rf nl .nil (fun _ h => nomatch h)
  have sub'' : ∀ b ∈ l', b ∈ l := fun b hb => (sub' b hb).elim id fun z => nomatch z
  have ne : ∀ b ∈ l', b ≠ a := fun b hb z => na (by rw [← z]; exact sub'' b hb)
  have ch : Chg H (G i) (upd H a (.ins C dx (putF f v gs))) (a :: l') := by
    refine ⟨fun b n _ => upd_ne fun z => n (by rw [z, hg]; simp), (Step.put za).dom, fun b hb => ?_, List.nodup_cons.mpr ⟨fun z => ne a z rfl, nl'⟩, fun b hb => .inl ?_⟩
    · by_cases z : b = a
      · rw [z, upd_same]; trivial
      · rw [upd_ne z]; exact S.mut (.inr ⟨i, hb⟩)
    · rw [hg]
      rcases List.mem_cons.mp hb with z | z
      · rw [z]; simp
      · exact List.mem_cons_of_mem _ (sub'' b z)
  have st := S.chgStep ch
  have le := rf.len
  refine ⟨a, C, dx, gs, _, hs, hc, ha, by omega, S.chg (v := .ref a) hh hs ch (.obj hc upd_same ?_ (rf'.move st fun b hb => upd_ne (ne b hb))), st⟩
  have := length_putF' f v gs
  omega
theorem setAttr_pg {i : Nat} {x f : Str} {p pos : Pos} {T : Tb} (co : COk T X cl) (hf : f ∈ T.fl) (hN : X.N[i]? = some x) (hv : Vis X.env.scope x) (hd : (x == ("__debug__" : Str)) = false) (hcd : (x == ("__classdict__" : Str)) = false) :
    PG X (.Attribute (.Name x p) f pos) (rdG X.K cl (.fl i f)) := by
  refine ⟨fun pins s σ H v u Q I r ⟨F, G, env, d, env', S, rep, e, q⟩ => ?_⟩
  simp only [putTg] at e
  split at e
  · rename_i cn fs hfs
    split at e
    · rename_i hl
      cases e
      obtain ⟨a, C, dx, gs, G', hs, hc, ha, hgl, S', st⟩ := S.putD (f := f) hfs hl rep
      refine PySem.W.kas_attr (thn ((pe_var hN hv hd hcd).run pins s σ H (fun y H1 => y = .ref a ∧ H1 = H) I ⟨_, hs, rfl, rfl⟩) fun ov s1 ⟨y, H1, I1, ry, e1, e2⟩ => ?_)
      subst e1 e2
      cases ry
      exact setattr_ok I1 ha (co.cls _ _ hc).1 ((co.cls _ _ hc).2 f hf) hgl r fun s2 I2 => ⟨σ, _, I2, q σ _ G' S' st rfl fun _ _ => rfl⟩
    · cases e
  · cases e
theorem tgs_facts {T : Tb} (env : PySem.Env) : ∀ {l : List Tg} {es : List Expr}, mTgs T c l es = true → es.length = l.length ∧ (assignEach es env).length = es.length ∧ (assignEach es env).findIdx? (·.1) = none
  | [], [], _ => ⟨rfl, rfl, rfl⟩
  | [], _ :: _, h => by simp [mTgs] at h
  | _ :: _, [], h => by simp [mTgs] at h
  | t :: l, e :: es, h => by
    simp only [mTgs, Bool.and_eq_true] at h
    obtain ⟨h1, h2, h3⟩ := tgs_facts env h.2
    have he : assignEach (e :: es) env = (false, assign e env) :: assignEach es env := by
      cases e <;> first | rfl | (cases t <;> simp [mTg] at h)
    rw [he]
    refine ⟨by simp [h1], by simp [h2], ?_⟩
    rw [List.findIdx?_cons]
    simp [h3]
theorem putTgs_len : ∀ {l : List Tg} {ds : List PyData} {env env' : Env}, putTgs l ds env = some env' → ds.length = l.length
  | [], [], _, _, _ => rfl
  | [], _ :: _, _, _, h => by simp [putTgs] at h
  | _ :: _, [], _, _, h => by simp [putTgs] at h
  | t :: l, d :: ds, env, env', h => by
    simp only [putTgs, Option.bind_eq_some_iff] at h
    obtain ⟨e, _, h2⟩ := h
    simp [putTgs_len h2]
mutual
theorem c_tg {T : Tb} (hX : XOk k X) (S : SCOk c X) (co : COk T X cl) : ∀ (t : Tg) (e : Expr), mTg T c t e = true → PG X e (rdG X.K cl t)
  | .fl i f, e, h => by
    cases e with
    | Attribute o g pos =>
      cases o with
      | Name x p =>
        simp only [mTg, Bool.and_eq_true, decide_eq_true_eq] at h
        obtain ⟨⟨h1, rfl⟩, h3⟩ := h
        obtain ⟨a1, a2, a3, a4⟩ := visB_ok S h1
        exact setAttr_pg co h3 a1 a2 a3 a4
      | _ => simp [mTg] at h
    | _ => simp [mTg] at h
  | .nm i, e, h => by
    cases e with
    | Name x pos =>
      simp only [mTg] at h
      obtain ⟨h1, h2, h3⟩ := locB_ok S h
      refine PG.imp (pg_name hX.nd h1 h2 h3) fun v σ H Q ⟨F, G, env, d, env', SS, rep, e, q⟩ => ?_
      simp only [putTg] at e
      split at e
      · rename_i hfr
        cases e
        obtain ⟨f1, f2, f3⟩ := freeS_ok hfr
        obtain ⟨S', st⟩ := SS.asg rep f1 f2 f3
        refine q _ H _ S' st (by rw [List.length_set]) fun j hj => List.getElem?_set_ne fun z => hj (by subst z; simp [tgIx])
      · cases e
    | _ => simp [mTg] at h
  | .tp l, e, h => by
    cases e with
    | Tuple es kk pos =>
      simp only [mTg] at h
      obtain ⟨h1, h2, h3⟩ := tgs_facts X.env h
      refine PG.imp (pg_tup hX.calm (c_tgs hX S co l es h) h2 h3) fun v σ H Q ⟨F, G, env, d, env', SS, rep, e, q⟩ => ?_
      have key : ∃ p xs ds, v = .ref p ∧ d = .tuple ds ∧ SqT X.K H p xs ∧ RepAll X.K H (Zf F G) xs ds := by
        rcases rep with rep | rep
        · cases d with
          | tuple ds => cases rep with | tup a b => exact ⟨_, _, _, rfl, rfl, a.sq, b⟩
          | _ => simp [putTg] at e
        · exact rep
      obtain ⟨p, xs, ds, rfl, rfl, sq, ra⟩ := key
      simp only [putTg] at e
      refine ⟨p, xs, rfl, sq, ?_, F, G, env, ds, env', SS, ra, e, fun σ' H' G' S' st hl hs => q σ' H' G' S' st hl fun i hi => hs i (by simpa [tgIx] using hi)⟩
      rw [ra.length, putTgs_len e, h1]
    | _ => simp [mTg] at h
theorem c_tgs {T : Tb} (hX : XOk k X) (S : SCOk c X) (co : COk T X cl) : ∀ (t : List Tg) (e : List Expr), mTgs T c t e = true → PGs X e (rdGs X.K cl t)
  | [], e, h => by
    cases e with
    | nil =>
      refine PGs.imp pgs_nil fun v σ H Q ⟨F, G, env, d, env', SS, rep, e, q⟩ => ?_
      cases d with
      | nil =>
        cases rep
        simp only [putTgs, Option.some.injEq] at e
        subst e
        exact ⟨rfl, q σ H G SS .refl rfl fun _ _ => rfl⟩
      | cons _ _ => simp [putTgs] at e
    | cons _ _ => simp [mTgs] at h
  | t :: l, e, h => by
    cases e with
    | nil => simp [mTgs] at h
    | cons e es =>
      simp only [mTgs, Bool.and_eq_true] at h
      have he : (assignEach (e :: es) X.env).map (·.2) = assign e X.env :: (assignEach es X.env).map (·.2) := by
        have h1 := h.1
        cases e <;> first | rfl | (cases t <;> simp [mTg] at h1)
      refine PGs.imp (pgs_cons (c_tg hX S co t e h.1) (c_tgs hX S co l es h.2) he) fun vs σ H Q ⟨F, G, env, d, env', SS, rep, e, q⟩ => ?_
      cases d with
      | nil => simp [putTgs] at e
      | cons d ds =>
        simp only [putTgs, Option.bind_eq_some_iff] at e
        obtain ⟨env1, e1, e2⟩ := e
        cases rep with
        | cons a b =>
          refine ⟨_, _, rfl, F, G, env, d, env1, SS, by cases t <;> first | exact a | exact .inl a, e1, fun σ1 H1 G1 S1 st1 hl1 hs1 => ?_⟩
          refine ⟨F, G1, env1, ds, env', S1, b.step st1, e2, fun σ2 H2 G2 S2 st2 hl2 hs2 => ?_⟩
          exact q σ2 H2 G2 S2 (st1.trans st2) (hl2.trans hl1) fun i hi => (hs2 i fun z => hi (by simp [tgIxs, z])).trans (hs1 i fun z => hi (by simp [tgIxs, z]))
end

/-! ### sources -/
def pairOk (b : Bool) (K : PySem.W.Frag) (H : Hp) (Z : AddrS) (v : V) (d : PyData) : Prop := if b then YRep K H Z v d else Rep K H Z v d
def ItOk (b : Bool) (K : PySem.W.Frag) (J : It) (H : Hp) (Z : AddrS) (ds : List PyData) : Prop :=
  ∀ H2 Z2, Step H Z H2 Z2 → J.stop ds.length H2 ∧ ∀ i d, ds[i]? = some d → J.go i H2 ∧ ∀ x H3, J.yld i H2 x H3 → Ext H2 H3 ∧ pairOk b K H3 Z2 x d
def rdI (b : Bool) (K : PySem.W.Frag) (cl : ClsT) (ev : Env → Option (List PyData × Env)) : TI := fun σ H R => ∃ F G env ds env', SR K cl F env G σ H ∧ ev env = some (ds, env') ∧
  ∀ J H' G', SR K cl F env' G' σ H' → Step H (Zf F G) H' (Zf F G') → ItOk b K J H' (Zf F G') ds → R J H'
theorem PI.imp {tg e : Expr} {t t' : TI} (h : PI X tg e t) (i : ∀ σ H Q, t' σ H Q → t σ H Q) : PI X tg e t' := ⟨fun pins s σ H Q I q => h.run pins s σ H Q I (i σ H Q q)⟩
/-- a list or tuple that is read, out of Z -/
def SqZ (K : PySem.W.Frag) (H : Hp) (Z : AddrS) : SK → Addr → List V → Prop
  | .L, a, xs => RL H Z a xs
  | .T, a, xs => RT K H Z a xs
theorem SqZ.sq {K : PySem.W.Frag} {H : Hp} {Z : AddrS} {k : SK} {a : Addr} {xs : List V} (h : SqZ K H Z k a xs) : SqS K H k a xs := by
  cases k with
  | L => exact RL.sq h
  | T => exact RT.sq h
theorem SqZ.step {K : PySem.W.Frag} {H H' : Hp} {Z Z' : AddrS} {k : SK} {a : Addr} {xs : List V} (h : SqZ K H Z k a xs) (s : Step H Z H' Z') : SqZ K H' Z' k a xs := by
  cases k with
  | L => exact RL.step h s
  | T => exact RT.step h s
theorem rep_sqz {K : PySem.W.Frag} {H : Hp} {Z : AddrS} {v : V} {d : PyData} {ds : List PyData} (r : Rep K H Z v d) (e : seqD d = some ds) : ∃ k p xs, v = .ref p ∧ SqZ K H Z k p xs ∧ RepAll K H Z xs ds := by
  cases d <;> simp [seqD] at e
  · subst e; cases r with | lst a b => exact ⟨.L, _, _, rfl, a, b⟩
  · subst e; cases r with | tup a b => exact ⟨.T, _, _, rfl, a, b⟩
theorem ItSq_ok {K : PySem.W.Frag} {H : Hp} {Z : AddrS} {k : SK} {a : Addr} {xs : List V} {ds : List PyData} (h : SqZ K H Z k a xs) (r : RepAll K H Z xs ds) : ItOk false K (ItSq K k a) H Z ds := fun H2 Z2 st => by
  have h2 := (h.step st).sq
  have r2 := r.step st
  have hl := r.length
  refine ⟨?_, fun i d e => ?_⟩
  · cases k with
    | L => exact ⟨xs, h2, by omega⟩
    | T => exact ⟨xs, h2, by omega⟩
  · obtain ⟨v, hv, rv⟩ := r2.get e
    cases k with
    | L =>
      refine ⟨⟨xs, v, h2, hv⟩, fun x H3 ⟨e1, y⟩ => ?_⟩
      subst e1
      have := y xs h2
      rw [hv] at this; cases this
      exact ⟨.refl, rv⟩
    | T =>
      refine ⟨⟨xs, v, h2, hv⟩, fun x H3 ⟨e1, y⟩ => ?_⟩
      subst e1
      have := y xs h2
      rw [hv] at this; cases this
      exact ⟨.refl, rv⟩
def exf (f : Env → Option (PyData × Env)) (env : Env) : Option (List PyData × Env) := do
  let (d, env) ← f env
  let l ← seqD d
  some (l, env)
theorem i_ex {tg x : Expr} {f : Env → Option (PyData × Env)} (hx : PE X x (rdE X.K cl f)) : PI X tg x (rdI false X.K cl (exf f)) :=
  PI.imp (pi_seq hx) fun σ H R ⟨F, G, env, ds, env', S, e, q⟩ => by
    simp only [exf, Option.bind_eq_bind, Option.bind_eq_some_iff, Prod.exists, Option.some.injEq, Prod.mk.injEq] at e
    obtain ⟨d, env1, e1, l, e2, rfl, rfl⟩ := e
    refine ⟨F, G, env, d, env1, S, e1, fun v H1 G1 S1 st1 r1 => ?_⟩
    obtain ⟨k, p, xs, rfl, sq, ra⟩ := rep_sqz r1 e2
    exact ⟨k, p, xs, rfl, sq.sq, q _ H1 G1 S1 st1 (ItSq_ok sq ra)⟩
theorem Itr_ok {K : PySem.W.Frag} {H : Hp} {Z : AddrS} {a b : Int} {n : Nat} (hn : n = (b - a).toNat) : ItOk false K (Itr a n) H Z ((List.range (b - a).toNat).map fun (k : Nat) => PyData.int (a + k)) := fun H2 Z2 st => by
  subst hn
  refine ⟨by show _ ≤ _; rw [List.length_map, List.length_range]; exact Nat.le_refl _, fun i d e => ?_⟩
  rw [List.getElem?_map] at e
  cases e2 : (List.range (b - a).toNat)[i]? with
  | none => rw [e2] at e; cases e
  | some m =>
    rw [e2] at e
    simp only [Option.map_some, Option.some.injEq] at e
    obtain ⟨h1, h2⟩ := List.getElem?_eq_some_iff.mp e2
    rw [List.length_range] at h1
    rw [List.getElem_range] at h2
    subst h2 e
    refine ⟨h1, fun x H3 ⟨e1, y⟩ => ?_⟩
    subst e1 y
    exact ⟨.refl, .int _⟩
def rgf (f : Env → Option (PyData × Env)) (env : Env) : Option (List PyData × Env) := do
  let (d, env) ← f env
  match d with
  | .int n => (rangeD 0 n).map fun l => (l, env)
  | _ => none
theorem i_range {tg x : Expr} {p pos : Pos} {f : Env → Option (PyData × Env)} (hX : XOk k X) (hg : Gl X "range") (hx : PE X x (rdE X.K cl f)) (hs : starEach [x] X.env = (false, eval x X.env) :: starEach [] X.env) : PI X tg (.Call (.Name "range" p) [x] [] pos) (rdI false X.K cl (rgf f)) :=
  PI.imp (pi_range1 hg (hX.bt _ (by decide)) (pa_one hx hs) hs) fun σ H R ⟨F, G, env, ds, env', S, e, q⟩ => by
    simp only [rgf, Option.bind_eq_bind, Option.bind_eq_some_iff, Prod.exists] at e
    obtain ⟨d, env1, e1, e2⟩ := e
    split at e2
    · rename_i n
      simp only [Option.map_eq_some_iff, Prod.mk.injEq] at e2
      obtain ⟨l, e3, rfl, rfl⟩ := e2
      obtain ⟨ok, rfl⟩ := rangeD_ok e3
      refine ⟨F, G, env, _, env1, S, e1, fun v H1 G1 S1 st1 r1 => ?_⟩
      cases r1
      obtain ⟨o1, o2, o3, o4, _⟩ := ok
      exact ⟨n, rfl, by omega, by omega, q _ H1 G1 S1 st1 (Itr_ok (by omega))⟩
    · cases e2
def rg2f (f g : Env → Option (PyData × Env)) (env : Env) : Option (List PyData × Env) := do
  let (x, env) ← f env
  let (y, env) ← g env
  match x, y with
  | .int a, .int b => (rangeD a b).map fun l => (l, env)
  | _, _ => none
theorem i_range2 {tg x y : Expr} {p pos : Pos} {f g : Env → Option (PyData × Env)} (hX : XOk k X) (hg : Gl X "range") (hx : PE X x (rdE X.K cl f)) (hy : PE X y (rdE X.K cl g)) (hs : starEach [x, y] X.env = (false, eval x X.env) :: starEach [y] X.env) (hs2 : starEach [y] X.env = (false, eval y X.env) :: starEach [] X.env) :
    PI X tg (.Call (.Name "range" p) [x, y] [] pos) (rdI false X.K cl (rg2f f g)) :=
  PI.imp (pi_range2 hg (hX.bt _ (by decide)) (pa_cons hx (pa_one hy hs2) hs) (by rw [hs, hs2]; rfl) hs2) fun σ H R ⟨F, G, env, ds, env', S, e, q⟩ => by
    simp only [rg2f, Option.bind_eq_bind, Option.bind_eq_some_iff, Prod.exists] at e
    obtain ⟨d, env1, e1, d2, env2, e2, e3⟩ := e
    split at e3
    · rename_i a b
      simp only [Option.map_eq_some_iff, Prod.mk.injEq] at e3
      obtain ⟨l, e4, rfl, rfl⟩ := e3
      obtain ⟨ok, rfl⟩ := rangeD_ok e4
      refine ⟨F, G, env, _, env1, S, e1, fun v H1 G1 S1 st1 r1 => ⟨F, G1, env1, _, env2, S1, e2, fun w H2 G2 S2 st2 r2 => ?_⟩⟩
      cases r1
      cases r2
      obtain ⟨o1, o2, o3, o4, _⟩ := ok
      exact ⟨a, b, rfl, ⟨by omega, by omega, by omega, by omega⟩, q _ H2 G2 S2 (st1.trans st2) (Itr_ok rfl)⟩
    · cases e3
theorem pair_rep {K : PySem.W.Frag} {H : Hp} {Z : AddrS} {T : Addr} {x y : V} {dx dy : PyData} (n : H T = none) (rx : Rep K H Z x dx) (ry : Rep K H Z y dy) : YRep K (upd H T (.tup [x, y])) Z (.ref T) (.tuple [dx, dy]) :=
  .inr ⟨T, _, _, rfl, rfl, .inl (.inl upd_same), .cons (rx.step (Step.new n)) (.cons (ry.step (Step.new n)) .nil)⟩
theorem enumD_get {l : List PyData} {i : Nat} {d : PyData} (h : (enumD l)[i]? = some d) : ∃ y, l[i]? = some y ∧ d = .tuple [.int i, y] := by
  unfold enumD at h
  rw [List.getElem?_zipWith] at h
  split at h
  · rename_i a b e1 e2
    cases h
    obtain ⟨h1, h2⟩ := List.getElem?_eq_some_iff.mp e1
    rw [List.getElem_range] at h2
    subst h2
    exact ⟨b, e2, rfl⟩
  · cases h
theorem enumD_len {l : List PyData} : (enumD l).length = l.length := by simp [enumD]
def enf (f : Env → Option (PyData × Env)) (env : Env) : Option (List PyData × Env) := do
  let (d, env) ← f env
  let l ← seqD d
  some (enumD l, env)
theorem i_enum {x : Expr} {p pos tpos : Pos} {elts : List Expr} {kk : Nat} {f : Env → Option (PyData × Env)} (hX : XOk k X) (hg : Gl X "enumerate") (hx : PE X x (rdE X.K cl f)) (hs : starEach [x] X.env = (false, eval x X.env) :: starEach [] X.env) :
    PI X (.Tuple elts kk tpos) (.Call (.Name "enumerate" p) [x] [] pos) (rdI true X.K cl (enf f)) :=
  PI.imp (pi_enumS hg (hX.bt _ (by decide)) (pa_one hx hs) hs) fun σ H R ⟨F, G, env, ds, env', S, e, q⟩ => by
    simp only [enf, Option.bind_eq_bind, Option.bind_eq_some_iff, Prod.exists, Option.some.injEq, Prod.mk.injEq] at e
    obtain ⟨d, env1, e1, l, e2, rfl, rfl⟩ := e
    refine ⟨F, G, env, d, env1, S, e1, fun v H1 G1 S1 st1 r1 => ?_⟩
    obtain ⟨k, p, xs, rfl, sq, ra⟩ := rep_sqz r1 e2
    refine ⟨k, p, xs, rfl, sq.sq, q _ H1 G1 S1 st1 fun H2 Z2 st2 => ⟨⟨xs, (sq.step st2).sq, by rw [enumD_len, ra.length]⟩, fun i d hd => ?_⟩⟩
    obtain ⟨y, hy, rfl⟩ := enumD_get hd
    obtain ⟨w, hw, rw'⟩ := (ra.step st2).get hy
    refine ⟨⟨xs, w, (sq.step st2).sq, hw⟩, fun x H3 ⟨T, x', e1, n, e3, y'⟩ => ?_⟩
    have := y' xs (sq.step st2).sq
    rw [hw] at this; cases this
    subst e1 e3
    exact ⟨.new n, pair_rep n (.int _) rw'⟩
theorem zipD_get {l m : List PyData} {i : Nat} {d : PyData} (h : (zipD l m)[i]? = some d) : ∃ x y, l[i]? = some x ∧ m[i]? = some y ∧ d = .tuple [x, y] := by
  unfold zipD at h
  rw [List.getElem?_zipWith] at h
  split at h
  · rename_i a b e1 e2
    cases h
    exact ⟨a, b, e1, e2, rfl⟩
  · cases h
theorem zipD_len {l m : List PyData} : (zipD l m).length = min l.length m.length := by simp [zipD]
def zpf (f g : Env → Option (PyData × Env)) (env : Env) : Option (List PyData × Env) := do
  let (x, env) ← f env
  let (y, env) ← g env
  let x ← seqD x
  let y ← seqD y
  some (zipD x y, env)
theorem i_zip {x y : Expr} {p pos tpos : Pos} {elts : List Expr} {kk : Nat} {f g : Env → Option (PyData × Env)} (hX : XOk k X) (hg : Gl X "zip") (hx : PE X x (rdE X.K cl f)) (hy : PE X y (rdE X.K cl g)) (hs : starEach [x, y] X.env = (false, eval x X.env) :: starEach [y] X.env) (hs2 : starEach [y] X.env = (false, eval y X.env) :: starEach [] X.env) :
    PI X (.Tuple elts kk tpos) (.Call (.Name "zip" p) [x, y] [] pos) (rdI true X.K cl (zpf f g)) :=
  PI.imp (pi_zipS hg (hX.bt _ (by decide)) (pa_cons hx (pa_one hy hs2) hs) hs (by rw [hs2]; rfl)) fun σ H R ⟨F, G, env, ds, env', S, e, q⟩ => by
    simp only [zpf, Option.bind_eq_bind, Option.bind_eq_some_iff, Prod.exists, Option.some.injEq, Prod.mk.injEq] at e
    obtain ⟨d, env1, e1, d2, env2, e2, l, e3, m, e4, rfl, rfl⟩ := e
    refine ⟨F, G, env, d, env1, S, e1, fun v H1 G1 S1 st1 r1 => ⟨F, G1, env1, d2, env2, S1, e2, fun w H2 G2 S2 st2 r2 => ?_⟩⟩
    obtain ⟨k, p, xs, rfl, sq, ra⟩ := rep_sqz (r1.step st2) e3
    obtain ⟨k2, p2, ys, rfl, sq2, ra2⟩ := rep_sqz r2 e4
    have hl := ra.length
    have hl2 := ra2.length
    refine ⟨k, k2, p, p2, xs, ys, rfl, sq.sq, sq2.sq, q _ H2 G2 S2 (st1.trans st2) fun H3 Z3 st3 => ⟨⟨xs, ys, (sq.step st3).sq, (sq2.step st3).sq, by rw [zipD_len]; omega, by rw [zipD_len]; omega, by rw [zipD_len]; omega⟩, fun i d hd => ?_⟩⟩
    obtain ⟨x1, y1, hx1, hy1, rfl⟩ := zipD_get hd
    obtain ⟨w1, hw1, rw1⟩ := (ra.step st3).get hx1
    obtain ⟨w2, hw2, rw2⟩ := (ra2.step st3).get hy1
    refine ⟨⟨xs, ys, w1, w2, (sq.step st3).sq, (sq2.step st3).sq, hw1, hw2⟩, fun x H4 ⟨T, x', y', e1, n, e3, q1, q2⟩ => ?_⟩
    have t1 := q1 xs (sq.step st3).sq
    have t2 := q2 ys (sq2.step st3).sq
    rw [hw1] at t1; cases t1
    rw [hw2] at t2; cases t2
    subst e1 e3
    exact ⟨.new n, pair_rep n rw1 rw2⟩
end
end VL

set_option Elab.async false
set_option linter.all false
set_option maxRecDepth 100000
set_option maxHeartbeats 2000000
/-! VL: comprehensions. -/
namespace VL
open PySem L2
open PyProof PyProof.Rows
section
variable {K : PySem.W.Frag} {cl : ClsT} {F : FP} {env env' : Env} {G G' : Nat → List Addr} {σ σ' : L2.St} {H H' : Hp}
/-- what is held aside is written -/
theorem SR.putPend (S : SR K cl F env G σ H) {n : Nat} {D : Addr} (hn : σ.length ≤ n) (hD : D ∈ G n) (zs : List V) : SR K cl F env G σ (upd H D (.lst zs)) ∧ Step H (ZZ F.Zc G) (upd H D (.lst zs)) (ZZ F.Zc G) := by
  have st : Step H (ZZ F.Zc G) (upd H D (.lst zs)) (ZZ F.Zc G) := Step.put (.inr ⟨n, hD⟩)
  obtain ⟨_, p2, p3⟩ := S.pd n hn D hD
  have lt : ∀ {i}, getS env i ≠ .un → i < σ.length := fun {i} h => by have := getS_lt h; rw [S.len] at this; exact this
  have ne : ∀ {i a}, i < σ.length → a ∈ G i → a ≠ D := fun {i a} hi ha z => by subst z; have := S.disj _ _ _ ha hD; omega
  have mu : ∀ {a}, Mut (H a) → Mut (upd H D (.lst zs) a) := fun {a} m => by
    by_cases z : a = D
    · rw [z, upd_same]; trivial
    · rw [upd_ne z]; exact m
  refine ⟨⟨S.len, fun i d e => ?_, fun i o e => ?_, fun i o e => ?_, fun i ns e => ?_, S.off, fun i hi a z => ?_, S.disj, S.nd, fun a z => mu (S.dom a z), S.zc, fun b o e m => ?_, fun b m => st.dom b (S.dom0 b m), S.mil⟩, st⟩
  · obtain ⟨w, hw, r⟩ := S.shr i d e; exact ⟨w, hw, r.step st⟩
  · obtain ⟨w, hw, r, q⟩ := S.own i o e
    exact ⟨w, hw, r.move st fun a ha => upd_ne (ne (lt (by rw [e]; exact fun z => nomatch z)) ha), q⟩
  · obtain ⟨w, hw, h2, r, q⟩ := S.io i o e
    exact ⟨w, hw, h2, r.move st fun a ha => upd_ne (ne (lt (by rw [e]; exact fun z => nomatch z)) ha), q⟩
  · obtain ⟨a, h1, r⟩ := S.scr i ns e
    exact ⟨a, h1, r.step (fun p z => S.mut z) st⟩
  · obtain ⟨a1, a2, a3⟩ := S.pd i hi a z
    exact ⟨mu a1, a2, a3⟩
  · have : b ≠ D := fun z => by
      subst z
      rw [e] at p2; cases p2
    rw [upd_ne this]; exact S.kept b o e m
/-- what is held aside becomes the value -/
theorem SR.fromPend (S : SR K cl F env G σ H) {p : Addr} {xs : List V} {ds : List PyData} (hg : G σ.length = [p]) (hp : H p = some (.lst xs)) (r : RepAll K H (ZZ F.Zc G) xs ds) :
    ∃ G', SR K cl F env G' σ H ∧ Step H (ZZ F.Zc G) H (ZZ F.Zc G') ∧ Rep K H (ZZ F.Zc G') (.ref p) (.list ds) ∧ Fr K cl F env σ H (ZZ F.Zc G) H (.ref p) (.list ds) := by
  obtain ⟨S', st⟩ := S.noPend
  refine ⟨_, S', st, .lst ⟨hp, fun z => ?_⟩ (r.step st), G, p, xs, ds, rfl, rfl, S, .refl, hp, r, hg⟩
  rcases z with z | ⟨j, z⟩
  · exact (S.pd _ (Nat.le_refl _) p (by rw [hg]; simp)).2.2 z
  · obtain ⟨h1, h2⟩ := below_sub z
    have := S.disj _ _ p h2 (show p ∈ G σ.length by rw [hg]; simp)
    omega
end
section
variable {X : Cx} {cl : ClsT} {k : Nat} {c : Sc}
def rdC (K : PySem.W.Frag) (cl : ClsT) : Option (Env → Option (Bool × Env)) → TT
  | none => tYes
  | some f => rdT K cl f
def evC (cf : Option (Env → Option (Bool × Env))) (env : Env) : Option (Bool × Env) := match cf with
  | none => some (true, env)
  | some c => c env
theorem rdC_in {K : PySem.W.Frag} {cf : Option (Env → Option (Bool × Env))} {σ : L2.St} {H : Hp} {Q : Bool → Hp → Prop} {F : FP} {G : Nat → List Addr} {env env' : Env} {b : Bool} (S : SR K cl F env G σ H) (e : evC cf env = some (b, env'))
    (q : ∀ H' G', SR K cl F env' G' σ H' → Step H (Zf F G) H' (Zf F G') → Q b H') : rdC K cl cf σ H Q := by
  cases cf with
  | none =>
    simp only [evC, Option.some.injEq, Prod.mk.injEq] at e
    obtain ⟨rfl, rfl⟩ := e
    exact q H G S .refl
  | some f => exact ⟨F, G, env, b, env', S, e, q⟩
theorem compGo_cons {tg : Tg} {own : List Nat} {cf : Option (Env → Option (Bool × Env))} {ef : Env → Option (PyData × Env)} {d : PyData} {ds : List PyData} {env env' : Env} {ys : List PyData} (h : compGo tg own cf ef (d :: ds) env = some (ys, env')) :
    ∃ e1 b e2, (∀ i ∈ own, plain (getS env i)) ∧ putTg tg d (wipeT env own) = some e1 ∧ evC cf e1 = some (b, e2) ∧
      ((b = true ∧ ∃ y e3 zs, ef e2 = some (y, e3) ∧ compGo tg own cf ef ds e3 = some (zs, env') ∧ ys = y :: zs) ∨ (b = false ∧ compGo tg own cf ef ds e2 = some (ys, env'))) := by
  have key : ∃ e0 e1 b e2, wipeE env own = some e0 ∧ putTg tg d e0 = some e1 ∧ evC cf e1 = some (b, e2) ∧ (if b = true then (do
      let (y, env) ← ef e2
      let (ys, env) ← compGo tg own cf ef ds env
      some (y :: ys, env)) else compGo tg own cf ef ds e2) = some (ys, env') := by
    cases cf with
    | none =>
      simp only [compGo, Option.bind_eq_bind, Option.bind_eq_some_iff] at h
      obtain ⟨e0, h0, e1, h1, p, hp, h2⟩ := h
      cases hp
      exact ⟨e0, e1, true, e1, h0, h1, rfl, h2⟩
    | some cf =>
      simp only [compGo, Option.bind_eq_bind, Option.bind_eq_some_iff, Prod.exists] at h
      obtain ⟨e0, h0, e1, h1, b, e2, h2, h3⟩ := h
      exact ⟨e0, e1, b, e2, h0, h1, h2, h3⟩
  obtain ⟨e0, e1, b, e2, h0, h1, h2, h3⟩ := key
  obtain ⟨rfl, hp⟩ := wipeE_T h0
  refine ⟨e1, b, e2, hp, h1, h2, ?_⟩
  cases b with
  | true =>
    simp only [if_true, Option.bind_eq_bind, Option.bind_eq_some_iff, Prod.exists, Option.some.injEq, Prod.mk.injEq] at h3
    obtain ⟨y, e3, h4, zs, e4, h5, rfl, rfl⟩ := h3
    exact .inl ⟨rfl, y, e3, zs, h4, h5, rfl⟩
  | false =>
    simp only [Bool.false_eq_true, if_false] at h3
    exact .inr ⟨rfl, h3⟩
theorem compGo_nil {tg : Tg} {own : List Nat} {cf : Option (Env → Option (Bool × Env))} {ef : Env → Option (PyData × Env)} {env env' : Env} {ys : List PyData} (h : compGo tg own cf ef [] env = some (ys, env')) :
    ys = [] ∧ env' = env ∧ ∀ i ∈ own, plain (getS env i) := by
  simp only [compGo, Option.map_eq_some_iff, Prod.mk.injEq] at h
  obtain ⟨e0, h0, rfl, rfl⟩ := h
  exact ⟨rfl, rfl, (wipeE_T h0).2⟩
theorem compGo_plain {tg : Tg} {own : List Nat} {cf : Option (Env → Option (Bool × Env))} {ef : Env → Option (PyData × Env)} {ds : List PyData} {env env' : Env} {ys : List PyData} (h : compGo tg own cf ef ds env = some (ys, env')) : ∀ i ∈ own, plain (getS env i) := by
  cases ds with
  | nil => exact (compGo_nil h).2.2
  | cons d ds => obtain ⟨_, _, _, hp, _⟩ := compGo_cons h; exact hp
def compf (fs : Env → Option (List PyData × Env)) (tg : Tg) (own : List Nat) (cf : Option (Env → Option (Bool × Env))) (ef : Env → Option (PyData × Env)) (env : Env) : Option (PyData × Env) := do
  let (ds, env) ← fs env
  let (ys, env') ← compGo tg own cf ef ds env
  if ds.length ≤ lineN then some (.list ys, backE env' env own) else none
theorem lc_in {b : Bool} {tg : Tg} {own : List Nat} {cf : Option (Env → Option (Bool × Env))} {ef : Env → Option (PyData × Env)} {fs : Env → Option (List PyData × Env)} (hb : b = true → isTp tg = true) (hown : ∀ i ∈ tgIx tg, i ∈ own) {σ : L2.St} {H : Hp} {Q : VK}
    (h : rdX true X.K cl (compf fs tg own cf ef) σ H Q) : tLc (rdI b X.K cl fs) (rdG X.K cl tg) (rdC X.K cl cf) (rdE X.K cl ef) own σ H Q := by
  obtain ⟨F, G0, env0, dd, envR, S0, e, q⟩ := h
  simp only [compf, Option.bind_eq_bind, Option.bind_eq_some_iff, Prod.exists] at e
  obtain ⟨ds, env1, e1, ys, envE, e2, e3⟩ := e
  split at e3
  · rename_i hds
    simp only [Option.some.injEq, Prod.mk.injEq] at e3
    obtain ⟨rfl, rfl⟩ := e3
    refine ⟨F, G0, env0, ds, env1, S0, e1, fun J H1 G1 S1 st1 ok D hD => ?_⟩
    have wl : (L2.wipe σ own).length = σ.length := wipe_length σ own
    have hp1 := compGo_plain e2
    refine ⟨fun i m H => i ≤ ds.length ∧ m = ds.length - i ∧ ∃ env_i G acc dn rest, SR X.K cl F (wipeT env_i own) G (L2.wipe σ own) H ∧ G σ.length = [D] ∧ (∀ j, σ.length < j → G j = []) ∧ H D = some (.lst acc) ∧
      RepAll X.K H (Zf F G) acc dn ∧ dn.length ≤ i ∧ compGo tg own cf ef (ds.drop i) env_i = some (rest, envE) ∧ dn ++ rest = ys ∧ Step H1 (Zf F G1) H (Zf F G), ⟨ds.length, Nat.zero_le _, rfl, ?_⟩, ?_⟩
    · -- the start
      obtain ⟨Sn, stn⟩ := S1.noPend
      have Sw := Sn.wiped hp1
      obtain ⟨G', S', st', hg, ho⟩ := Sw.pend (p := D) [] hD
      rw [wl] at hg ho
      refine ⟨env1, G', [], [], ys, S', hg, fun j hj => ?_, upd_same, .nil, Nat.zero_le _, by simpa using e2, rfl, stn.trans st'⟩
      rw [ho j (by omega), below_ge (by omega)]
    · rintro i m H2 ⟨hi, rfl, env_i, G, acc, dn, rest, S, hg, ho, hH, ra, hdn, hgo, hys, st⟩
      obtain ⟨stop, items⟩ := ok H2 (Zf F G) st
      by_cases hlt : i < ds.length
      · refine .inr ?_
        have hdi : ds[i]? = some ds[i] := List.getElem?_eq_getElem hlt
        obtain ⟨go, yld⟩ := items i _ hdi
        refine ⟨go, fun H' => i + 1 ≤ ds.length ∧ ∃ env_i G acc dn rest, SR X.K cl F (wipeT env_i own) G (L2.wipe σ own) H' ∧ G σ.length = [D] ∧ (∀ j, σ.length < j → G j = []) ∧ H' D = some (.lst acc) ∧
          RepAll X.K H' (Zf F G) acc dn ∧ dn.length ≤ i + 1 ∧ compGo tg own cf ef (ds.drop (i + 1)) env_i = some (rest, envE) ∧ dn ++ rest = ys ∧ Step H1 (Zf F G1) H' (Zf F G), fun H' ⟨a, z⟩ => ⟨ds.length - (i + 1), by omega, a, rfl, z⟩, fun x H3 hy => ?_⟩
        obtain ⟨ext, pr⟩ := yld x H3 hy
        rw [List.drop_eq_getElem_cons hlt] at hgo
        obtain ⟨e1', bb, e2', hpl, hput, hcf, hrest⟩ := compGo_cons hgo
        have S3 := S.heap ext
        obtain ⟨Si, sti⟩ := S3.inn
        have tr : TRep tg X.K H3 (Zf (F.inn (L2.wipe σ own).length G H3) (below (L2.wipe σ own).length G)) x ds[i] := by
          cases hb' : b with
          | false =>
            rw [hb'] at pr
            have pr : Rep X.K H3 (Zf F G) x ds[i] := pr
            cases tg with
            | tp l => exact .inl (pr.step sti)
            | _ => exact pr.step sti
          | true =>
            rw [hb'] at pr
            have pr : YRep X.K H3 (Zf F G) x ds[i] := pr
            have ht := hb hb'
            cases tg with
            | tp l =>
              rcases pr with pr | ⟨p, xs, ds', a1, a2, a3, a4⟩
              · exact .inl (pr.step sti)
              · exact .inr ⟨p, xs, ds', a1, a2, a3, a4.step sti⟩
            | _ => simp [isTp] at ht
        refine ⟨_, _, _, _, _, Si, tr, hput, fun σ2 H4 G4 S4 st4 hl4 hs4 => ⟨?_, ?_⟩⟩
        · rw [wipe_eq (σ' := L2.wipe σ own) hl4 fun j hj => hs4 j fun z => hj (hown j z)]
          exact wipe_eq wl fun j hj => wipe_out hj
        have hw2 : L2.wipe σ2 own = L2.wipe σ own := by
          rw [wipe_eq (σ' := L2.wipe σ own) hl4 fun j hj => hs4 j fun z => hj (hown j z)]
          exact wipe_eq wl fun j hj => wipe_out hj
        refine rdC_in S4 hcf fun H5 G5 S5 st5 => ?_
        -- the end of a turn
        have fin : ∀ {e3 : Env} {G6 : Nat → List Addr} {H6 : Hp} {zs : List PyData}, SR X.K cl (F.inn (L2.wipe σ own).length G H3) e3 G6 σ2 H6 → Step H3 (Zf (F.inn (L2.wipe σ own).length G H3) (below (L2.wipe σ own).length G)) H6 (Zf (F.inn (L2.wipe σ own).length G H3) G6) →
            compGo tg own cf ef (ds.drop (i + 1)) e3 = some (zs, envE) → ∃ G7, SR X.K cl F e3 G7 σ2 H6 ∧ G7 σ.length = [D] ∧ (∀ j, σ.length < j → G7 j = []) ∧ H6 D = some (.lst acc) ∧ Step H2 (Zf F G) H6 (Zf F G7) ∧ (∀ a, Zf F G7 a → Zf (F.inn (L2.wipe σ own).length G H3) G6 a) := fun {e3 G6 H6 zs} S6 st6 hz => by
          obtain ⟨S6n, st6n⟩ := S6.noPend
          rw [hl4] at S6n st6n
          obtain ⟨So, zn⟩ := S3.out S6n hl4
          refine ⟨_, So, ?_, fun j hj => ?_, ?_, (Ext.step ext).trans (S3.outStep zn (st6.trans st6n)), fun a z => ?_⟩
          · rw [← wl, outG_n, wl]; exact hg
          · rw [outG_gt (by omega), below_ge (by omega)]
          · have := S3.waits S6 (j := σ.length) (a := D) (by omega) (by rw [hg]; simp)
            rw [this]; exact ext _ _ hH
          · rcases zn a z with z | ⟨j, z⟩
            · exact .inl z
            · exact .inr ⟨j, (below_sub z).2⟩
        rcases hrest with ⟨rfl, y, e3, zs, hy3, hgo3, rfl⟩ | ⟨rfl, hgo3⟩
        · simp only [if_true]
          refine ⟨_, _, _, _, _, S5, hy3, fun v H6 G6 S6 st6 rv => ?_⟩
          obtain ⟨G7, S7, hg7, ho7, hD7, st7, zn7⟩ := fin S6 ((st4.trans st5).trans st6) hgo3
          have hlen : acc.length = dn.length := ra.length
          refine ⟨acc, hD7, by rw [lineEq]; omega, by omega, ?_⟩
          obtain ⟨S8, st8⟩ := S7.putPend (n := σ.length) (D := D) (by omega) (by rw [hg7]; simp) (acc ++ [v])
          have S9 := S8.wiped (compGo_plain hgo3)
          rw [hw2] at S9
          refine ⟨e3, G7, acc ++ [v], dn ++ [y], zs, S9, hg7, ho7, upd_same, ?_, by simp; omega, hgo3, by simpa using hys, (st.trans st7).trans st8⟩
          exact (ra.step (st7.trans st8)).append (.cons ((rv.step (Step.same (fun _ _ e => e) zn7)).step st8) .nil)
        · simp only [Bool.false_eq_true, if_false]
          obtain ⟨G7, S7, hg7, ho7, hD7, st7, zn7⟩ := fin S5 (st4.trans st5) hgo3
          have S9 := S7.wiped (compGo_plain hgo3)
          rw [hw2] at S9
          exact ⟨by omega, e2', G7, acc, dn, rest, S9, hg7, ho7, hD7, ra.step st7, by omega, hgo3, hys, st.trans st7⟩
      · -- the end
        have hie : i = ds.length := by omega
        subst hie
        refine .inl ⟨stop, ?_⟩
        rw [List.drop_length] at hgo
        obtain ⟨rfl, rfl, _⟩ := compGo_nil hgo
        rw [List.append_nil] at hys
        subst hys
        have Sb := S1.back hp1 S st
        obtain ⟨G9, S9, st9, rep, fr⟩ := Sb.fromPend hg hH ra
        exact q _ H2 G9 S9 ((st1.trans st).trans st9) rep fun _ => fr.back (st1.trans st)
  · cases e3
end
end VL

set_option Elab.async false
set_option linter.all false
set_option maxRecDepth 100000
set_option maxHeartbeats 2000000
/-! VL: a written dict with text keys, read at once. -/
namespace VL
open PySem L2
open PyProof PyProof.Rows
section
variable {K : PySem.W.Frag} {cl : ClsT} {F : FP} {env env' : Env} {G G' : Nat → List Addr} {σ σ' : L2.St} {H H' : Hp}
/-- what is held aside is written, whatever it is -/
theorem SR.putPendO (S : SR K cl F env G σ H) {n : Nat} {D : Addr} (hn : σ.length ≤ n) (hD : D ∈ G n) (o' : HO) (hm : Mut (some o')) : SR K cl F env G σ (upd H D o') ∧ Step H (ZZ F.Zc G) (upd H D o') (ZZ F.Zc G) := by
  have st : Step H (ZZ F.Zc G) (upd H D o') (ZZ F.Zc G) := Step.put (.inr ⟨n, hD⟩)
  obtain ⟨_, p2, p3⟩ := S.pd n hn D hD
  have lt : ∀ {i}, getS env i ≠ .un → i < σ.length := fun {i} h => by have := getS_lt h; rw [S.len] at this; exact this
  have ne : ∀ {i a}, i < σ.length → a ∈ G i → a ≠ D := fun {i a} hi ha z => by subst z; have := S.disj _ _ _ ha hD; omega
  have mu : ∀ {a}, Mut (H a) → Mut (upd H D o' a) := fun {a} m => by
    by_cases z : a = D
    · rw [z, upd_same]; exact hm
    · rw [upd_ne z]; exact m
  refine ⟨⟨S.len, fun i d e => ?_, fun i o e => ?_, fun i o e => ?_, fun i ns e => ?_, S.off, fun i hi a z => ?_, S.disj, S.nd, fun a z => mu (S.dom a z), S.zc, fun b o e m => ?_, fun b m => st.dom b (S.dom0 b m), S.mil⟩, st⟩
  · obtain ⟨w, hw, r⟩ := S.shr i d e; exact ⟨w, hw, r.step st⟩
  · obtain ⟨w, hw, r, q⟩ := S.own i o e
    exact ⟨w, hw, r.move st fun a ha => upd_ne (ne (lt (by rw [e]; exact fun z => nomatch z)) ha), q⟩
  · obtain ⟨w, hw, h2, r, q⟩ := S.io i o e
    exact ⟨w, hw, h2, r.move st fun a ha => upd_ne (ne (lt (by rw [e]; exact fun z => nomatch z)) ha), q⟩
  · obtain ⟨a, h1, r⟩ := S.scr i ns e
    exact ⟨a, h1, r.step (fun p z => S.mut z) st⟩
  · obtain ⟨a1, a2, a3⟩ := S.pd i hi a z
    exact ⟨mu a1, a2, a3⟩
  · have : b ≠ D := fun z => by
      subst z
      rw [e] at p2; cases p2
    rw [upd_ne this]; exact S.kept b o e m
/-- an expression is evaluated while p is held aside -/
theorem hold_E {ev : Env → Option (PyData × Env)} {d : PyData} {p : Addr} {Q : VK} (S : SR K cl F env G σ H) (hg : G σ.length = [p]) (e : ev env = some (d, env'))
    (q : ∀ v H' G', SR K cl F env' G' σ H' → G' σ.length = [p] → Step H (Zf F G) H' (Zf F G') → Rep K H' (Zf F G') v d → H' p = H p → Q v H') : rdE K cl ev σ H Q := by
  obtain ⟨Si, sti⟩ := S.inn
  refine ⟨_, _, env, d, env', Si, e, fun v H2 G2 S2 st2 r => ?_⟩
  obtain ⟨S2n, st2n⟩ := S2.noPend
  obtain ⟨So, zn⟩ := S.out S2n rfl
  refine q v H2 _ So (by rw [outG_n]; exact hg) (S.outStep zn (st2.trans st2n)) (r.step (Step.same (fun _ _ e => e) fun a z => ?_)) (S.waits S2 (Nat.le_refl _) (by rw [hg]; simp))
  rcases zn a z with z | ⟨j, z⟩
  · exact .inl z
  · exact .inr ⟨j, (below_sub z).2⟩
end
/-- pairs with written keys -/
def PsR (K : PySem.W.Frag) (cl : ClsT) (ks : List Str) (ev : Env → Option (List PyData × Env)) (trs : List (TE × TE)) : Prop :=
  ∀ (σ : L2.St) (H : Hp) (Q : List (V × V) → Hp → Prop) (F : FP) (G : Nat → List Addr) (env : Env) (ds : List PyData) (env' : Env), SR K cl F env G σ H → ev env = some (ds, env') →
    (∀ vs H' G', SR K cl F env' G' σ H' → Step H (Zf F G) H' (Zf F G') → RepAll K H' (Zf F G') vs ds → Q (List.zipWith (fun k v => (V.str k, v)) ks vs) H') → tPairs trs σ H Q
theorem psr_nil {K : PySem.W.Frag} {cl : ClsT} : PsR K cl [] (fun env => some ([], env)) [] := fun σ H Q F G env ds env' S e q => by
  simp only [Option.some.injEq, Prod.mk.injEq] at e
  obtain ⟨rfl, rfl⟩ := e
  exact q [] H G S .refl .nil
theorem psr_cons {K : PySem.W.Frag} {cl : ClsT} {k : Str} {ks : List Str} {fa : Env → Option (PyData × Env)} {fr : Env → Option (List PyData × Env)} {trs : List (TE × TE)} (h : PsR K cl ks fr trs) :
    PsR K cl (k :: ks) (consf false fa fr) ((tC (.str k), rdE K cl fa) :: trs) := fun σ H Q F G env ds env' S e q => by
  simp only [consf, splD, Option.bind_eq_bind, Option.bind_eq_some_iff, Option.some.injEq, Prod.mk.injEq, Prod.exists] at e
  obtain ⟨d, env1, e1, _, rfl, rs, env2, e2, rfl, rfl⟩ := e
  show tC (.str k) σ H _
  refine ⟨F, G, env, d, env1, S, e1, fun v H1 G1 S1 st1 r1 => ?_⟩
  refine h σ H1 _ F G1 env1 rs env2 S1 e2 fun vs H2 G2 S2 st2 r2 => ?_
  exact q (v :: vs) H2 G2 S2 (st1.trans st2) (.cons (r1.step st2) r2)
def dselF (ks : List Str) (fs : Env → Option (List PyData × Env)) (fk : Env → Option (PyData × Env)) (env : Env) : Option (PyData × Env) := do
  let (ds, env) ← fs env
  let (x, env) ← fk env
  let o ← dselD ks ds x
  match o with
  | some d => some (d, env)
  | none => none
def dsorF (ks : List Str) (fs : Env → Option (List PyData × Env)) (fk fd : Env → Option (PyData × Env)) (env : Env) : Option (PyData × Env) := do
  let (ds, env) ← fs env
  let (x, env) ← fk env
  let (y, env) ← fd env
  let o ← dselD ks ds x
  some (o.getD y, env)
theorem ints_rep {K : PySem.W.Frag} {H : Hp} {Z : AddrS} : ∀ {vs : List V} {ds : List PyData}, RepAll K H Z vs ds → intsB ds = true → ∃ is : List Int, vs = is.map V.int ∧ ds = is.map PyData.int
  | _, [], h, _ => by cases h; exact ⟨[], rfl, rfl⟩
  | _, d :: ds, h, hi => by
    simp only [intsB, List.all_cons, Bool.and_eq_true] at hi
    cases h with
    | cons a b =>
      obtain ⟨is, rfl, rfl⟩ := ints_rep b (by simpa [intsB] using hi.2)
      cases d with
      | int i => cases a; exact ⟨i :: is, rfl, rfl⟩
      | _ => simp at hi
def kvsOf (ks : List Str) (is : List Int) : List (Key × V) := List.zipWith (fun k i => (Sum.inr k, V.int i)) ks is
theorem kvs_pairs : ∀ (ks : List Str) (is : List Int), List.zipWith (fun k v => (V.str k, v)) ks (is.map V.int) = (kvsOf ks is).map fun kv => (kV kv.1, kv.2)
  | [], _ => rfl
  | k :: ks, [] => rfl
  | k :: ks, i :: is => by
    have := kvs_pairs ks is
    simp only [kvsOf] at this
    simp only [kvsOf, List.map_cons, List.zipWith_cons_cons, this]
    rfl
theorem kvs_len (ks : List Str) (is : List Int) : (kvsOf ks is).length ≤ ks.length := by
  simp [kvsOf, List.length_zipWith]; omega
/-- what a display of different keys finds -/
theorem merge_find : ∀ (ks : List Str) (is : List Int) (acc : List (Key × V)) (x : Str), ks.Nodup → (∀ k ∈ ks, valV acc (.inr k) = none) → ks.length = is.length →
    valV (mergeK acc (kvsOf ks is)) (.inr x) = match (ks.zip (is.map PyData.int)).lookup x with
      | some (.int i) => some (V.int i)
      | _ => valV acc (.inr x)
  | [], [], acc, x, _, _, _ => rfl
  | [], _ :: _, _, _, _, _, h => by simp at h
  | _ :: _, [], _, _, _, _, h => by simp at h
  | k :: ks, i :: is, acc, x, nd, ha, hl => by
    rw [List.nodup_cons] at nd
    have hk : valV acc (.inr k) = none := ha k (by simp)
    have ih := merge_find ks is (putK acc (.inr k) (.int i)) x nd.2 (fun k' hk' => by
      rw [valV_put]
      have : ¬ (Sum.inr k' : Key) = .inr k := fun z => by cases z; exact nd.1 hk'
      rw [if_neg this]
      exact ha k' (by simp [hk'])) (by simpa using hl)
    have e : mergeK acc (kvsOf (k :: ks) (i :: is)) = mergeK (putK acc (.inr k) (.int i)) (kvsOf ks is) := rfl
    rw [e, ih]
    rw [List.map_cons, List.zip_cons_cons, List.lookup_cons, valV_put]
    by_cases h : x = k
    · subst h
      have nl : (ks.zip (is.map PyData.int)).lookup x = none := by
        rw [List.lookup_eq_none_iff]
        intro p hp
        have := (List.of_mem_zip hp).1
        simp only [bne_iff_ne, ne_eq, beq_eq_false_iff_ne]
        intro z
        exact nd.1 (by rw [z]; exact this)
      rw [nl]
      simp
    · have hb : (x == k) = false := by simp [h]
      have hn : ¬ (Sum.inr x : Key) = .inr k := fun z => h (by cases z; rfl)
      rw [hb, if_neg hn]
theorem lookup_map_int {ks : List Str} {is : List Int} {x : Str} {d : PyData} (h : (ks.zip (is.map PyData.int)).lookup x = some d) : ∃ i, d = .int i := by
  induction ks generalizing is with
  | nil => simp at h
  | cons k ks ih =>
    cases is with
    | nil => simp at h
    | cons i is =>
      rw [List.map_cons, List.zip_cons_cons, List.lookup_cons] at h
      split at h
      · cases h; exact ⟨i, rfl⟩
      · exact ih h
section
variable {X : Cx} {cl : ClsT} {k : Nat}
theorem c_dsel {ks : List Str} {keys : List (Option Expr)} {vals : List Expr} {trs : List (TE × TE)} {ke : Expr} {pos pos2 : Pos} {fs : Env → Option (List PyData × Env)} {fk : Env → Option (PyData × Env)} (hx : XOk k X)
    (pp : PPs X pos keys vals trs) (hall : keys.all (·.isSome) = true) (hl : keys.length = vals.length) (h0 : keys ≠ []) (h15 : keys.length ≤ 15) (pr : PsR X.K cl ks fs trs) (hk : PE X ke (rdE X.K cl fk)) (hs : noSl ke = true) :
    PE X (.Subscript (.Dict keys vals pos) ke pos2) (rdE X.K cl (dselF ks fs fk)) :=
  PE.imp (pe_dget (by have := hx.room.un; omega) (pe_disp pp hall hl h0 h15) hk (plainIx hs)) fun σ H Q ⟨F, G, env, d, env', S, e, q⟩ => by
    simp only [dselF, Option.bind_eq_bind, Option.bind_eq_some_iff, Prod.exists] at e
    obtain ⟨ds, env1, e1, x, env2, e2, o, e3, e4⟩ := e
    cases o with
    | none => cases e4
    | some d' =>
    simp only [Option.some.injEq, Prod.mk.injEq] at e4
    obtain ⟨rfl, rfl⟩ := e4
    cases x <;> simp only [dselD] at e3 <;> try (cases e3; done)
    rename_i x
    split at e3
    · rename_i hc
      simp only [Bool.and_eq_true, decide_eq_true_eq] at hc
      obtain ⟨⟨⟨c1, c2⟩, c3⟩, c4⟩ := hc
      simp only [Option.some.injEq] at e3
      intro p n
      obtain ⟨G1, S1, st1, hg1, _⟩ := S.pendO (p := p) (.dK []) trivial n
      obtain ⟨Si, sti⟩ := S1.inn
      refine pr σ _ _ _ _ env ds env1 Si e1 fun vs H2 G2 S2 st2 ra => ?_
      have hp2 := S1.waits S2 (j := σ.length) (a := p) (Nat.le_refl _) (by rw [hg1]; simp)
      rw [upd_same] at hp2
      obtain ⟨is, rfl, rfl⟩ := ints_rep ra c1
      refine ⟨hp2, kvsOf ks is, kvs_pairs ks is, by have := kvs_len ks is; omega, ?_⟩
      obtain ⟨S2n, st2n⟩ := S2.noPend
      obtain ⟨So, zn⟩ := S1.out S2n rfl
      have hgo : outG σ.length G1 (below σ.length G2) σ.length = [p] := by rw [outG_n]; exact hg1
      have stO := S1.outStep zn (st2.trans st2n)
      obtain ⟨S3, st3⟩ := So.putPendO (n := σ.length) (D := p) (Nat.le_refl _) (by rw [hgo]; simp) (.dK (mergeK [] (kvsOf ks is))) trivial
      refine hold_E S3 hgo e2 fun v H4 G4 S4 hg4 st4 r4 hp4 => ?_
      rw [upd_same] at hp4
      cases r4
      have hf := merge_find ks is [] x c4 (fun _ _ => rfl) (by simpa using c2)
      rw [e3] at hf
      have hd : ∃ i, d' = .int i := by
        obtain ⟨i, hi⟩ := lookup_map_int e3
        exact ⟨i, hi⟩
      obtain ⟨i, rfl⟩ := hd
      simp only at hf
      obtain ⟨S5, st5⟩ := S4.noPend
      refine ⟨p, .int i, rfl, ?_, q (.int i) H4 _ S5 ((((st1.trans stO).trans st3).trans st4).trans st5) (.int i)⟩
      rw [← hf]
      exact DGet.k (k := .inr x) hp4
    · cases e3
theorem c_dsor {ks : List Str} {keys : List (Option Expr)} {vals : List Expr} {trs : List (TE × TE)} {ke de : Expr} {pos ap cp : Pos} {fs : Env → Option (List PyData × Env)} {fk fd : Env → Option (PyData × Env)} (hx : XOk k X)
    (pp : PPs X pos keys vals trs) (hall : keys.all (·.isSome) = true) (hl : keys.length = vals.length) (h0 : keys ≠ []) (h15 : keys.length ≤ 15) (pr : PsR X.K cl ks fs trs) (hk : PE X ke (rdE X.K cl fk)) (hd : PE X de (rdE X.K cl fd)) (m : M2 X (.Dict keys vals pos) "get" ap ke de cp) :
    PE X (.Call (.Attribute (.Dict keys vals pos) "get" ap) [ke, de] [] cp) (rdE X.K cl (dsorF ks fs fk fd)) :=
  PE.imp (pe_dget2 (by have := hx.room.un; omega) (pe_disp pp hall hl h0 h15) hk hd m) fun σ H Q ⟨F, G, env, d, env', S, e, q⟩ => by
    simp only [dsorF, Option.bind_eq_bind, Option.bind_eq_some_iff, Prod.exists, Option.some.injEq, Prod.mk.injEq] at e
    obtain ⟨ds, env1, e1, x, env2, e2, y, env3, e3, o, e4, rfl, rfl⟩ := e
    cases x <;> simp only [dselD] at e4 <;> try (cases e4; done)
    rename_i x
    split at e4
    · rename_i hc
      simp only [Bool.and_eq_true, decide_eq_true_eq] at hc
      obtain ⟨⟨⟨c1, c2⟩, c3⟩, c4⟩ := hc
      simp only [Option.some.injEq] at e4
      intro p n
      obtain ⟨G1, S1, st1, hg1, _⟩ := S.pendO (p := p) (.dK []) trivial n
      obtain ⟨Si, sti⟩ := S1.inn
      refine pr σ _ _ _ _ env ds env1 Si e1 fun vs H2 G2 S2 st2 ra => ?_
      have hp2 := S1.waits S2 (j := σ.length) (a := p) (Nat.le_refl _) (by rw [hg1]; simp)
      rw [upd_same] at hp2
      obtain ⟨is, rfl, rfl⟩ := ints_rep ra c1
      refine ⟨hp2, kvsOf ks is, kvs_pairs ks is, by have := kvs_len ks is; omega, p, rfl, .inl ⟨_, .inl upd_same⟩, ?_⟩
      obtain ⟨S2n, st2n⟩ := S2.noPend
      obtain ⟨So, zn⟩ := S1.out S2n rfl
      have hgo : outG σ.length G1 (below σ.length G2) σ.length = [p] := by rw [outG_n]; exact hg1
      have stO := S1.outStep zn (st2.trans st2n)
      obtain ⟨S3, st3⟩ := So.putPendO (n := σ.length) (D := p) (Nat.le_refl _) (by rw [hgo]; simp) (.dK (mergeK [] (kvsOf ks is))) trivial
      refine hold_E S3 hgo e2 fun v H4 G4 S4 hg4 st4 r4 hp4 => ?_
      rw [upd_same] at hp4
      cases r4
      refine hold_E S4 hg4 e3 fun w H5 G5 S5 hg5 st5 r5 hp5 => ?_
      rw [hp4] at hp5
      have hf := merge_find ks is [] x c4 (fun _ _ => rfl) (by simpa using c2)
      rw [e4] at hf
      obtain ⟨S6, st6⟩ := S5.noPend
      have stt := (((((st1.trans stO).trans st3).trans st4).trans st5).trans st6)
      refine ⟨_, DGet.k (k := .inr x) hp5, ?_⟩
      cases o with
      | none =>
        simp only at hf
        rw [hf]
        exact q w H5 _ S6 stt (r5.step st6)
      | some d' =>
        obtain ⟨i, rfl⟩ := lookup_map_int e4
        simp only at hf
        rw [hf]
        exact q (.int i) H5 _ S6 stt (.int i)
    · cases e4
end
end VL

set_option Elab.async false
set_option linter.all false
set_option maxRecDepth 100000
set_option maxHeartbeats 2000000
/-! VL: what a def promises; calls. -/
namespace VL
open PySem L2
open PyProof PyProof.Rows
def gAt (gs : List (List Addr)) (i : Nat) : List Addr := (gs[i]?).getD []
inductive ArgsOk (K : PySem.W.Frag) (cl : ClsT) (H : Hp) (Z : AddrS) : List V → List AV → List (List Addr) → Prop
  | nil : ArgsOk K cl H Z [] [] []
  | sh {v : V} {d : PyData} {vs : List V} {as : List AV} {gs : List (List Addr)} : Rep K H Z v d → ArgsOk K cl H Z vs as gs → ArgsOk K cl H Z (v :: vs) (.sh d :: as) ([] :: gs)
  | scr {a : Addr} {ns : List Int} {vs : List V} {as : List AV} {gs : List (List Addr)} : Scr K H a (ns.map V.int) → ArgsOk K cl H Z vs as gs → ArgsOk K cl H Z (.ref a :: vs) (.scr ns :: as) ([] :: gs)
  | io {v : V} {o : OV} {g : List Addr} {vs : List V} {as : List AV} {gs : List (List Addr)} : Own K cl H Z v o g → ArgsOk K cl H Z vs as gs → ArgsOk K cl H Z (v :: vs) (.io o :: as) (g :: gs)
structure GsOk (Z : AddrS) (gs : List (List Addr)) : Prop where
  disj : ∀ i j a, a ∈ gAt gs i → a ∈ gAt gs j → i = j
  nd : ∀ i, (gAt gs i).Nodup
  sub : ∀ i a, a ∈ gAt gs i → Z a
inductive IoPost (K : PySem.W.Frag) (cl : ClsT) (H : Hp) (Z : AddrS) (G : Nat → List Addr) : Nat → List V → List AV → List OV → Prop
  | nil {n : Nat} : IoPost K cl H Z G n [] [] []
  | sh {n : Nat} {v : V} {d : PyData} {vs : List V} {as : List AV} {os : List OV} : IoPost K cl H Z G (n + 1) vs as os → IoPost K cl H Z G n (v :: vs) (.sh d :: as) os
  | scr {n : Nat} {v : V} {d : List Int} {vs : List V} {as : List AV} {os : List OV} : IoPost K cl H Z G (n + 1) vs as os → IoPost K cl H Z G n (v :: vs) (.scr d :: as) os
  | io {n : Nat} {v : V} {o o' : OV} {vs : List V} {as : List AV} {os : List OV} : Own K cl H Z v o' (G n) → IoPost K cl H Z G (n + 1) vs as os → IoPost K cl H Z G n (v :: vs) (.io o :: as) (o' :: os)
def Zn (Z : AddrS) (G : Nat → List Addr) (pend : List Addr) : AddrS := fun a => Z a ∨ (∃ i, a ∈ G i) ∨ a ∈ pend
def RetOk (K : PySem.W.Frag) (H H' : Hp) (Z : AddrS) (G : Nat → List Addr) (pend : List Addr) (vs : List V) (v : V) (d : PyData) : Ret → Prop
  | .val => pend = [] ∧ Rep K H' Z v d
  | .self => pend = [] ∧ vs.head? = some v
  | .own => ∃ p xs ds, v = .ref p ∧ d = .list ds ∧ pend = [p] ∧ H' p = some (.lst xs) ∧ RepAll K H' Z xs ds ∧ H p = none ∧ ∀ i, p ∉ G i
structure Post (K : PySem.W.Frag) (cl : ClsT) (ret : Ret) (Z : AddrS) (H : Hp) (vs : List V) (avs : List AV) (gs : List (List Addr)) (v : V) (H' : Hp) (d : PyData) (os : List OV) : Prop where
  keep : ∀ b o, H b = some o → (∀ i, b ∉ gAt gs i) → H' b = some o
  dom : ∀ b, H b ≠ none → H' b ≠ none
  mt : ∀ a, Z a → Mut (H' a)
  ex : ∃ (G : Nat → List Addr) (pend : List Addr), (∀ i j a, a ∈ G i → a ∈ G j → i = j) ∧ (∀ i, (G i).Nodup) ∧ (∀ i a, a ∈ G i → a ∈ gAt gs i ∨ H a = none) ∧
    IoPost K cl H' (Zn Z G pend) G 0 vs avs os ∧ RetOk K H H' (Zn Z G pend) G pend vs v d ret
/-- what a def promises -/
def spC (K : PySem.W.Frag) (cl : ClsT) (C : Calls) (f : Str) (ret : Ret) (pk : List PK) : Sp := fun vs H Q E => ∃ Z avs gs d os, ArgsOk K cl H Z vs avs gs ∧ GsOk Z gs ∧ (∀ a, Z a → Mut (H a)) ∧ okArgs pk avs = true ∧ C f avs = some (d, os) ∧
  ∀ v H', Post K cl ret Z H vs avs gs v H' d os → Q v H'
theorem ArgsOk.len {K : PySem.W.Frag} {cl : ClsT} {H : Hp} {Z : AddrS} : ∀ {vs : List V} {as : List AV} {gs : List (List Addr)}, ArgsOk K cl H Z vs as gs → vs.length = as.length
  | _, _, _, .nil => rfl
  | _, _, _, .sh _ h => by simp [h.len]
  | _, _, _, .scr _ h => by simp [h.len]
  | _, _, _, .io _ h => by simp [h.len]
theorem okArgs_len : ∀ {pk : List PK} {as : List AV}, okArgs pk as = true → pk.length = as.length
  | [], [], _ => rfl
  | [], _ :: _, h => by simp [okArgs] at h
  | p :: r, [], h => by cases p <;> simp [okArgs] at h
  | p :: r, a :: s, h => by
    cases p <;> cases a <;> simp [okArgs] at h <;> simp [okArgs_len h]

/-! ### the caller's side -/
inductive ArgsV (K : PySem.W.Frag) (σ : L2.St) (H : Hp) (Z : AddrS) : List V → List Arg → Prop
  | nil : ArgsV K σ H Z [] []
  | sh {v : V} {d : PyData} {vs : List V} {as : List Arg} : Rep K H Z v d → ArgsV K σ H Z vs as → ArgsV K σ H Z (v :: vs) (.sh d :: as)
  | scr {a : Addr} {ns : List Int} {vs : List V} {as : List Arg} : Scr K H a (ns.map V.int) → ArgsV K σ H Z vs as → ArgsV K σ H Z (.ref a :: vs) (.scr ns :: as)
  | io {v : V} {i : Nat} {vs : List V} {as : List Arg} : σ[i]? = some (some v) → ArgsV K σ H Z vs as → ArgsV K σ H Z (v :: vs) (.io i :: as)
theorem ArgsV.step {K : PySem.W.Frag} {σ : L2.St} {H H' : Hp} {Z Z' : AddrS} (m : ∀ p, Z p → Mut (H p)) (s : Step H Z H' Z') : ∀ {vs : List V} {as : List Arg}, ArgsV K σ H Z vs as → ArgsV K σ H' Z' vs as
  | _, _, .nil => .nil
  | _, _, .sh r h => .sh (r.step s) (h.step m s)
  | _, _, .scr r h => .scr (r.step m s) (h.step m s)
  | _, _, .io r h => .io r (h.step m s)
def gsOf (G : Nat → List Addr) (as : List Arg) : List (List Addr) := as.map fun | .io i => G i | _ => []
def look : List Arg → List OV → Nat → Nat → Option (Nat × OV)
  | [], _, _, _ => none
  | .io i :: as, o :: os, j, n => if i = j then some (n, o) else look as os j (n + 1)
  | .io _ :: _, [], _, _ => none
  | .sh _ :: as, os, j, n => look as os j (n + 1)
  | .scr _ :: as, os, j, n => look as os j (n + 1)
theorem look_at : ∀ {as : List Arg} {os : List OV} {j n m : Nat} {o : OV}, look as os j n = some (m, o) → j ∈ ioIx as ∧ n ≤ m ∧ as[m - n]? = some (.io j)
  | [], _, _, _, _, _, h => by simp [look] at h
  | .io i :: as, [], _, _, _, _, h => by simp [look] at h
  | .io i :: as, o' :: os, j, n, m, o, h => by
    simp only [look] at h
    split at h
    · rename_i e
      simp only [Option.some.injEq, Prod.mk.injEq] at h
      obtain ⟨rfl, rfl⟩ := h
      subst e
      exact ⟨by simp [ioIx], Nat.le_refl _, by simp⟩
    · obtain ⟨h1, h2, h3⟩ := look_at h
      refine ⟨by simp [ioIx, h1], by omega, ?_⟩
      rw [show m - n = (m - (n + 1)) + 1 by omega, List.getElem?_cons_succ]; exact h3
  | .sh d :: as, os, j, n, m, o, h => by
    simp only [look] at h
    obtain ⟨h1, h2, h3⟩ := look_at h
    refine ⟨by simp [ioIx, h1], by omega, ?_⟩
    rw [show m - n = (m - (n + 1)) + 1 by omega, List.getElem?_cons_succ]; exact h3
  | .scr d :: as, os, j, n, m, o, h => by
    simp only [look] at h
    obtain ⟨h1, h2, h3⟩ := look_at h
    refine ⟨by simp [ioIx, h1], by omega, ?_⟩
    rw [show m - n = (m - (n + 1)) + 1 by omega, List.getElem?_cons_succ]; exact h3
theorem look_not : ∀ {as : List Arg} {os : List OV} {j n : Nat}, j ∉ ioIx as → look as os j n = none := fun {as os j n} h => by
  cases e : look as os j n with
  | none => rfl
  | some p => exact absurd (look_at (m := p.1) (o := p.2) e).1 h
theorem gsOf_at {G : Nat → List Addr} {as : List Arg} {m j : Nat} (h : as[m]? = some (.io j)) : gAt (gsOf G as) m = G j := by
  unfold gAt gsOf
  rw [List.getElem?_map, h]; rfl
theorem gsOf_mem {G : Nat → List Addr} {as : List Arg} {m : Nat} {a : Addr} (h : a ∈ gAt (gsOf G as) m) : ∃ j, as[m]? = some (.io j) ∧ a ∈ G j := by
  unfold gAt gsOf at h
  rw [List.getElem?_map] at h
  cases e : as[m]? with
  | none => rw [e] at h; cases h
  | some x =>
    rw [e] at h
    cases x with
    | io j => exact ⟨j, rfl, h⟩
    | _ => cases h
theorem ioIx_at : ∀ {as : List Arg} {m j : Nat}, as[m]? = some (.io j) → j ∈ ioIx as
  | [], m, j, h => by simp at h
  | a :: as, 0, j, h => by simp at h; subst h; simp [ioIx]
  | a :: as, m + 1, j, h => by
    have := ioIx_at (as := as) (m := m) (j := j) (by simpa using h)
    cases a <;> simp [ioIx, this]
theorem nodup_at : ∀ {as : List Arg} {m m' j : Nat}, nodupB (ioIx as) = true → as[m]? = some (.io j) → as[m']? = some (.io j) → m = m'
  | [], m, m', j, _, h, _ => by simp at h
  | a :: as, m, m', j, nd, h, h' => by
    have tl : nodupB (ioIx as) = true := by
      cases a <;> simp [ioIx, nodupB] at nd
      · exact nd
      · exact nd.2
      · exact nd
    cases m with
    | zero =>
      cases m' with
      | zero => rfl
      | succ m' =>
        simp at h; subst h
        have := ioIx_at (as := as) (m := m') (j := j) (by simpa using h')
        simp [ioIx, nodupB] at nd
        exact absurd this nd.1
    | succ m =>
      cases m' with
      | zero =>
        simp at h'; subst h'
        have := ioIx_at (as := as) (m := m) (j := j) (by simpa using h)
        simp [ioIx, nodupB] at nd
        exact absurd this nd.1
      | succ m' => rw [nodup_at (as := as) (m := m) (m' := m') tl (by simpa using h) (by simpa using h')]
theorem holdsB_ok {s : Slot} (h : holdsB s = true) : Holds s := by
  cases s <;> simp [holdsB] at h
  · exact .own _ rfl
  · exact .io _ rfl
theorem argsAt_holds {env : Env} : ∀ {as : List Arg} {avs : List AV}, argsAt env as = some avs → ∀ j ∈ ioIx as, Holds (getS env j)
  | [], _, _, j, hj => by simp [ioIx] at hj
  | .sh d :: as, avs, h, j, hj => by
    simp only [argsAt, Option.map_eq_some_iff] at h
    obtain ⟨l, h1, _⟩ := h
    exact argsAt_holds h1 j (by simpa [ioIx] using hj)
  | .scr d :: as, avs, h, j, hj => by
    simp only [argsAt, Option.map_eq_some_iff] at h
    obtain ⟨l, h1, _⟩ := h
    exact argsAt_holds h1 j (by simpa [ioIx] using hj)
  | .io i :: as, avs, h, j, hj => by
    simp only [argsAt, Option.bind_eq_some_iff] at h
    obtain ⟨l, h1, h2⟩ := h
    simp only [ioIx, List.mem_cons] at hj
    rcases hj with rfl | hj
    · split at h2
      · rename_i o e; exact .own o e
      · rename_i o e; exact .io o e
      · cases h2
    · exact argsAt_holds h1 j hj
theorem back_len : ∀ {as : List Arg} {os : List OV} {env env' : Env}, argsBack env as os = some env' → env'.length = env.length
  | [], [], _, _, h => by simp [argsBack] at h; rw [h]
  | [], _ :: _, _, _, h => by simp [argsBack] at h
  | .sh _ :: as, os, _, _, h => back_len (as := as) (by simpa [argsBack] using h)
  | .scr _ :: as, os, _, _, h => back_len (as := as) (by simpa [argsBack] using h)
  | .io i :: as, [], _, _, h => by simp [argsBack] at h
  | .io i :: as, o :: os, _, _, h => by
    have := back_len (as := as) (by simpa [argsBack] using h)
    rw [this, putO_len]
theorem back_get : ∀ {as : List Arg} {os : List OV} {env env' : Env} (n : Nat), argsBack env as os = some env' → nodupB (ioIx as) = true → ∀ j,
    (look as os j n = none → getS env' j = getS env j) ∧ ∀ m o, look as os j n = some (m, o) → (∀ o0, getS env j = .own o0 → getS env' j = .own o) ∧ ∀ o0, getS env j = .io o0 → getS env' j = .io o
  | [], [], _, _, n, h, _, j => by
    simp [argsBack] at h; subst h
    exact ⟨fun _ => rfl, fun m o h => by simp [look] at h⟩
  | [], _ :: _, _, _, _, h, _, _ => by simp [argsBack] at h
  | .sh _ :: as, os, env, env', n, h, nd, j => by
    simp only [look]
    exact back_get (as := as) (n + 1) (by simpa [argsBack] using h) (by simpa [ioIx] using nd) j
  | .scr _ :: as, os, env, env', n, h, nd, j => by
    simp only [look]
    exact back_get (as := as) (n + 1) (by simpa [argsBack] using h) (by simpa [ioIx] using nd) j
  | .io i :: as, [], _, _, _, h, _, _ => by simp [argsBack] at h
  | .io i :: as, o :: os, env, env', n, h, nd, j => by
    simp only [ioIx, nodupB, Bool.and_eq_true, Bool.not_eq_true', List.contains_eq_mem, decide_eq_false_iff_not] at nd
    obtain ⟨r1, r2⟩ := back_get (as := as) (n + 1) (show argsBack (putO env i o) as os = some env' by simpa [argsBack] using h) nd.2 j
    simp only [look]
    by_cases e : i = j
    · subst e
      rw [if_pos rfl]
      refine ⟨(fun z => nomatch z), fun m o' z => ?_⟩
      cases z
      rw [r1 (look_not nd.1)]
      exact ⟨fun o0 z => putO_own z, fun o0 z => putO_io z⟩
    · rw [if_neg e]
      rw [putO_ne (Ne.symm e)] at r1 r2
      exact ⟨r1, r2⟩
theorem io_look {K : PySem.W.Frag} {cl : ClsT} {σ : L2.St} {H H' : Hp} {Z Z' : AddrS} {G : Nat → List Addr} {env : Env} : ∀ {vs : List V} {as : List Arg} {avs : List AV} {os : List OV} {n j m : Nat} {o : OV}, ArgsV K σ H Z vs as → argsAt env as = some avs → IoPost K cl H' Z' G n vs avs os → look as os j n = some (m, o) →
    ∃ v, σ[j]? = some (some v) ∧ Own K cl H' Z' v o (G m)
  | _, [], _, _, _, _, _, _, _, _, _, h => by simp [look] at h
  | _, .sh _ :: as, _, _, n, j, m, o, .sh _ A, e, P, h => by
    simp only [argsAt, Option.map_eq_some_iff] at e
    obtain ⟨l, e1, rfl⟩ := e
    cases P with
    | sh P => exact io_look A e1 P (by simpa only [look] using h)
  | _, .scr _ :: as, _, _, n, j, m, o, .scr _ A, e, P, h => by
    simp only [argsAt, Option.map_eq_some_iff] at e
    obtain ⟨l, e1, rfl⟩ := e
    cases P with
    | scr P => exact io_look A e1 P (by simpa only [look] using h)
  | _, .io i :: as, avs, os, n, j, m, o, .io hv A, e, P, h => by
    simp only [argsAt, Option.bind_eq_some_iff] at e
    obtain ⟨l, e1, e2⟩ := e
    have key : ∃ o0, avs = .io o0 :: l := by
      split at e2
      · exact ⟨_, (Option.some.inj e2).symm⟩
      · exact ⟨_, (Option.some.inj e2).symm⟩
      · cases e2
    obtain ⟨o0, rfl⟩ := key
    cases P with
    | io ow P =>
      simp only [look] at h
      split at h
      · rename_i q
        simp only [Option.some.injEq, Prod.mk.injEq] at h
        obtain ⟨rfl, rfl⟩ := h
        subst q
        exact ⟨_, hv, ow⟩
      · exact io_look A e1 P h
section
variable {K : PySem.W.Frag} {cl : ClsT} {F : FP} {env env' : Env} {G : Nat → List Addr} {σ : L2.St} {H H' : Hp}
theorem SR.args (S : SR K cl F env G σ H) : ∀ {vs : List V} {as : List Arg} {avs : List AV}, ArgsV K σ H (ZZ F.Zc G) vs as → argsAt env as = some avs → ArgsOk K cl H (ZZ F.Zc G) vs avs (gsOf G as)
  | _, [], _, .nil, e => by simp [argsAt] at e; subst e; exact .nil
  | _, .sh _ :: as, _, .sh r A, e => by
    simp only [argsAt, Option.map_eq_some_iff] at e
    obtain ⟨l, e1, rfl⟩ := e
    exact .sh r (SR.args S A e1)
  | _, .scr _ :: as, _, .scr r A, e => by
    simp only [argsAt, Option.map_eq_some_iff] at e
    obtain ⟨l, e1, rfl⟩ := e
    exact .scr r (SR.args S A e1)
  | _, .io i :: as, _, .io hv A, e => by
    simp only [argsAt, Option.bind_eq_some_iff] at e
    obtain ⟨l, e1, e2⟩ := e
    split at e2
    · rename_i o q
      cases e2
      obtain ⟨w, hw, ow, _⟩ := S.own i o q
      rw [hv] at hw; cases hw
      exact .io ow (SR.args S A e1)
    · rename_i o q
      cases e2
      obtain ⟨w, hw, _, ow, _⟩ := S.io i o q
      rw [hv] at hw; cases hw
      exact .io ow (SR.args S A e1)
    · cases e2
theorem SR.gsOk (S : SR K cl F env G σ H) {as : List Arg} (nd : nodupB (ioIx as) = true) : GsOk (ZZ F.Zc G) (gsOf G as) := by
  refine ⟨fun i j a h1 h2 => ?_, fun i => ?_, fun i a h => ?_⟩
  · obtain ⟨i', e1, q1⟩ := gsOf_mem h1
    obtain ⟨j', e2, q2⟩ := gsOf_mem h2
    have := S.disj _ _ a q1 q2
    subst this
    exact nodup_at nd e1 e2
  · unfold gAt gsOf
    rw [List.getElem?_map]
    cases e : as[i]? with
    | none => exact .nil
    | some x => cases x with
      | io j => exact S.nd j
      | _ => exact .nil
  · obtain ⟨j, _, q⟩ := gsOf_mem h
    exact .inr ⟨j, q⟩
/-- behind a call -/
theorem SR.called (S : SR K cl F env G σ H) (hpd : ∀ j, σ.length ≤ j → G j = []) {vs : List V} {as : List Arg} {avs : List AV} {os : List OV} {v : V} {d : PyData} {ret : Ret} (A : ArgsV K σ H (ZZ F.Zc G) vs as) (e : argsAt env as = some avs) (nd : nodupB (ioIx as) = true)
    (P : Post K cl ret (ZZ F.Zc G) H vs avs (gsOf G as) v H' d os) (hb : argsBack env as os = some env') :
    ∃ G' G'' pend, SR K cl F env' G'' σ H' ∧ Step H (ZZ F.Zc G) H' (ZZ F.Zc G'') ∧ G'' σ.length = pend ∧ (∀ a, ZZ F.Zc G'' a → Zn (ZZ F.Zc G) G' pend a) ∧ RetOk K H H' (Zn (ZZ F.Zc G) G' pend) G' pend vs v d ret := by
  obtain ⟨G', pend, dj, ndp, sub, io, rt⟩ := P.ex
  have hh := argsAt_holds e
  have bg := back_get 0 hb nd
  have bl := back_len hb
  have pf : ∀ a ∈ pend, H a = none ∧ Mut (H' a) ∧ ∀ i, a ∉ G' i := fun a ha => by
    cases ret with
    | val => obtain ⟨rfl, _⟩ := rt; cases ha
    | self => obtain ⟨rfl, _⟩ := rt; cases ha
    | own =>
      obtain ⟨p, xs, ds, _, _, rfl, h1, _, h2, h3⟩ := rt
      rw [List.mem_singleton.mp ha, h1]
      exact ⟨h2, trivial, h3⟩
  let G'' : Nat → List Addr := fun j => match look as os j 0 with
    | some (n, _) => G' n
    | none => if j = σ.length then pend else G j
  have gl : ∀ {j n o}, look as os j 0 = some (n, o) → G'' j = G' n := fun {j n o} h => by show (match look as os j 0 with | some (n, _) => G' n | none => _) = _; rw [h]
  have gn : ∀ {j}, look as os j 0 = none → G'' j = if j = σ.length then pend else G j := fun {j} h => by show (match look as os j 0 with | some (n, _) => G' n | none => _) = _; rw [h]
  have lkg : ∀ {j n o}, look as os j 0 = some (n, o) → gAt (gsOf G as) n = G j ∧ j < σ.length := fun {j n o} h => by
    obtain ⟨h1, _, h3⟩ := look_at h
    refine ⟨gsOf_at h3, ?_⟩
    have := (hh j h1).lt; rw [S.len] at this; exact this
  have lpd : look as os σ.length 0 = none := by
    cases q : look as os σ.length 0 with
    | none => rfl
    | some p => have := (lkg (n := p.1) (o := p.2) q).2; omega
  have cs : ∀ {j a}, a ∈ G'' j → (∃ n o, look as os j 0 = some (n, o) ∧ a ∈ G' n ∧ (a ∈ G j ∨ H a = none)) ∨ (look as os j 0 = none ∧ j = σ.length ∧ a ∈ pend) ∨ (look as os j 0 = none ∧ j ≠ σ.length ∧ a ∈ G j) := fun {j a} h => by
    cases q : look as os j 0 with
    | some p =>
      obtain ⟨n, o⟩ := p
      rw [gl q] at h
      refine .inl ⟨n, o, rfl, h, ?_⟩
      rcases sub n a h with z | z
      · rw [(lkg q).1] at z; exact .inl z
      · exact .inr z
    | none =>
      rw [gn q] at h
      by_cases z : j = σ.length
      · rw [if_pos z] at h; exact .inr (.inl ⟨rfl, z, h⟩)
      · rw [if_neg z] at h; exact .inr (.inr ⟨rfl, z, h⟩)
  have hm : ∀ {a j}, a ∈ G j → H a ≠ none := fun {a j} q => mut_ne (S.mut (.inr ⟨j, q⟩))
  have st : Step H (ZZ F.Zc G) H' (ZZ F.Zc G'') := by
    refine ⟨fun b o e n => ⟨P.keep b o e fun i z => ?_, fun z => ?_⟩, P.dom⟩
    · obtain ⟨j, _, q⟩ := gsOf_mem z; exact n (.inr ⟨j, q⟩)
    · rcases z with z | ⟨j, z⟩
      · exact n (.inl z)
      · rcases cs z with ⟨_, _, _, _, z | z⟩ | ⟨_, _, z⟩ | ⟨_, _, z⟩
        · exact n (.inr ⟨j, z⟩)
        · rw [e] at z; cases z
        · have := (pf b z).1; rw [e] at this; cases this
        · exact n (.inr ⟨j, z⟩)
  have zn : ∀ a, ZZ F.Zc G'' a → Zn (ZZ F.Zc G) G' pend a := fun a z => by
    rcases z with z | ⟨j, z⟩
    · exact .inl (.inl z)
    · rcases cs z with ⟨n, _, _, z, _⟩ | ⟨_, _, z⟩ | ⟨_, _, z⟩
      · exact .inr (.inl ⟨n, z⟩)
      · exact .inr (.inr z)
      · exact .inl (.inr ⟨j, z⟩)
  have stn : Step H' (Zn (ZZ F.Zc G) G' pend) H' (ZZ F.Zc G'') := .same (fun _ _ e => e) zn
  have lt : ∀ {i}, getS env' i ≠ .un → i < σ.length := fun {i} h => by have := getS_lt h; rw [bl, S.len] at this; exact this
  have kp : ∀ {j a}, look as os j 0 = none → a ∈ G j → H' a = H a := fun {j a} q h => by
    cases e1 : H a with
    | none => exact absurd e1 (hm h)
    | some o =>
      refine P.keep a o e1 fun n z => ?_
      obtain ⟨j', q1, q2⟩ := gsOf_mem z
      have := S.disj _ _ a h q2
      subst this
      have hj := ioIx_at q1
      -- j is an io slot, so it is looked up
      have : look as os j 0 ≠ none := by
        have key : ∀ {as : List Arg} {os : List OV} {env env' : Env} {n : Nat}, argsBack env as os = some env' → j ∈ ioIx as → look as os j n ≠ none := by
          intro as
          induction as with
          | nil => intro os env env' n h hj; simp [ioIx] at hj
          | cons x as ih =>
            intro os env env' n h hj
            cases x with
            | sh d => simp only [look]; exact ih (by simpa [argsBack] using h) (by simpa [ioIx] using hj)
            | scr d => simp only [look]; exact ih (by simpa [argsBack] using h) (by simpa [ioIx] using hj)
            | io i =>
              cases os with
              | nil => simp [argsBack] at h
              | cons o os =>
                simp only [look]
                by_cases e : i = j
                · rw [if_pos e]; exact fun z => nomatch z
                · rw [if_neg e]
                  refine ih (by simpa [argsBack] using h) ?_
                  simp only [ioIx, List.mem_cons] at hj
                  exact hj.resolve_left fun z => e z.symm
        exact key hb hj
      exact this q
  refine ⟨G', G'', pend, ⟨by rw [bl]; exact S.len, fun i d e1 => ?_, fun i o e1 => ?_, fun i o e1 => ?_, fun i ns e1 => ?_, fun i n1 n2 n3 => ?_, fun i hi a z => ?_, fun j1 j2 a h1 h2 => ?_, fun j => ?_, fun a z => P.mt a (.inl z), S.zc, fun b o e1 m => ?_, fun b m => P.dom b (S.dom0 b m), S.mil⟩, st, ?_, zn, rt⟩
  · cases q : look as os i 0 with
    | none =>
      rw [(bg i).1 q] at e1
      obtain ⟨w, hw, r⟩ := S.shr i d e1
      exact ⟨w, hw, r.step st⟩
    | some p =>
      obtain ⟨n, o⟩ := p
      have b2 := (bg i).2 n o q
      cases hh i (look_at q).1 with
      | own o0 z => rw [b2.1 o0 z] at e1; cases e1
      | io o0 z => rw [b2.2 o0 z] at e1; cases e1
  · cases q : look as os i 0 with
    | none =>
      rw [(bg i).1 q] at e1
      obtain ⟨w, hw, r, pr⟩ := S.own i o e1
      have ne : i ≠ σ.length := by have := getS_lt (env := env) (i := i) (by rw [e1]; exact fun z => nomatch z); rw [S.len] at this; omega
      have hg : G'' i = G i := by rw [gn q, if_neg ne]
      rw [hg]
      exact ⟨w, hw, r.move st fun a ha => kp q ha, pr⟩
    | some p =>
      obtain ⟨n, o'⟩ := p
      have b2 := (bg i).2 n o' q
      cases hh i (look_at q).1 with
      | own o0 z =>
        rw [b2.1 o0 z] at e1; cases e1
        obtain ⟨w, hw, ow⟩ := io_look A e io q
        obtain ⟨_, _, _, pr⟩ := S.own i o0 z
        rw [gl q]
        refine ⟨w, hw, ow.move stn fun _ _ => rfl, fun a ha => ?_⟩
        rcases sub n a ha with y | y
        · rw [(lkg q).1] at y; exact pr a y
        · exact ⟨.inl (S.fr0 y), fun z => mut_ne (S.dom a z) y⟩
      | io o0 z => rw [b2.2 o0 z] at e1; cases e1
  · cases q : look as os i 0 with
    | none =>
      rw [(bg i).1 q] at e1
      obtain ⟨w, hw, h2, r, pr⟩ := S.io i o e1
      have ne : i ≠ σ.length := by have := getS_lt (env := env) (i := i) (by rw [e1]; exact fun z => nomatch z); rw [S.len] at this; omega
      have hg : G'' i = G i := by rw [gn q, if_neg ne]
      rw [hg]
      exact ⟨w, hw, h2, r.move st fun a ha => kp q ha, pr⟩
    | some p =>
      obtain ⟨n, o'⟩ := p
      have b2 := (bg i).2 n o' q
      cases hh i (look_at q).1 with
      | own o0 z => rw [b2.1 o0 z] at e1; cases e1
      | io o0 z =>
        rw [b2.2 o0 z] at e1; cases e1
        obtain ⟨w, hw, ow⟩ := io_look A e io q
        obtain ⟨w', hw', h2, _, pr⟩ := S.io i o0 z
        rw [hw] at hw'; cases hw'
        rw [gl q]
        refine ⟨w, hw, h2, ow.move stn fun _ _ => rfl, fun a ha => ?_⟩
        rcases sub n a ha with y | y
        · rw [(lkg q).1] at y; exact pr a y
        · exact .inl (S.fr0 y)
  · have q : look as os i 0 = none := by
      cases q : look as os i 0 with
      | none => rfl
      | some p =>
        obtain ⟨n, o⟩ := p
        have b2 := (bg i).2 n o q
        cases hh i (look_at q).1 with
        | own o0 z => rw [b2.1 o0 z] at e1; cases e1
        | io o0 z => rw [b2.2 o0 z] at e1; cases e1
    rw [(bg i).1 q] at e1
    obtain ⟨a, h1, r⟩ := S.scr i ns e1
    exact ⟨a, h1, r.step (fun p z => S.mut z) st⟩
  · cases q : look as os i 0 with
    | none =>
      rw [(bg i).1 q] at n1 n2
      rw [gn q, if_neg (by omega)]; exact S.off i n1 n2 n3
    | some p =>
      obtain ⟨n, o⟩ := p
      have b2 := (bg i).2 n o q
      cases hh i (look_at q).1 with
      | own o0 z => exact absurd (b2.1 o0 z) (n1 o)
      | io o0 z => exact absurd (b2.2 o0 z) (n2 o)
  · rcases cs z with ⟨n, o, q, _⟩ | ⟨_, _, z⟩ | ⟨_, _, z⟩
    · have := (lkg q).2; omega
    · obtain ⟨p1, p2, _⟩ := pf a z
      exact ⟨p2, S.fr0 p1, fun z => mut_ne (S.dom a z) p1⟩
    · rw [hpd i hi] at z; cases z
  · rcases cs h1 with ⟨n, o, q, z1, y1⟩ | ⟨q, e1, z1⟩ | ⟨q, e1, z1⟩ <;> rcases cs h2 with ⟨n', o', q', z2, y2⟩ | ⟨q', e2, z2⟩ | ⟨q', e2, z2⟩
    · have := dj _ _ a z1 z2
      subst this
      have l1 := (look_at q).2.2
      have l2 := (look_at q').2.2
      rw [l1] at l2
      cases l2; rfl
    · exact absurd z1 ((pf a z2).2.2 n)
    · rcases y1 with y1 | y1
      · exact S.disj _ _ a y1 z2
      · exact absurd y1 (hm z2)
    · exact absurd z2 ((pf a z1).2.2 n')
    · rw [e1, e2]
    · exact absurd (pf a z1).1 (hm z2)
    · rcases y2 with y2 | y2
      · exact S.disj _ _ a z1 y2
      · exact absurd y2 (hm z1)
    · exact absurd (pf a z2).1 (hm z1)
    · exact S.disj _ _ a z1 z2
  · cases q : look as os j 0 with
    | some p => obtain ⟨n, o⟩ := p; rw [gl q]; exact ndp n
    | none =>
      rw [gn q]
      by_cases z : j = σ.length
      · rw [if_pos z]
        cases ret with
        | val => obtain ⟨rfl, _⟩ := rt; exact .nil
        | self => obtain ⟨rfl, _⟩ := rt; exact .nil
        | own => obtain ⟨p, _, _, _, _, rfl, _⟩ := rt; simp
      · rw [if_neg z]; exact S.nd j
  · have k := S.kept b o e1 m
    refine P.keep b o k fun n z => ?_
    obtain ⟨j, q1, q2⟩ := gsOf_mem z
    have hj : j < σ.length := by have := (hh j (ioIx_at q1)).lt; rw [S.len] at this; exact this
    rcases (S.gi hj q2).1 with y | y
    · rw [e1] at y; cases y
    · exact m y
  · rw [gn lpd, if_pos rfl]
end
end VL

set_option Elab.async false
set_option linter.all false
set_option maxRecDepth 100000
set_option maxHeartbeats 2000000
/-! VL: calls as expressions. -/
namespace VL
open PySem L2
open PyProof PyProof.Rows
/-- what is known of the defs that may be called here -/
structure FnK (T : Tb) (X : Cx) (cl : ClsT) (j : Nat) (C : Calls) : Prop where
  arg : ∀ f d avs r, T.fn f = some d → C f avs = some r → okArgs d.params avs = true
  fn : ∀ f d, f ∈ T.gl → T.fn f = some d → ∃ a fd ps, FnOk X.prog X.w X.K X.mg X.base CX0 j a fd ps (spC X.K cl C f d.ret d.params) ∧ X.mg f = some (.ref a) ∧ PySem.W.keepIn X.K (.ref a) = true ∧ Binds X.K fd ps [] ∧ (f == ("__debug__" : Str)) = false
  md : ∀ c m d, (c, m) ∈ T.ms → T.fn (c ++ "." ++ m) = some d → ∃ K a fd ps, cl c = some K ∧ L2.Meth X.K K m a ∧ FnOk X.prog X.w X.K X.mg X.base CX0 j a fd ps (spC X.K cl C (c ++ "." ++ m) d.ret d.params) ∧ Binds X.K fd ps []
  mkk : ∀ c d, c ∈ T.cs → T.fn (c ++ ".__init__") = some d → d.ret = .val ∧ ∃ K a fd ps, cl c = some K ∧ Mk X.K K a ∧ FnOk X.prog X.w X.K X.mg X.base CX0 j a fd ps (spC X.K cl C (c ++ ".__init__") d.ret d.params) ∧ X.mg c = some (.ref K) ∧ Binds X.K fd ps [] ∧ (c == ("__debug__" : Str)) = false
section
variable {X : Cx} {cl : ClsT} {k j : Nat} {c : Sc}
/-! ### arguments -/
def rdAs (K : PySem.W.Frag) (cl : ClsT) (ev : Env → Option (List Arg × Env)) : TA := fun σ H Q => ∃ F G env d env', SR K cl F env G σ H ∧ ev env = some (d, env') ∧
  ∀ vs H' G', SR K cl F env' G' σ H' → Step H (Zf F G) H' (Zf F G') → ArgsV K σ H' (Zf F G') vs d → Q vs H'
theorem a_nil : PA X [] (rdAs X.K cl fun env => some ([], env)) := PA.imp pa_nil fun σ H Q ⟨F, G, env, d, env', S, e, q⟩ => by
  simp only [Option.some.injEq, Prod.mk.injEq] at e
  obtain ⟨rfl, rfl⟩ := e
  exact q [] H G S .refl .nil
def ashf (f : Env → Option (PyData × Env)) (fs : Env → Option (List Arg × Env)) (env : Env) : Option (List Arg × Env) := do
  let (d, env) ← f env
  let (as, env) ← fs env
  some (.sh d :: as, env)
theorem a_sh {x : Expr} {xs : List Expr} {f : Env → Option (PyData × Env)} {fs : Env → Option (List Arg × Env)} (hx : PE X x (rdE X.K cl f)) (hs : PA X xs (rdAs X.K cl fs)) (he : starEach (x :: xs) X.env = (false, eval x X.env) :: starEach xs X.env) : PA X (x :: xs) (rdAs X.K cl (ashf f fs)) :=
  PA.imp (pa_cons hx hs he) fun σ H Q ⟨F, G, env, d, env', S, e, q⟩ => by
    simp only [ashf, Option.bind_eq_bind, Option.bind_eq_some_iff, Prod.exists, Option.some.injEq, Prod.mk.injEq] at e
    obtain ⟨a, env1, e1, rs, env2, e2, rfl, rfl⟩ := e
    exact ⟨F, G, env, a, env1, S, e1, fun v H1 G1 S1 st1 r1 => ⟨F, G1, env1, rs, _, S1, e2, fun vs H' G' S' s r => q (v :: vs) H' G' S' (st1.trans s) (.sh (r1.step s) r)⟩⟩
def aiof (i : Nat) (fs : Env → Option (List Arg × Env)) (env : Env) : Option (List Arg × Env) := if holdsB (getS env i) then do
    let (as, env) ← fs env
    some (.io i :: as, env)
  else none
theorem SR.at {K : PySem.W.Frag} {F : FP} {env : Env} {G : Nat → List Addr} {σ : L2.St} {H : Hp} (S : SR K cl F env G σ H) {i : Nat} (h : Holds (getS env i)) : ∃ v, σ[i]? = some (some v) := by
  obtain ⟨v, _, hv, _⟩ := S.holds h
  exact ⟨v, hv⟩
theorem a_io {i : Nat} {x : Str} {p : Pos} {xs : List Expr} {fs : Env → Option (List Arg × Env)} (hN : X.N[i]? = some x) (hv : Vis X.env.scope x) (hd : (x == ("__debug__" : Str)) = false) (hcd : (x == ("__classdict__" : Str)) = false) (hs : PA X xs (rdAs X.K cl fs)) :
    PA X (.Name x p :: xs) (rdAs X.K cl (aiof i fs)) :=
  PA.imp (pa_cons (pe_var hN hv hd hcd) hs rfl) fun σ H Q ⟨F, G, env, d, env', S, e, q⟩ => by
    unfold aiof at e
    split at e
    · rename_i hh
      simp only [Option.bind_eq_bind, Option.bind_eq_some_iff, Prod.exists, Option.some.injEq, Prod.mk.injEq] at e
      obtain ⟨rs, env2, e2, rfl, rfl⟩ := e
      obtain ⟨v, hv⟩ := S.at (holdsB_ok hh)
      exact ⟨v, hv, F, G, env, rs, _, S, e2, fun vs H' G' S' s r => q (v :: vs) H' G' S' s (.io hv r)⟩
    · cases e
def ascf (i : Nat) (fs : Env → Option (List Arg × Env)) (env : Env) : Option (List Arg × Env) := match getS env i with
  | .scr ns => do
    let (as, env) ← fs env
    some (.scr ns :: as, env)
  | _ => none
theorem a_scr {i : Nat} {x : Str} {p : Pos} {xs : List Expr} {fs : Env → Option (List Arg × Env)} (hN : X.N[i]? = some x) (hv : Vis X.env.scope x) (hd : (x == ("__debug__" : Str)) = false) (hcd : (x == ("__classdict__" : Str)) = false) (hs : PA X xs (rdAs X.K cl fs)) :
    PA X (.Name x p :: xs) (rdAs X.K cl (ascf i fs)) :=
  PA.imp (pa_cons (pe_var hN hv hd hcd) hs rfl) fun σ H Q ⟨F, G, env, d, env', S, e, q⟩ => by
    unfold ascf at e
    split at e
    · rename_i ns hh
      simp only [Option.bind_eq_bind, Option.bind_eq_some_iff, Prod.exists, Option.some.injEq, Prod.mk.injEq] at e
      obtain ⟨rs, env2, e2, rfl, rfl⟩ := e
      obtain ⟨a, hv, sc⟩ := S.scr i ns hh
      exact ⟨_, hv, F, G, env, rs, _, S, e2, fun vs H' G' S' s r => q (.ref a :: vs) H' G' S' s (.scr (sc.step (fun p z => S.mut z) s) r)⟩
    · cases e

/-! ### the call itself -/
theorem call_in {K : PySem.W.Frag} {F : FP} {env env2 : Env} {G : Nat → List Addr} {σ : L2.St} {H : Hp} {vs : List V} {as : List Arg} {C : Calls} {f : Str} {ret : Ret} {pk : List PK} {d : PyData} {Q : VK} {E : XK} (S : SR K cl F env G σ H) (A : ArgsV K σ H (Zf F G) vs as) (e : callAt C f as env = some (d, env2))
    (ok : ∀ avs r, C f avs = some r → okArgs pk avs = true)
    (q : ∀ v H' G', SR K cl F env2 G' σ H' → Step H (Zf F G) H' (Zf F G') → (ret = .self → vs.head? = some v) → (ret ≠ .self → Rep K H' (Zf F G') v d) → (ret = .own → isL d = true → Fr K cl F env2 σ H (Zf F G) H' v d) → Q v H') : spC K cl C f ret pk vs H Q E := by
  simp only [callAt, Option.bind_eq_bind, Option.bind_eq_some_iff, Prod.exists, Option.some.injEq, Prod.mk.injEq] at e
  obtain ⟨avs, e1, d', os, e2, env3, e3, rfl, rfl⟩ := e
  unfold argsN at e1
  split at e1
  · rename_i nd
    obtain ⟨S', st'⟩ := S.noPend
    have A' := A.step (fun p z => S.mut z) st'
    refine ⟨_, avs, _, d', os, S'.args A' e1, S'.gsOk nd, fun a z => S'.mut z, ok _ _ e2, e2, fun v H' P => ?_⟩
    obtain ⟨G', G'', pend, S2, st2, hg, zn, rt⟩ := S'.called (fun j hj => below_ge hj) A' e1 nd P e3
    have stn : Step H' (Zn (ZZ F.Zc (below σ.length G)) G' pend) H' (ZZ F.Zc G'') := .same (fun _ _ e => e) zn
    cases ret with
    | val => exact q v H' G'' S2 (st'.trans st2) (fun z => nomatch z) (fun _ => rt.2.step stn) (fun z => nomatch z)
    | self => exact q v H' G'' S2 (st'.trans st2) (fun _ => rt.2) (fun z => absurd rfl z) (fun z => nomatch z)
    | own =>
      obtain ⟨p, xs, ds, rfl, rfl, rfl, hp, ra, _, _⟩ := rt
      obtain ⟨G3, S3, st3, rep, fr⟩ := S2.fromPend hg hp (ra.step stn)
      exact q _ H' G3 S3 ((st'.trans st2).trans st3) (fun z => nomatch z) (fun _ => rep) fun _ _ => fr.back (st'.trans st2)
  · cases e1
def callf (C : Calls) (f : Str) (fs : Env → Option (List Arg × Env)) (env : Env) : Option (PyData × Env) := do
  let (as, env) ← fs env
  callAt C f as env
def isOwn : Ret → Bool
  | .own => true
  | _ => false
theorem call_rd {T : Tb} {C : Calls} {f : Str} {d : Def} {fs : Env → Option (List Arg × Env)} (W : FnK T X cl j C) (hf : T.fn f = some d) (hr : d.ret ≠ .self) {σ : L2.St} {H : Hp} {Q : VK} {E : XK} {t : TA}
    (i : ∀ σ H Q, rdAs X.K cl fs σ H Q → t σ H Q) (h : rdX (isOwn d.ret) X.K cl (callf C f fs) σ H Q) : tCall (spC X.K cl C f d.ret d.params) [] E t σ H Q := by
  obtain ⟨F, G, env, dd, env', S, e, q⟩ := h
  simp only [callf, Option.bind_eq_bind, Option.bind_eq_some_iff, Prod.exists] at e
  obtain ⟨as, env1, e1, e2⟩ := e
  refine i _ _ _ ⟨F, G, env, as, env1, S, e1, fun vs H1 G1 S1 st1 A => ?_⟩
  show spC X.K cl C f d.ret d.params (vs ++ []) H1 Q E
  rw [List.append_nil]
  refine call_in S1 A e2 (fun avs r => W.arg f d avs r hf) fun v H' G' S' st' _ rp fr => q v H' G' S' (st1.trans st') (rp hr) fun z => ?_
  simp only [Bool.and_eq_true] at z
  exact (fr (by cases hh : d.ret <;> rw [hh] at z <;> first | rfl | exact absurd z.1 (by decide)) z.2).back st1
theorem c_call {T : Tb} {C : Calls} {f : Str} {d : Def} {p pos : Pos} {x : Expr} {xs : List Expr} {fs : Env → Option (List Arg × Env)} (hX : XOk (j + 1) X) (W : FnK T X cl j C) (hgl : f ∈ T.gl) (hf : T.fn f = some d) (hr : d.ret ≠ .self) (hg : Gl X f) (ha : PA X (x :: xs) (rdAs X.K cl fs))
    (he : starEach (x :: xs) X.env = (false, eval x X.env) :: starEach xs X.env) (hpl : (backTo pos (starEach xs X.env)).any (·.1) = false) : PE X (.Call (.Name f p) (x :: xs) [] pos) (rdX (isOwn d.ret) X.K cl (callf C f fs)) := by
  obtain ⟨a, fd, ps, F, hm, hk, hb, hdb⟩ := W.fn f d hgl hf
  exact PE.imp (pe_call (E := fun _ _ _ => False) F (hX.room.mono (Nat.le_succ j)) hg hm hk hb .nil pass0 ha hdb he hpl) fun σ H Q h => call_rd W hf hr (fun _ _ _ z => z) h
theorem c_call0 {T : Tb} {C : Calls} {f : Str} {d : Def} {p pos : Pos} (hX : XOk (j + 1) X) (W : FnK T X cl j C) (hgl : f ∈ T.gl) (hf : T.fn f = some d) (hr : d.ret ≠ .self) (hg : Gl X f) : PE X (.Call (.Name f p) [] [] pos) (rdX (isOwn d.ret) X.K cl (callf C f fun env => some ([], env))) := by
  obtain ⟨a, fd, ps, F, hm, hk, hb, hdb⟩ := W.fn f d hgl hf
  refine PE.imp (pe_call0 (E := fun _ _ _ => False) F (hX.room.mono (Nat.le_succ j)) hg hm hk hb .nil pass0 hdb) fun σ H Q h => call_rd W hf hr (fun σ H Q ⟨F, G, env, d, env', S, e, q⟩ => ?_) h
  simp only [Option.some.injEq, Prod.mk.injEq] at e
  obtain ⟨rfl, rfl⟩ := e
  exact q [] H G S .refl .nil
/-- f(pen) that hands back pen -/
def aicf (C : Calls) (f : Str) (i : Nat) (fs : Env → Option (List Arg × Env)) (env : Env) : Option (List Arg × Env) := if holdsB (getS env i) then do
    let (_, env) ← callAt C f [.io i] env
    let (as, env) ← fs env
    some (.io i :: as, env)
  else none
theorem a_ioc {T : Tb} {C : Calls} {f : Str} {d : Def} {i : Nat} {x : Str} {p p2 pos : Pos} {xs : List Expr} {fs : Env → Option (List Arg × Env)} (hX : XOk (j + 1) X) (W : FnK T X cl j C) (hgl : f ∈ T.gl) (hf : T.fn f = some d) (hr : d.ret = .self) (hg : Gl X f)
    (hN : X.N[i]? = some x) (hv : Vis X.env.scope x) (hd : (x == ("__debug__" : Str)) = false) (hcd : (x == ("__classdict__" : Str)) = false) (hs : PA X xs (rdAs X.K cl fs)) :
    PA X (.Call (.Name f p) [.Name x p2] [] pos :: xs) (rdAs X.K cl (aicf C f i fs)) := by
  obtain ⟨a, fd, ps, F, hm, hk, hb, hdb⟩ := W.fn f d hgl hf
  refine PA.imp (pa_cons (pe_call (E := fun _ _ _ => False) F (hX.room.mono (Nat.le_succ j)) hg hm hk hb .nil pass0 (a_io (cl := cl) hN hv hd hcd a_nil) hdb rfl rfl) hs rfl) fun σ H Q ⟨F, G, env, d', env', S, e, q⟩ => ?_
  unfold aicf at e
  split at e
  · rename_i hh
    simp only [Option.bind_eq_bind, Option.bind_eq_some_iff, Prod.exists, Option.some.injEq, Prod.mk.injEq] at e
    obtain ⟨dd, env1, e1, rs, env2, e2, rfl, rfl⟩ := e
    obtain ⟨v0, hv0⟩ := S.at (holdsB_ok hh)
    refine ⟨F, G, env, [.io i], env, S, by simp [aiof, hh], fun vs H1 G1 S1 st1 A => ?_⟩
    show spC X.K cl C f d.ret d.params (vs ++ []) H1 _ _
    rw [List.append_nil]
    refine call_in S1 A e1 (fun avs r => W.arg f d avs r hf) fun v H2 G2 S2 st2 sf _ _ => ?_
    have hv1 : σ[i]? = some (some v) := by
      have := sf hr
      cases A with
      | io h A' =>
        cases A'
        simp at this
        subst this; exact h
    exact ⟨F, G2, env1, rs, _, S2, e2, fun ws H3 G3 S3 st3 r => q (v :: ws) H3 G3 S3 ((st1.trans st2).trans st3) (.io hv1 r)⟩
  · cases e
/-! ### methods -/
def methf (C : Calls) (i : Nat) (k m : Str) (fs : Env → Option (List Arg × Env)) (env : Env) : Option (PyData × Env) := match fldsOf (getS env i) with
  | some (c', gs) => if c' = k ∧ gs.lookup m = none then do
      let (as, env) ← fs env
      callAt C (k ++ "." ++ m) (.io i :: as) env
    else none
  | none => none
theorem RFlds.lookN {K : PySem.W.Frag} {H : Hp} {Z : AddrS} : ∀ {fs : List (Str × V)} {gs : List (Str × Fld)} {l : List Addr} {f : Str}, RFlds K H Z fs gs l → gs.lookup f = none → fs.lookup f = none
  | _, _, _, _, .nil, _ => rfl
  | _, _, _, f, @RFlds.cons _ _ _ f' v x' r s l m a b, h => by
    by_cases e : f = f'
    · subst e; simp [List.lookup] at h
    · have hb : (f == f') = false := beq_eq_false_iff_ne.mpr e
      simp only [List.lookup, hb] at h ⊢
      exact RFlds.lookN b h
theorem meth_rd {T : Tb} {C : Calls} {k m : Str} {d : Def} {i : Nat} {fs : Env → Option (List Arg × Env)} {KC : Addr} (W : FnK T X cl j C) (hf : T.fn (k ++ "." ++ m) = some d) (hr : d.ret ≠ .self) (hc : cl k = some KC) {σ : L2.St} {H : Hp} {Q : VK} {E : XK} {t : TA}
    (it : ∀ σ H Q, rdAs X.K cl fs σ H Q → t σ H Q) (h : rdX (isOwn d.ret) X.K cl (methf C i k m fs) σ H Q) : tMeth KC m (spC X.K cl C (k ++ "." ++ m) d.ret d.params) [] E (fun σ H Q => ∃ v, σ[i]? = some (some v) ∧ Q v H) t σ H Q := by
  obtain ⟨F, G, env, dd, env', S, e, q⟩ := h
  unfold methf at e
  split at e
  · rename_i c' gs hfs
    split at e
    · rename_i hcm
      obtain ⟨rfl, hlk⟩ := hcm
      simp only [Option.bind_eq_bind, Option.bind_eq_some_iff, Prod.exists] at e
      obtain ⟨as, env1, e1, e2⟩ := e
      obtain ⟨_, a, C', dx, gs', l, hs, hcc, ha, hl, rf, hg⟩ := S.objAt hfs
      rw [hc] at hcc; cases hcc
      refine ⟨_, hs, a, dx, gs', rfl, ha, rf.lookN hlk, it _ _ _ ⟨F, G, env, as, env1, S, e1, fun vs H1 G1 S1 st1 A => ?_⟩⟩
      show spC X.K cl C (c' ++ "." ++ m) d.ret d.params (.ref a :: (vs ++ [])) H1 Q E
      rw [List.append_nil]
      refine call_in S1 (.io hs A) e2 (fun avs r => W.arg _ d avs r hf) fun v H' G' S' st' _ rp fr => q v H' G' S' (st1.trans st') (rp hr) fun z => ?_
      simp only [Bool.and_eq_true] at z
      exact (fr (by cases hh : d.ret <;> rw [hh] at z <;> first | rfl | exact absurd z.1 (by decide)) z.2).back st1
    · cases e
  · cases e
theorem mcall_eval {n m : Str} {p ap pos : Pos} {args : List Expr} {env : PySem.Env} (hf : methodCallForm args.length (backTo pos (starEach args env)) (backToKw pos (keywordEach [] env)) = true) (hl : (ap.endLine == pos.line) = true) :
    eval (.Call (.Attribute (.Name n p) m ap) args [] pos) env = (do
      let ov ← eval (.Name n p) env
      standAt ap.atName
      let (f, first) ← holding [ov] (getMethod ov m (plainOf (.Name n p) env))
      callWith pos f first (backTo pos (starEach args env)) (backToKw pos (keywordEach [] env))) := by
  rw [arm_eval_Call, attrE rfl]
  simp only [List.length_nil, Nat.add_zero, mcall_line hf hl]
theorem c_meth {T : Tb} {C : Calls} {i : Nat} {n k m : Str} {d : Def} {p ap pos : Pos} {x : Expr} {xs : List Expr} {fs : Env → Option (List Arg × Env)} (hX : XOk (j + 1) X) (co : COk T X cl) (W : FnK T X cl j C) (hms : (k, m) ∈ T.ms) (hf : T.fn (k ++ "." ++ m) = some d) (hr : d.ret ≠ .self)
    (hN : X.N[i]? = some n) (hv : Vis X.env.scope n) (hd : (n == ("__debug__" : Str)) = false) (hcd : (n == ("__classdict__" : Str)) = false) (ha : PA X (x :: xs) (rdAs X.K cl fs))
    (he : starEach (x :: xs) X.env = (false, eval x X.env) :: starEach xs X.env) (hpl : (backTo pos (starEach xs X.env)).any (·.1) = false) (hfm : methodCallForm (x :: xs).length (backTo pos (starEach (x :: xs) X.env)) (backToKw pos (keywordEach [] X.env)) = true) (hl : (ap.endLine == pos.line) = true) : PE X (.Call (.Attribute (.Name n p) m ap) (x :: xs) [] pos) (rdX (isOwn d.ret) X.K cl (methf C i k m fs)) := by
  obtain ⟨KC, a, fd, ps, hc, hm, F, hb⟩ := W.md k m d hms hf
  exact PE.imp (pe_meth (E := fun _ _ _ => False) (pe_var hN hv hd hcd) (co.cls _ _ hc).1 hm F (hX.room.mono (Nat.le_succ j)) hb .nil pass0 ha he hpl (mcall_eval hfm hl)) fun σ H Q h => meth_rd W hf hr hc (fun _ _ _ z => z) h
theorem c_meth0 {T : Tb} {C : Calls} {i : Nat} {n k m : Str} {d : Def} {p ap pos : Pos} (hX : XOk (j + 1) X) (co : COk T X cl) (W : FnK T X cl j C) (hms : (k, m) ∈ T.ms) (hf : T.fn (k ++ "." ++ m) = some d) (hr : d.ret ≠ .self)
    (hN : X.N[i]? = some n) (hv : Vis X.env.scope n) (hd : (n == ("__debug__" : Str)) = false) (hcd : (n == ("__classdict__" : Str)) = false) (hl : (ap.endLine == pos.line) = true) : PE X (.Call (.Attribute (.Name n p) m ap) [] [] pos) (rdX (isOwn d.ret) X.K cl (methf C i k m fun env => some ([], env))) := by
  obtain ⟨KC, a, fd, ps, hc, hm, F, hb⟩ := W.md k m d hms hf
  refine PE.imp (pe_meth0 (E := fun _ _ _ => False) (pe_var hN hv hd hcd) (co.cls _ _ hc).1 hm F (hX.room.mono (Nat.le_succ j)) hb .nil pass0 (mcall_eval (args := []) rfl hl)) fun σ H Q h => meth_rd W hf hr hc (fun σ H Q ⟨F, G, env, d, env', S, e, q⟩ => ?_) h
  simp only [Option.some.injEq, Prod.mk.injEq] at e
  obtain ⟨rfl, rfl⟩ := e
  exact q [] H G S .refl .nil
/-! ### calls whose arguments are lent -/
def callLf (C : Calls) (f : Str) (fs : Env → Option (List Opv × Env)) (env : Env) : Option (PyData × Env) := do
  let (xs, env) ← fs env
  let xs ← resolveAll env xs
  let (d, os) ← C f (xs.map .sh)
  if immD d && os.isEmpty then some (d, env) else none
mutual
theorem imm_rep {K : PySem.W.Frag} {H : Hp} {Z Z' : AddrS} (m : ∀ a, Z' a → Mut (H a)) : ∀ {d : PyData} {v : V}, immD d = true → Rep K H Z v d → Rep K H Z' v d
  | .none, _, _, h => by cases h; exact .non
  | .bool b, _, _, h => by cases h; exact .bl b
  | .int i, _, _, h => by cases h; exact .int i
  | .str x, _, _, h => by cases h; exact .str x
  | .list ds, _, i, _ => by simp [immD] at i
  | .tuple ds, _, i, h => by
    cases h with
    | tup a b =>
      refine .tup ?_ (imm_reps m (by simpa [immD] using i) b)
      rcases a with ⟨⟨o, hd, e⟩, _⟩ | a
      · refine .inl ⟨⟨o, hd, e⟩, fun z => ?_⟩
        have := m _ z
        rw [e] at this; exact this
      · exact .inr a
  | .dict _, _, _, h => by cases h
theorem imm_reps {K : PySem.W.Frag} {H : Hp} {Z Z' : AddrS} (m : ∀ a, Z' a → Mut (H a)) : ∀ {ds : List PyData} {vs : List V}, immAll ds = true → RepAll K H Z vs ds → RepAll K H Z' vs ds
  | [], _, _, h => by cases h; exact .nil
  | d :: ds, _, i, h => by
    simp only [immAll, Bool.and_eq_true] at i
    cases h with | cons a b => exact .cons (imm_rep m i.1 a) (imm_reps m i.2 b)
end
theorem lent_args {K : PySem.W.Frag} {H : Hp} {Z Z' : AddrS} (sub : ∀ a, Z' a → Z a) : ∀ {vs : List V} {ds : List PyData}, WAll K H Z vs ds → (∀ a, V.ref a ∈ vs → ¬ Z' a) → ArgsOk K cl H Z' vs (ds.map .sh) (ds.map fun _ => [])
  | _, _, .nil, _ => .nil
  | _, _, .cons w ws, h => by
    have st : Step H Z H Z' := .same (fun _ _ e => e) sub
    refine .sh ?_ (lent_args sub ws fun a ha => h a (List.mem_cons_of_mem _ ha))
    cases w with
    | of r => exact r.step st
    | lst e r => exact .lst ⟨e, h _ (by simp)⟩ (r.step st)
theorem gAt_nil {ds : List PyData} {i : Nat} : gAt (ds.map fun _ => ([] : List Addr)) i = [] := by
  unfold gAt
  rw [List.getElem?_map]
  cases ds[i]? <;> rfl
theorem gsNil {Z : AddrS} {ds : List PyData} : GsOk Z (ds.map fun _ => ([] : List Addr)) := by
  refine ⟨fun i j a h => ?_, fun i => ?_, fun i a h => ?_⟩
  · rw [gAt_nil] at h; cases h
  · rw [gAt_nil]; exact .nil
  · rw [gAt_nil] at h; cases h
theorem c_callL {T : Tb} {C : Calls} {f : Str} {d : Def} {p pos : Pos} {x : Expr} {xs : List Expr} {fs : Env → Option (List Opv × Env)} (hX : XOk (j + 1) X) (W : FnK T X cl j C) (hgl : f ∈ T.gl) (hf : T.fn f = some d) (hr : d.ret = .val) (hg : Gl X f) (ha : PA X (x :: xs) (rdOs X.K cl fs))
    (he : starEach (x :: xs) X.env = (false, eval x X.env) :: starEach xs X.env) (hpl : (backTo pos (starEach xs X.env)).any (·.1) = false) : PE X (.Call (.Name f p) (x :: xs) [] pos) (rdE X.K cl (callLf C f fs)) := by
  obtain ⟨a, fd, ps, F, hm, hk, hb, hdb⟩ := W.fn f d hgl hf
  refine PE.imp (pe_call (E := fun _ _ _ => False) F (hX.room.mono (Nat.le_succ j)) hg hm hk hb .nil pass0 ha hdb he hpl) fun σ H Q ⟨F, G, env, dd, env', S, e, q⟩ => ?_
  simp only [callLf, Option.bind_eq_bind, Option.bind_eq_some_iff, Prod.exists] at e
  obtain ⟨os, env1, e1, ds, e2, rd, ro, e3, e4⟩ := e
  split at e4
  · rename_i him
    simp only [Bool.and_eq_true] at him
    simp only [Option.some.injEq, Prod.mk.injEq] at e4
    obtain ⟨rfl, rfl⟩ := e4
    refine ⟨F, G, env, os, env1, S, e1, fun vs H1 G1 S1 st1 r1 => ?_⟩
    show spC X.K cl C f d.ret d.params (vs ++ []) H1 _ _
    rw [List.append_nil]
    have wa := S1.slots e2 r1
    refine ⟨fun a => Zf F G1 a ∧ V.ref a ∉ vs, _, _, rd, ro, lent_args (fun a z => z.1) wa fun a ha z => z.2 ha, gsNil, fun a z => S1.mut z.1, W.arg f d _ _ hf e3, e3, fun v H' P => ?_⟩
    have ext : Ext H1 H' := fun b o e => P.keep b o e fun i z => by rw [gAt_nil] at z; cases z
    have S2 := S1.heap ext
    obtain ⟨G', pend, _, _, _, _, rt⟩ := P.ex
    rw [hr] at rt
    exact q v H' G1 S2 (st1.trans ext.step) (imm_rep (fun a z => S2.mut z) him.1 rt.2)
  · cases e4
end
end VL

set_option Elab.async false
set_option linter.all false
set_option maxRecDepth 100000
set_option maxHeartbeats 2000000
/-! VL: what a name takes: values, new lists, new objects. -/
namespace VL
open PySem L2
open PyProof PyProof.Rows
section
variable {K : PySem.W.Frag} {cl : ClsT} {F : FP} {env env' : Env} {G G' : Nat → List Addr} {σ σ' : L2.St} {H H' : Hp}
/-- what is held aside as one more name -/
theorem SR.ext (S : SR K cl F env G σ H) {v : V} {o : OV} (ow : Own K cl H (ZZ F.Zc G) v o (G σ.length)) : SR K cl F (env ++ [.own o]) G (σ ++ [some v]) H := by
  have gl : ∀ {j}, j ≠ σ.length → getS (env ++ [.own o]) j = getS env j := fun {j} h => by
    have := S.len
    unfold getS
    by_cases q : j < env.length
    · rw [List.getElem?_append_left q]
    · rw [List.getElem?_eq_none (by simp; omega), List.getElem?_eq_none (by omega)]
  have ge : getS (env ++ [.own o]) σ.length = .own o := by
    unfold getS
    rw [← S.len, List.getElem?_append_right (Nat.le_refl _), Nat.sub_self]; rfl
  have sl : ∀ {j}, j ≠ σ.length → ∀ {w : V}, σ[j]? = some (some w) → (σ ++ [some v])[j]? = some (some w) := fun {j} h {w} e => by
    rw [List.getElem?_append_left (List.getElem?_eq_some_iff.mp e).1]; exact e
  have se : (σ ++ [some v])[σ.length]? = some (some v) := by rw [List.getElem?_append_right (Nat.le_refl _), Nat.sub_self]; rfl
  refine ⟨by simp [S.len], fun i d e => ?_, fun i o' e => ?_, fun i o' e => ?_, fun i ns e => ?_, fun i n1 n2 n3 => ?_, fun i hi => S.pd i (by simp at hi; omega), S.disj, S.nd, S.dom, S.zc, S.kept, S.dom0, fun i a h => by have := S.mil i a h; simp; omega⟩
  · by_cases q : i = σ.length
    · subst q; rw [ge] at e; cases e
    · rw [gl q] at e
      obtain ⟨w, hw, r⟩ := S.shr i d e
      exact ⟨w, sl q hw, r⟩
  · by_cases q : i = σ.length
    · subst q; rw [ge] at e; cases e
      exact ⟨v, se, ow, fun a ha => let z := (S.pd _ (Nat.le_refl _) a ha).2; ⟨.inl z.1, z.2⟩⟩
    · rw [gl q] at e
      obtain ⟨w, hw, r⟩ := S.own i o' e
      exact ⟨w, sl q hw, r⟩
  · by_cases q : i = σ.length
    · subst q; rw [ge] at e; cases e
    · rw [gl q] at e
      obtain ⟨w, hw, r⟩ := S.io i o' e
      exact ⟨w, sl q hw, r⟩
  · by_cases q : i = σ.length
    · subst q; rw [ge] at e; cases e
    · rw [gl q] at e
      obtain ⟨a, hw, r⟩ := S.scr i ns e
      exact ⟨a, sl q hw, r⟩
  · by_cases q : i = σ.length
    · subst q; exact absurd ge (n1 o)
    · rw [gl q] at n1 n2
      exact S.off i n1 n2 (by simp at n3; omega)
theorem SR.unext {v : V} {o : OV} (hl : env.length = σ.length) (S : SR K cl F (env ++ [.own o]) G (σ ++ [some v]) H) (mil : ∀ i a, F.mi i a → i < σ.length) : SR K cl F env G σ H ∧ Own K cl H (ZZ F.Zc G) v o (G σ.length) := by
  have gl : ∀ {j}, j < env.length → getS (env ++ [.own o]) j = getS env j := fun {j} h => by
    unfold getS
    rw [List.getElem?_append_left h]
  have ge : getS (env ++ [.own o]) σ.length = .own o := by
    unfold getS
    rw [← hl, List.getElem?_append_right (Nat.le_refl _), Nat.sub_self]; rfl
  have sl : ∀ {j}, j < σ.length → (σ ++ [some v])[j]? = σ[j]? := fun {j} h => List.getElem?_append_left h
  have se : (σ ++ [some v])[σ.length]? = some (some v) := by rw [List.getElem?_append_right (Nat.le_refl _), Nat.sub_self]; rfl
  obtain ⟨w, hw, ow, pr⟩ := S.own _ _ ge
  rw [se] at hw; cases hw
  have lt : ∀ {i s}, getS env i = s → s ≠ .un → i < env.length := fun {i s} e h => getS_lt (by rw [e]; exact h)
  refine ⟨⟨hl, fun i d e => ?_, fun i o' e => ?_, fun i o' e => ?_, fun i ns e => ?_, fun i n1 n2 n3 => ?_, fun i hi a ha => ?_, S.disj, S.nd, S.dom, S.zc, S.kept, S.dom0, mil⟩, ow⟩
  · have q := lt e (fun z => nomatch z)
    have := S.shr i d (by rw [gl q]; exact e)
    rwa [sl (by omega)] at this
  · have q := lt e (fun z => nomatch z)
    have := S.own i o' (by rw [gl q]; exact e)
    rwa [sl (by omega)] at this
  · have q := lt e (fun z => nomatch z)
    have := S.io i o' (by rw [gl q]; exact e)
    rwa [sl (by omega)] at this
  · have q := lt e (fun z => nomatch z)
    have := S.scr i ns (by rw [gl q]; exact e)
    rwa [sl (by omega)] at this
  · have q : i < env.length := by omega
    refine S.off i (by rw [gl q]; exact n1) (by rw [gl q]; exact n2) (by simp; omega)
  · by_cases q : i = σ.length
    · subst q
      obtain ⟨f, z⟩ := pr a ha
      refine ⟨ow.dom a ha, ?_, z⟩
      exact f.elim id fun z => absurd (mil _ _ z) (Nat.lt_irrefl _)
    · exact S.pd i (by simp; omega) a ha
end
/-! ### one more name, and arguments -/
theorem getS_ext {env : Env} {s : Slot} {j : Nat} (h : j < env.length) : getS (env ++ [s]) j = getS env j := by
  unfold getS
  rw [List.getElem?_append_left h]
theorem setS_ext {env : Env} {s s' : Slot} {j : Nat} (h : j < env.length) : setS (env ++ [s]) j s' = setS env j s' ++ [s] := by
  unfold setS
  rw [List.set_append_left _ _ h]
theorem putO_ext {env : Env} {s : Slot} {o : OV} {j : Nat} (h : j < env.length) : putO (env ++ [s]) j o = putO env j o ++ [s] := by
  unfold putO
  rw [getS_ext h]
  split
  · exact setS_ext h
  · exact setS_ext h
  · rfl
theorem putO_last {env : Env} {o o' : OV} : putO (env ++ [.own o]) env.length o' = env ++ [.own o'] := by
  have : getS (env ++ [.own o]) env.length = .own o := by
    unfold getS
    rw [List.getElem?_append_right (Nat.le_refl _), Nat.sub_self]; rfl
  unfold putO
  rw [this]
  unfold setS
  show (env ++ [Slot.own o]).set env.length (Slot.own o') = _
  rw [List.set_append_right _ _ (Nat.le_refl _), Nat.sub_self]; rfl
theorem argsAt_ext {env : Env} {s : Slot} : ∀ {as : List Arg} {avs : List AV}, argsAt env as = some avs → argsAt (env ++ [s]) as = some avs
  | [], _, h => h
  | .sh d :: as, _, h => by
    simp only [argsAt, Option.map_eq_some_iff] at h ⊢
    obtain ⟨l, h1, rfl⟩ := h
    exact ⟨l, argsAt_ext h1, rfl⟩
  | .scr d :: as, _, h => by
    simp only [argsAt, Option.map_eq_some_iff] at h ⊢
    obtain ⟨l, h1, rfl⟩ := h
    exact ⟨l, argsAt_ext h1, rfl⟩
  | .io i :: as, _, h => by
    have hi := (argsAt_holds h i (by simp [ioIx])).lt
    simp only [argsAt, Option.bind_eq_some_iff] at h ⊢
    obtain ⟨l, h1, h2⟩ := h
    exact ⟨l, argsAt_ext h1, by rw [getS_ext hi]; exact h2⟩
theorem back_ext {s : Slot} : ∀ {as : List Arg} {os : List OV} {env env' : Env}, (∀ j ∈ ioIx as, j < env.length) → argsBack env as os = some env' → argsBack (env ++ [s]) as os = some (env' ++ [s])
  | [], [], _, _, _, h => by simp [argsBack] at h ⊢; exact h
  | [], _ :: _, _, _, _, h => by simp [argsBack] at h
  | .sh _ :: as, os, _, _, l, h => by
    simp only [argsBack] at h ⊢
    exact back_ext (fun j hj => l j (by simpa [ioIx] using hj)) h
  | .scr _ :: as, os, _, _, l, h => by
    simp only [argsBack] at h ⊢
    exact back_ext (fun j hj => l j (by simpa [ioIx] using hj)) h
  | .io i :: as, [], _, _, _, h => by simp [argsBack] at h
  | .io i :: as, o :: os, env, env', l, h => by
    simp only [argsBack] at h ⊢
    rw [putO_ext (l i (by simp [ioIx]))]
    exact back_ext (fun j hj => by rw [putO_len]; exact l j (by simp [ioIx, hj])) h
theorem ArgsV.ext {K : PySem.W.Frag} {σ : L2.St} {H : Hp} {Z : AddrS} {s : Option V} : ∀ {vs : List V} {as : List Arg}, ArgsV K σ H Z vs as → ArgsV K (σ ++ [s]) H Z vs as
  | _, _, .nil => .nil
  | _, _, .sh r h => .sh r h.ext
  | _, _, .scr r h => .scr r h.ext
  | _, _, .io r h => .io (by rw [List.getElem?_append_left (List.getElem?_eq_some_iff.mp r).1]; exact r) h.ext

/-! ### what a name takes -/
def VOk (K : PySem.W.Frag) (cl : ClsT) (H : Hp) (Z : AddrS) (g : List Addr) (v : V) : PV → Prop
  | .v d => Rep K H Z v d
  | .o o => Own K cl H Z v o g
def rdV (K : PySem.W.Frag) (cl : ClsT) (ev : Env → Option (PV × Env)) : TE := fun σ H Q => ∃ F G env d env', SR K cl F env G σ H ∧ ev env = some (d, env') ∧
  ∀ v H' G', SR K cl F env' G' σ H' → Step H (Zf F G) H' (Zf F G') → VOk K cl H' (Zf F G') (G' σ.length) v d → Q v H'
section
variable {X : Cx} {cl : ClsT} {k j : Nat} {c : Sc}
theorem v_v {x : Expr} {f : Env → Option (PyData × Env)} (h : PE X x (rdE X.K cl f)) : PE X x (rdV X.K cl fun env => (f env).map fun p => (.v p.1, p.2)) :=
  PE.imp h fun σ H Q ⟨F, G, env, d, env', S, e, q⟩ => by
    simp only [Option.map_eq_some_iff, Prod.mk.injEq, Prod.exists] at e
    obtain ⟨d', e', e1, rfl, rfl⟩ := e
    exact ⟨F, G, env, d', _, S, e1, fun v H' G' S' s r => q v H' G' S' s r⟩
def vof (f : Env → Option (PyData × Env)) (env : Env) : Option (PV × Env) := do
  let (d, env) ← f env
  match d with
  | .list l => some (.o (.lst l), env)
  | _ => none
theorem vof_split {f : Env → Option (PyData × Env)} {env env' : Env} {d : PV} (e : vof f env = some (d, env')) : ∃ l, f env = some (.list l, env') ∧ d = .o (.lst l) := by
  simp only [vof, Option.bind_eq_bind, Option.bind_eq_some_iff, Prod.exists] at e
  obtain ⟨d', env1, e1, e2⟩ := e
  split at e2
  · rename_i l
    simp only [Option.some.injEq, Prod.mk.injEq] at e2
    obtain ⟨rfl, rfl⟩ := e2
    exact ⟨l, e1, rfl⟩
  · cases e2
theorem v_oR {f : Env → Option (PyData × Env)} {K : PySem.W.Frag} {σ : L2.St} {H : Hp} {Q : VK} (h : rdV K cl (vof f) σ H Q) : rdX true K cl f σ H Q := by
  obtain ⟨F, G, env, d, env', S, e, q⟩ := h
  obtain ⟨l, e1, rfl⟩ := vof_split e
  refine ⟨F, G, env, _, _, S, e1, fun v H' G' S' s r fr => ?_⟩
  obtain ⟨G2, p, xs, ds, rfl, h1, S2, st2, hp, ra, hg⟩ := fr rfl
  cases h1
  exact q _ H' G2 S2 st2 (by rw [hg]; exact .lst hp ra)
theorem v_o {x : Expr} {f : Env → Option (PyData × Env)} (h : PE X x (rdX true X.K cl f)) : PE X x (rdV X.K cl (vof f)) := PE.imp h fun σ H Q q => v_oR q
def newf (C : Calls) (c : Str) (fs : Env → Option (List Arg × Env)) (env : Env) : Option (PV × Env) := do
  let (as, env) ← fs env
  let avs ← argsN env as
  let (d, os) ← C (c ++ ".__init__") (.io (.obj c []) :: avs)
  match d, os with
  | .none, o :: os => do
    let env ← argsBack env as os
    some (.o o, env)
  | _, _ => none
theorem new_rd {T : Tb} {C : Calls} {cn : Str} {d : Def} {fs : Env → Option (List Arg × Env)} {KC : Addr} (W : FnK T X cl j C) (hf : T.fn (cn ++ ".__init__") = some d) (hr : d.ret = .val) (hc : cl cn = some KC) {σ : L2.St} {H : Hp} {Q : VK} {E : XK} {t : TA}
    (it : ∀ σ H Q, rdAs X.K cl fs σ H Q → t σ H Q) (h : rdV X.K cl (newf C cn fs) σ H Q) : tMake KC (spC X.K cl C (cn ++ ".__init__") d.ret d.params) [] E t σ H Q := by
  obtain ⟨F, G, env, dd, env', S, e, q⟩ := h
  simp only [newf, Option.bind_eq_bind, Option.bind_eq_some_iff, Prod.exists] at e
  obtain ⟨as, env1, e1, avs, e2, d0, os0, e3, e4⟩ := e
  split at e4
  · rename_i o os
    simp only [Option.bind_eq_some_iff, Option.some.injEq, Prod.mk.injEq] at e4
    obtain ⟨env3, e5, rfl, rfl⟩ := e4
    unfold argsN at e2
    split at e2
    · rename_i nd
      refine it _ _ _ ⟨F, G, env, as, env1, S, e1, fun vs H1 G1 S1 st1 A x dx hx hdx hne => ?_⟩
      obtain ⟨Sn, stn⟩ := S1.noPend
      have S2 := Sn.new (o := .own x) hdx
      have hx2 : upd H1 dx (.own x) x = none := by rw [upd_ne (Ne.symm hne)]; exact hx
      obtain ⟨G3, S3, st3, hg3, ho3⟩ := S2.pendO (p := x) (.ins KC dx []) trivial hx2
      have ow : Own X.K cl (upd (upd H1 dx (.own x)) x (.ins KC dx [])) (Zf F G3) (.ref x) (.obj cn []) (G3 σ.length) := by
        rw [hg3]; exact .obj hc upd_same (Nat.zero_le _) .nil
      have S4 := S3.ext ow
      have st13 : Step H1 (Zf F G1) (upd (upd H1 dx (.own x)) x (.ins KC dx [])) (Zf F G3) := (stn.trans (Step.new hdx)).trans st3
      have A3 := (A.step (fun p z => S1.mut z) st13).ext (s := some (.ref x))
      have hh := argsAt_holds e2
      have hlen : env1.length = σ.length := S1.len
      have hA : ArgsV X.K (σ ++ [some (.ref x)]) (upd (upd H1 dx (.own x)) x (.ins KC dx [])) (Zf F G3) (.ref x :: vs) (.io env1.length :: as) :=
        .io (by rw [hlen, List.getElem?_append_right (Nat.le_refl _), Nat.sub_self]; rfl) A3
      have hcall : callAt C (cn ++ ".__init__") (.io env1.length :: as) (env1 ++ [.own (.obj cn [])]) = some (.none, env3 ++ [.own o]) := by
        have n1 : nodupB (ioIx (.io env1.length :: as)) = true := by
          simp only [ioIx, nodupB, Bool.and_eq_true, Bool.not_eq_true', List.contains_eq_mem, decide_eq_false_iff_not]
          exact ⟨fun z => absurd (hh _ z).lt (Nat.lt_irrefl _), nd⟩
        have a1 : argsAt (env1 ++ [.own (.obj cn [])]) (.io env1.length :: as) = some (.io (.obj cn []) :: avs) := by
          simp only [argsAt]
          rw [argsAt_ext e2]
          have : getS (env1 ++ [.own (.obj cn [])]) env1.length = .own (.obj cn []) := by
            unfold getS
            rw [List.getElem?_append_right (Nat.le_refl _), Nat.sub_self]; rfl
          rw [this]; rfl
        have b1 : argsBack (env1 ++ [.own (.obj cn [])]) (.io env1.length :: as) (o :: os) = some (env3 ++ [.own o]) := by
          simp only [argsBack]
          rw [putO_last]
          exact back_ext (fun j hj => (hh j hj).lt) e5
        unfold callAt argsN
        rw [if_pos n1, a1]
        simp only [Option.bind_eq_bind, Option.bind_some]
        rw [e3]
        simp only [Option.bind_some]
        rw [b1]
        rfl
      show spC X.K cl C (cn ++ ".__init__") d.ret d.params (.ref x :: (vs ++ [])) _ _ E
      rw [List.append_nil]
      refine call_in S4 hA hcall (fun avs r => W.arg _ d avs r hf) fun v H' G' S' st' _ rp _ => ?_
      have hv := rp (by rw [hr]; exact fun z => nomatch z)
      have l3 : env3.length = σ.length := by have := S'.len; simpa using this
      obtain ⟨S5, ow5⟩ := S'.unext l3 S1.mil
      refine ⟨by cases hv; rfl, q _ H' G' S5 ((st1.trans st13).trans st') ow5⟩
    · cases e2
  · cases e4
theorem v_n {T : Tb} {C : Calls} {cn : Str} {d : Def} {p pos : Pos} {x : Expr} {xs : List Expr} {fs : Env → Option (List Arg × Env)} (hX : XOk (j + 1) X) (W : FnK T X cl j C) (hcs : cn ∈ T.cs) (hf : T.fn (cn ++ ".__init__") = some d) (hg : Gl X cn) (ha : PA X (x :: xs) (rdAs X.K cl fs))
    (he : starEach (x :: xs) X.env = (false, eval x X.env) :: starEach xs X.env) (hpl : (backTo pos (starEach xs X.env)).any (·.1) = false) : PE X (.Call (.Name cn p) (x :: xs) [] pos) (rdV X.K cl (newf C cn fs)) := by
  obtain ⟨hr, KC, a, fd, ps, hc, M, F, hm, hb, hdb⟩ := W.mkk cn d hcs hf
  exact PE.imp (pe_make (E := fun _ _ _ => False) M F hX.room hg hm hb .nil pass0 ha hdb he hpl) fun σ H Q h => new_rd W hf hr hc (fun _ _ _ z => z) h
/-! ### several -/
inductive VAll (K : PySem.W.Frag) (cl : ClsT) (H : Hp) (Z : AddrS) (P : Nat → List Addr) : Nat → List V → List PV → Prop
  | nil {n : Nat} : VAll K cl H Z P n [] []
  | cons {n : Nat} {v : V} {p : PV} {vs : List V} {ps : List PV} : VOk K cl H Z (P n) v p → VAll K cl H Z P (n + 1) vs ps → VAll K cl H Z P n (v :: vs) (p :: ps)
def rdVs (K : PySem.W.Frag) (cl : ClsT) (ev : Env → Option (List PV × Env)) : TA := fun σ H Q => ∃ F G env d env', SR K cl F env G σ H ∧ ev env = some (d, env') ∧
  ∀ v H' G', SR K cl F env' G' σ H' → Step H (Zf F G) H' (Zf F G') → VAll K cl H' (Zf F G') G' σ.length v d → Q v H'
theorem VOk.move {K : PySem.W.Frag} {H H' : Hp} {Z Z' : AddrS} {g : List Addr} {v : V} {p : PV} (h : VOk K cl H Z g v p) (s : Step H Z H' Z') (k : ∀ a ∈ g, H' a = H a) : VOk K cl H' Z' g v p := by
  cases p with
  | v d => exact Rep.step s h
  | o o => exact Own.move h s k
theorem VAll.move {K : PySem.W.Frag} {H H' : Hp} {Z Z' : AddrS} {P P' : Nat → List Addr} (s : Step H Z H' Z') : ∀ {n m : Nat} {vs : List V} {ps : List PV}, VAll K cl H Z P n vs ps → (∀ i, n ≤ i → P' (i - n + m) = P i) → (∀ i, n ≤ i → ∀ a ∈ P i, H' a = H a) → VAll K cl H' Z' P' m vs ps
  | _, _, _, _, .nil, _, _ => .nil
  | n, m, _, _, .cons a b, h, k => .cons (by have := h n (Nat.le_refl _); rw [Nat.sub_self, Nat.zero_add] at this; rw [this]; exact a.move s (k n (Nat.le_refl _))) (VAll.move (m := m + 1) s b (fun i hi => by rw [← h i (by omega)]; congr 1; omega) fun i hi => k i (by omega))
def vcf (f : Env → Option (PV × Env)) (fs : Env → Option (List PV × Env)) (env : Env) : Option (List PV × Env) := do
  let (v, env) ← f env
  let (vs, env) ← fs env
  some (v :: vs, env)
theorem vs_nil : PA X [] (rdVs X.K cl fun env => some ([], env)) := PA.imp pa_nil fun σ H Q ⟨F, G, env, d, env', S, e, q⟩ => by
  simp only [Option.some.injEq, Prod.mk.injEq] at e
  obtain ⟨rfl, rfl⟩ := e
  exact q [] H G S .refl .nil
theorem vs_cons {x : Expr} {xs : List Expr} {f : Env → Option (PV × Env)} {fs : Env → Option (List PV × Env)} (hx : PE X x (rdV X.K cl f)) (hs : PA X xs (rdVs X.K cl fs)) (he : starEach (x :: xs) X.env = (false, eval x X.env) :: starEach xs X.env) : PA X (x :: xs) (rdVs X.K cl (vcf f fs)) :=
  PA.imp (pa_cons hx hs he) fun σ H Q ⟨F, G, env, d, env', S, e, q⟩ => by
    simp only [vcf, Option.bind_eq_bind, Option.bind_eq_some_iff, Prod.exists, Option.some.injEq, Prod.mk.injEq] at e
    obtain ⟨a, env1, e1, rs, env2, e2, rfl, rfl⟩ := e
    refine ⟨F, G, env, a, env1, S, e1, fun v H1 G1 S1 st1 r1 => ?_⟩
    obtain ⟨Si, sti⟩ := S1.inn
    refine ⟨_, _, env1, rs, _, Si, e2, fun vs H2 G2 S2 st2 r2 => ?_⟩
    obtain ⟨So, zn⟩ := S1.out S2 rfl
    have sto := S1.outStep zn st2
    refine q (v :: vs) H2 _ So (st1.trans sto) (.cons ?_ (r2.move (Step.same (fun _ _ e => e) zn) (fun i hi => ?_) fun _ _ _ _ => rfl))
    · rw [outG_n]
      exact r1.move sto fun a ha => S1.waits S2 (Nat.le_refl _) ha
    · rw [outG_gt (by omega)]; congr 1; omega
def setAll (σ : L2.St) : List Nat → List V → L2.St
  | i :: is, v :: vs => setAll (σ.set i (some v)) is vs
  | _, _ => σ
theorem puts_ok {K : PySem.W.Frag} {F : FP} : ∀ {is : List Nat} {vs : List V} {ps : List PV} {env env' : Env} {G : Nat → List Addr} {σ : L2.St} {H : Hp} {n : Nat}, SR K cl F env G σ H → σ.length ≤ n → VAll K cl H (Zf F G) G n vs ps → putPs is ps env = some env' →
    ∃ G', SR K cl F env' G' (setAll σ is vs) H ∧ Step H (Zf F G) H (Zf F G') ∧ is.length = vs.length
  | [], _, _, env, env', G, σ, H, n, S, hn, .nil, e => by
    simp [putPs] at e; subst e
    exact ⟨G, S, .refl, rfl⟩
  | [], _, _, _, _, _, _, _, _, _, _, .cons _ _, e => by simp [putPs] at e
  | _ :: _, _, _, _, _, _, _, _, _, _, _, .nil, e => by simp [putPs] at e
  | i :: is, _, _, env, env', G, σ, H, n, S, hn, @VAll.cons _ _ _ _ _ _ v p vs ps a b, e => by
    simp only [putPs] at e
    split at e
    · rename_i hfr
      obtain ⟨f1, f2, f3⟩ := freeS_ok hfr
      have hi : i < σ.length := by rw [← S.len]; exact f1
      cases p with
      | v d =>
        obtain ⟨S', st⟩ := S.asg (v := v) a f1 f2 f3
        have b' : VAll K cl H (Zf F (putG G i [])) (putG G i []) (n + 1) vs ps := b.move st (fun m hm => by rw [putG_ne (by omega)]; congr 1; omega) fun _ _ _ _ => rfl
        obtain ⟨G2, S2, st2, hl⟩ := puts_ok (n := n + 1) S' (by rw [List.length_set]; omega) b' e
        exact ⟨G2, S2, st.trans st2, by simp [hl]⟩
      | o o =>
        obtain ⟨S', st⟩ := S.take (v := v) (n := n) hn rfl a f1 f2 f3
        have b' : VAll K cl H (Zf F (putG (putG G n []) i (G n))) (putG (putG G n []) i (G n)) (n + 1) vs ps := b.move st (fun m hm => by rw [putG_ne (by omega), putG_ne (by omega)]; congr 1; omega) fun _ _ _ _ => rfl
        obtain ⟨G2, S2, st2, hl⟩ := puts_ok (n := n + 1) S' (by rw [List.length_set]; omega) b' e
        exact ⟨G2, S2, st.trans st2, by simp [hl]⟩
    · cases e
end
end VL

set_option Elab.async false
set_option linter.all false
set_option maxRecDepth 100000
set_option maxHeartbeats 2000000
/-! VL: the semantics, name by name. -/
namespace VL
open PySem L2
section
variable {C : Calls}
theorem ev_neg {a : E} : evE C (.neg a) = (fun env => do
    let (d, env) ← evE C a env
    match d with
    | .int i => some (.int (-i), env)
    | _ => none) := by funext env; rw [evE] <;> rfl
theorem ev_op2 {p : P2} {a b : E} : evE C (.op2 p a b) = (fun env => do
      let (x, env) ← opv a (evE C a) env
      let (y, env) ← opv b (evE C b) env
      let x ← resolve env x
      let y ← resolve env y
      let d ← op2D p x y
      some (d, env)) := by funext env; rw [evE] <;> rfl
theorem ev_chain {o1 o2 : CmpOp} {a b c : E} : evE C (.chain o1 o2 a b c) = chainf o1 o2 (evE C a) (evE C b) (evE C c) := by funext env; rw [evE] <;> rfl
theorem ev_and {es : Es} : evE C (.and es) = evAnd C es := by funext env; rw [evE] <;> rfl
theorem ev_or {es : Es} : evE C (.or es) = evOr C es := by funext env; rw [evE] <;> rfl
theorem ev_not {a : E} : evE C (.not a) = notf (evE C a) := by funext env; rw [evE] <;> rfl
theorem ev_ite {a b c : E} : evE C (.ite a b c) = itef (evE C a) (evE C b) (evE C c) := by funext env; rw [evE] <;> rfl
theorem ev_tup {es : Es} : evE C (.tup es) = (fun env => do
    let (ds, env) ← evEs C es env
    if ds.length ≤ lineN then some (.tuple ds, env) else none) := by funext env; rw [evE] <;> rfl
theorem ev_lst {es : Es} : evE C (.lst es) = (fun env => do
    let (ds, env) ← evEs C es env
    if ds.length ≤ lineN then some (.list ds, env) else none) := by funext env; rw [evE] <;> rfl
theorem ev_idx {a b : E} : evE C (.idx a b) = (fun env => do
    let (x, env) ← opv a (evE C a) env
    let (y, env) ← evE C b env
    let x ← resolve env x
    let d ← idxD x y
    some (d, env)) := by funext env; rw [evE] <;> rfl
theorem ev_slc {a : E} {l h : Eo} : evE C (.slc a l h) = slf (opv a (evE C a)) (evEo C l) (evEo C h) := by funext env; rw [evE] <;> rfl
theorem ev_scut {i : Nat} {l h : Eo} : evE C (.scut i l h) = scutf i (evEo C l) (evEo C h) := by funext env; rw [evE] <;> rfl
theorem ev_rev {a : E} : evE C (.rev a) = revf (opv a (evE C a)) := by funext env; rw [evE] <;> rfl
theorem ev_bi {b : Bi} {es : Es} : evE C (.bi b es) = biF b (evRs C es) := by funext env; rw [evE] <;> rfl
theorem ev_lrange {t : Bool} {a : E} : evE C (.lrange t a) = lrangeF t (evE C a) := by funext env; rw [evE] <;> rfl
theorem ev_me {m : Me} {o a : E} : evE C (.me m o a) = mef m (opv o (evE C o)) (evE C a) := by funext env; rw [evE] <;> rfl
theorem ev_pop {i : Nat} {a : E} : evE C (.pop i a) = popf i (evE C a) := by funext env; rw [evE] <;> rfl
theorem ev_call {f : Str} {as : As} : evE C (.call f as) = callf C f (evAs C as) := by funext env; rw [evE] <;> rfl
theorem ev_callL {f : Str} {es : Es} : evE C (.callL f es) = callLf C f (evRs C es) := by funext env; rw [evE] <;> rfl
def condf (C : Calls) : Eo → Option (Env → Option (Bool × Env))
  | .no => none
  | .so c => some (tstf (evE C c))
theorem ev_comp {elt : E} {tg : Tg} {src : Src} {cond : Eo} {own : List Nat} : evE C (.comp elt tg src cond own) = compf (evSrc C src) tg own (condf C cond) (evE C elt) := by
  funext env; cases cond <;> (rw [evE] <;> rfl)
theorem ev_meth {i : Nat} {k m : Str} {as : As} : evE C (.meth i k m as) = methf C i k m (evAs C as) := by funext env; rw [evE] <;> rfl
theorem ev_isin {n : Str} {a : E} : evE C (.isin n a) = isinf n (opv a (evE C a)) := by funext env; rw [evE] <;> rfl
theorem ev_dsel {ks : List Str} {es : Es} {a : E} : evE C (.dsel ks es a) = dselF ks (evEs C es) (evE C a) := by funext env; rw [evE] <;> rfl
theorem ev_dsor {ks : List Str} {es : Es} {a d : E} : evE C (.dsor ks es a d) = dsorF ks (evEs C es) (evE C a) (evE C d) := by funext env; rw [evE] <;> rfl
theorem ev_and1 {s : Bool} {a : E} : evAnd C (.cons s a .nil) = evE C a := by funext env; rw [evAnd] <;> rfl
theorem ev_and2 {s s' : Bool} {a b : E} {r : Es} : evAnd C (.cons s a (.cons s' b r)) = andf (evE C a) (evAnd C (.cons s' b r)) := by funext env; rw [evAnd] <;> rfl
theorem ev_or1 {s : Bool} {a : E} : evOr C (.cons s a .nil) = evE C a := by funext env; rw [evOr] <;> rfl
theorem ev_or2 {s s' : Bool} {a b : E} {r : Es} : evOr C (.cons s a (.cons s' b r)) = orf (evE C a) (evOr C (.cons s' b r)) := by funext env; rw [evOr] <;> rfl
theorem ev_esn : evEs C .nil = fun env => some ([], env) := by funext env; rw [evEs] <;> rfl
theorem ev_esc {s : Bool} {a : E} {r : Es} : evEs C (.cons s a r) = consf s (evE C a) (evEs C r) := by funext env; rw [evEs] <;> rfl
theorem ev_rsn : evRs C .nil = fun env => some ([], env) := by funext env; rw [evRs] <;> rfl
theorem ev_rsc {s : Bool} {a : E} {r : Es} : evRs C (.cons s a r) = rconsf (opv a (evE C a)) (evRs C r) := by funext env; rw [evRs] <;> rfl
theorem ev_no : evEo C .no = fun env => some (none, env) := by funext env; rw [evEo] <;> rfl
theorem ev_so {a : E} : evEo C (.so a) = parf (evE C a) := by funext env; rw [evEo] <;> rfl
theorem ev_asn : evAs C .nil = fun env => some ([], env) := by funext env; rw [evAs] <;> rfl
theorem ev_ash {a : E} {r : As} : evAs C (.sh a r) = ashf (evE C a) (evAs C r) := by funext env; rw [evAs] <;> rfl
theorem ev_aio {i : Nat} {r : As} : evAs C (.io i r) = aiof i (evAs C r) := by funext env; rw [evAs] <;> rfl
theorem ev_asc {i : Nat} {r : As} : evAs C (.scr i r) = ascf i (evAs C r) := by funext env; rw [evAs] <;> rfl
theorem ev_aic {f : Str} {i : Nat} {r : As} : evAs C (.ioc f i r) = aicf C f i (evAs C r) := by funext env; rw [evAs] <;> rfl
theorem ev_sex {a : E} : evSrc C (.ex a) = exf (evE C a) := by funext env; rw [evSrc] <;> rfl
theorem ev_srg {a : E} : evSrc C (.range a) = rgf (evE C a) := by funext env; rw [evSrc] <;> rfl
theorem ev_srg2 {a b : E} : evSrc C (.range2 a b) = rg2f (evE C a) (evE C b) := by funext env; rw [evSrc] <;> rfl
theorem ev_sen {a : E} : evSrc C (.enum a) = enf (evE C a) := by funext env; rw [evSrc] <;> rfl
theorem ev_szp {a b : E} : evSrc C (.zip a b) = zpf (evE C a) (evE C b) := by funext env; rw [evSrc] <;> rfl
end
end VL

set_option Elab.async false
set_option linter.all false
set_option maxRecDepth 100000
set_option maxHeartbeats 4000000
/-! VL: each term of the language is the text that it matches. -/
namespace VL
open PySem L2
open PyProof PyProof.Rows
structure WOk (T : Tb) (X : Cx) (cl : ClsT) (j : Nat) (C : Calls) : Prop where
  gl : ∀ x d, T.gc x = some d → ∃ u v, X.mg x = some u ∧ RelV v u ∧ ∀ H Z, Rep X.K H Z v d
  co : COk T X cl
  fn : FnK T X cl j C
/-- whether a list that the term gives is a new one -/
def frE (T : Tb) : E → Bool
  | .op2 _ _ _ => true
  | .lst _ => true
  | .slc _ _ _ => true
  | .scut _ _ _ => true
  | .rev _ => true
  | .bi _ _ => true
  | .lrange t _ => !t
  | .comp _ _ _ _ _ => true
  | .lfld _ _ => true
  | .call f _ => match T.fn f with
    | some d => isOwn d.ret
    | none => false
  | .meth _ k m _ => match T.fn (k ++ "." ++ m) with
    | some d => isOwn d.ret
    | none => false
  | _ => false
section
variable {T : Tb} {cl : ClsT} {j : Nat} {C : Calls}
def okE (T : Tb) (cl : ClsT) (j : Nat) (C : Calls) (e : E) : Prop := ∀ (X : Cx) (c : Sc) (x : Expr), XOk (j + 1) X → SCOk c X → WOk T X cl j C → mE T e c x = true → PE X x (rdX (frE T e) X.K cl (evE C e)) ∧ PT X x (rdT X.K cl (tstf (evE C e)))
def okEs (T : Tb) (cl : ClsT) (j : Nat) (C : Calls) (es : Es) : Prop := ∀ (X : Cx) (c : Sc) (xs : List Expr), XOk (j + 1) X → SCOk c X → WOk T X cl j C → mEs T es c xs = true → PA X xs (rdL X.K cl (evEs C es)) ∧ (noStar es = true → PA X xs (rdOs X.K cl (evRs C es))) ∧
  (noStar es = true → es ≠ .nil → ∀ pos, PE X (.BoolOp .And xs pos) (rdE X.K cl (evAnd C es)) ∧ PW X (.BoolOp .And xs pos) (rdT X.K cl (tstf (evAnd C es))) ∧ PE X (.BoolOp .Or xs pos) (rdE X.K cl (evOr C es)) ∧ PW X (.BoolOp .Or xs pos) (rdT X.K cl (tstf (evOr C es)))) ∧
  (noStar es = true → ∀ (ks : List Str) (keys : List (Option Expr)) (pos : Pos), keysB ks keys = true → keys.length = xs.length → ∃ trs, PPs X pos keys xs trs ∧ PsR X.K cl ks (evEs C es) trs)
def okEo (T : Tb) (cl : ClsT) (j : Nat) (C : Calls) (o : Eo) : Prop := ∀ (X : Cx) (c : Sc) (x : Option Expr), XOk (j + 1) X → SCOk c X → WOk T X cl j C → mEo T o c x = true → PO X x (rdP X.K cl (evEo C o)) ∧ ∀ y, x = some y → ∃ f, condf C o = some f ∧ PT X y (rdT X.K cl f)
def okAs (T : Tb) (cl : ClsT) (j : Nat) (C : Calls) (as : As) : Prop := ∀ (X : Cx) (c : Sc) (xs : List Expr), XOk (j + 1) X → SCOk c X → WOk T X cl j C → mAs T as c xs = true → PA X xs (rdAs X.K cl (evAs C as))
def okS (T : Tb) (cl : ClsT) (j : Nat) (C : Calls) (s : Src) : Prop := ∀ (X : Cx) (c : Sc) (x tg : Expr), XOk (j + 1) X → SCOk c X → WOk T X cl j C → mSrc T s c x = true → (pairS s = true → ∃ es k p, tg = .Tuple es k p) → PI X tg x (rdI (pairS s) X.K cl (evSrc C s))
theorem pt_of {X : Cx} {x : Expr} {t : TT} (h : PW X x t) : PT X x t := ⟨fun pins s σ H Q I q => h.run _ pins s σ H Q I q⟩
theorem pw_of1 {X : Cx} {x : Expr} {t : TT} {op : BoolOp} {pos : Pos} (h : PT X x t) : PW X (.BoolOp op [x] pos) t := by
  cases op
  · exact pw_and1 h
  · exact pw_or1 h
/-- as an operand -/
theorem op_of {X : Cx} {c : Sc} {e : E} {x : Expr} (S : SCOk c X) (hm : mE T e c x = true) (h : PE X x (rdE X.K cl (evE C e))) : PE X x (rdO X.K cl (opv e (evE C e))) := by
  cases e with
  | var i =>
    cases x <;> simp [mE] at hm
    obtain ⟨a1, a2, a3, a4⟩ := visB_ok S hm
    exact c_varO a1 a2 a3 a4 C
  | _ => exact o_of h
theorem starAs {c : Sc} {as : As} {x : Expr} {xs : List Expr} (h : mAs T as c (x :: xs) = true) (env : PySem.Env) : starEach (x :: xs) env = (false, eval x env) :: starEach xs env := by
  cases as with
  | nil => simp [mAs] at h
  | sh e r => simp only [mAs, Bool.and_eq_true] at h; exact starE h.1 env
  | io i r => cases x <;> first | rfl | simp [mAs] at h
  | ioc f i r => cases x <;> first | rfl | simp [mAs] at h
  | scr i r => cases x <;> first | rfl | simp [mAs] at h
theorem tailAs {c : Sc} : ∀ {as : As} {x : Expr} {xs : List Expr}, mAs T as c (x :: xs) = true → ∃ r, mAs T r c xs = true
  | .nil, _, _, h => by simp [mAs] at h
  | .sh e r, _, _, h => by simp only [mAs, Bool.and_eq_true] at h; exact ⟨r, h.2⟩
  | .io i r, x, _, h => by cases x <;> simp [mAs] at h; exact ⟨r, h.2⟩
  | .scr i r, x, _, h => by cases x <;> simp [mAs] at h; exact ⟨r, h.2⟩
  | .ioc f i r, x, _, h => by
    simp only [mAs] at h
    split at h
    · rename_i h0; cases h0
      simp only [Bool.and_eq_true] at h
      exact ⟨r, h.1.2⟩
    · cases h
theorem noStarAs {c : Sc} : ∀ {xs : List Expr} {as : As} (env : PySem.Env), mAs T as c xs = true → ∀ pos, (backTo pos (starEach xs env)).any (·.1) = false ∧ (backTo pos (starEach xs env)).all (fun x => !x.1) = true
  | [], _, env, _, pos => ⟨rfl, rfl⟩
  | x :: xs, as, env, h, pos => by
    obtain ⟨r, hr⟩ := tailAs h
    obtain ⟨h1, h2⟩ := noStarAs (xs := xs) env hr pos
    rw [starAs h]
    refine ⟨?_, ?_⟩
    · show (false || (backTo pos (starEach xs env)).any (·.1)) = false
      rw [h1]; rfl
    · show (true && (backTo pos (starEach xs env)).all (fun x => !x.1)) = true
      rw [h2]; rfl
theorem okE_of {e : E} (h1 : frE T e = false) (h : ∀ (X : Cx) (c : Sc) (x : Expr), XOk (j + 1) X → SCOk c X → WOk T X cl j C → mE T e c x = true → PE X x (rdE X.K cl (evE C e)) ∧ PT X x (rdT X.K cl (tstf (evE C e)))) : okE T cl j C e := fun X c x hX S W hm => by
  obtain ⟨a, b⟩ := h X c x hX S W hm
  exact ⟨PE.imp a fun σ H Q ⟨F, G, env, d, env', S, e, q⟩ => ⟨F, G, env, d, env', S, e, fun v H' G' S' s r => q v H' G' S' s r fun z => by rw [h1] at z; cases z⟩, b⟩
theorem plP {X : Cx} {x : Expr} {f : Env → Option (PyData × Env)} (h : PE X x (rdE X.K cl f)) (he : ∀ whole, isTrue x X.env whole = (do let v ← whole; standAt x.pos; holding [v] (truthy v))) : PE X x (rdE X.K cl f) ∧ PT X x (rdT X.K cl (tstf f)) := ⟨h, t_plain h he⟩
theorem plX {X : Cx} {x : Expr} {fr : Bool} {f : Env → Option (PyData × Env)} (h : PE X x (rdX fr X.K cl f)) (he : ∀ whole, isTrue x X.env whole = (do let v ← whole; standAt x.pos; holding [v] (truthy v))) : PE X x (rdX fr X.K cl f) ∧ PT X x (rdT X.K cl (tstf f)) := ⟨h, t_plain (pe_X h) he⟩
theorem keysB_some : ∀ {ks : List Str} {keys : List (Option Expr)}, keysB ks keys = true → keys.all (·.isSome) = true
  | ks, [], _ => rfl
  | ks, k :: r, h => by
    unfold keysB at h
    split at h
    · rename_i z1 z2; cases z2
    · rename_i z1 z2
      cases z2
      simp only [Bool.and_eq_true] at h
      simp only [List.all_cons, Option.isSome_some, Bool.true_and]
      exact keysB_some h.2
    · cases h
theorem m2_dict {c : Sc} {a b : E} {keys : List (Option Expr)} {vals : List Expr} {pos ap cp : Pos} {x y : Expr} (h1 : mE T a c x = true) (h2 : mE T b c y = true) (hl : lineB ap cp = true) (X : Cx) : M2 X (.Dict keys vals pos) "get" ap x y cp := by
  have e : starEach [x, y] X.env = [(false, eval x X.env), (false, eval y X.env)] := by rw [starE h1 X.env, starE h2 X.env]; rfl
  refine ⟨rfl, ?_, hl, ?_⟩
  · rw [e]; rfl
  · rw [e]; rfl
mutual
theorem sE : ∀ e : E, okE T cl j C e
  | .var i => okE_of rfl fun X c x hX S W hm => by
    cases x <;> simp [mE] at hm
    obtain ⟨a1, a2, a3, a4⟩ := visB_ok S hm
    exact plP (c_var (cl := cl) a1 a2 a3 a4 C) fun _ => rfl
  | .lit d => okE_of rfl fun X c x hX S W hm => by
    cases x <;> simp [mE] at hm
    exact ⟨c_lit hm C, t_plain (c_lit hm C) fun _ => rfl⟩
  | .glb y d => okE_of rfl fun X c x hX S W hm => by
    cases x <;> simp only [mE, Bool.false_eq_true] at hm
    simp only [Bool.and_eq_true, decide_eq_true_eq] at hm
    obtain ⟨⟨rfl, hg⟩, h2⟩ := hm
    obtain ⟨g1, g2⟩ := glB_ok S hg
    split at h2
    · rename_i d' hd
      have : d = d' := eqPD_ok h2
      subst this
      obtain ⟨u, v, m1, m2, m3⟩ := W.gl _ _ hd
      exact ⟨c_glb g1 m1 m2 m3 g2 C, t_plain (c_glb g1 m1 m2 m3 g2 C) fun _ => rfl⟩
    · cases h2
  | .neg a => okE_of rfl fun X c x hX S W hm => by
    simp only [mE] at hm
    split at hm
    · rw [ev_neg]
      exact plP (c_neg (pe_X (sE a _ _ _ hX S W hm).1)) fun _ => rfl
    · cases hm
  | .op2 (.bin o) a b => fun X c x hX S W hm => by
    simp only [mE] at hm
    split at hm
    · simp only [Bool.and_eq_true, decide_eq_true_eq] at hm
      obtain ⟨⟨rfl, h1⟩, h2⟩ := hm
      rw [ev_op2]
      exact plX (c_op2 (p := .bin o) (pe_op (bin_ok o) (op_of S h1 (pe_X (sE a _ _ _ hX S W h1).1)) (op_of S h2 (pe_X (sE b _ _ _ hX S W h2).1)))) fun _ => rfl
    · cases hm
  | .op2 (.cmp o) a b => fun X c x hX S W hm => by
    simp only [mE] at hm
    split at hm
    · simp only [Bool.and_eq_true, decide_eq_true_eq] at hm
      obtain ⟨⟨rfl, h1⟩, h2⟩ := hm
      have ha := op_of S h1 (pe_X (sE a _ _ _ hX S W h1).1)
      have hb := op_of S h2 (pe_X (sE b _ _ _ hX S W h2).1)
      rw [ev_op2]
      exact ⟨c_op2 (p := .cmp o) (pe_cmpR (cmp_ok hX.room o) ha hb (nomarkE h2 o)), t_cmp hX.room ha hb (nomarkE h2 o)⟩
    · cases hm
  | .chain o1 o2 a b d => okE_of rfl fun X c x hX S W hm => by
    simp only [mE] at hm
    split at hm
    · simp only [Bool.and_eq_true, decide_eq_true_eq] at hm
      obtain ⟨⟨⟨⟨⟨⟨_, _⟩, rfl⟩, rfl⟩, h1⟩, h2⟩, h3⟩ := hm
      have ha := pe_X (sE a _ _ _ hX S W h1).1
      have hb := pe_X (sE b _ _ _ hX S W h2).1
      have hd := pe_X (sE d _ _ _ hX S W h3).1
      rw [ev_chain]
      exact ⟨c_chain hX.room ha hb hd (nomarkE h3 _), t_chain hX.room ha hb hd (nomarkE h3 _)⟩
    · cases hm
  | .and es => okE_of rfl fun X c x hX S W hm => by
    simp only [mE] at hm
    split at hm
    · simp only [Bool.and_eq_true] at hm
      have ne : es ≠ .nil := fun z => by subst z; exact absurd hm.1.1 (by decide)
      obtain ⟨h1, h2, _⟩ := (sEs es _ _ _ hX S W hm.2).2.2.1 hm.1.2 ne (by assumption)
      rw [ev_and]
      exact ⟨h1, pt_of h2⟩
    · cases hm
  | .or es => okE_of rfl fun X c x hX S W hm => by
    simp only [mE] at hm
    split at hm
    · simp only [Bool.and_eq_true] at hm
      have ne : es ≠ .nil := fun z => by subst z; exact absurd hm.1.1 (by decide)
      obtain ⟨_, _, h1, h2⟩ := (sEs es _ _ _ hX S W hm.2).2.2.1 hm.1.2 ne (by assumption)
      rw [ev_or]
      exact ⟨h1, pt_of h2⟩
    · cases hm
  | .not a => okE_of rfl fun X c x hX S W hm => by
    simp only [mE] at hm
    split at hm
    · rw [ev_not]
      exact ⟨c_not (pe_X (sE a _ _ _ hX S W hm).1), t_not (sE a _ _ _ hX S W hm).2⟩
    · cases hm
  | .ite t a b => okE_of rfl fun X c x hX S W hm => by
    simp only [mE] at hm
    split at hm
    · simp only [Bool.and_eq_true] at hm
      obtain ⟨⟨h1, h2⟩, h3⟩ := hm
      rw [ev_ite]
      exact ⟨c_ite (sE t _ _ _ hX S W h1).2 (pe_X (sE a _ _ _ hX S W h2).1) (pe_X (sE b _ _ _ hX S W h3).1), t_ite (sE t _ _ _ hX S W h1).2 (sE a _ _ _ hX S W h2).2 (sE b _ _ _ hX S W h3).2⟩
    · cases hm
  | .tup es => okE_of rfl fun X c x hX S W hm => by
    simp only [mE] at hm
    split at hm
    · rw [ev_tup]
      exact plP (c_tup (cl := cl) (sEs es _ _ _ hX S W hm).1) fun _ => rfl
    · cases hm
  | .lst es => fun X c x hX S W hm => by
    simp only [mE] at hm
    split at hm
    · rw [ev_lst]
      exact plX (c_lst (cl := cl) (sEs es _ _ _ hX S W hm).1) fun _ => rfl
    · cases hm
  | .idx a b => okE_of rfl fun X c x hX S W hm => by
    simp only [mE] at hm
    split at hm
    · simp only [Bool.and_eq_true] at hm
      obtain ⟨⟨h1, h2⟩, h3⟩ := hm
      rw [ev_idx]
      exact plP (c_idx (cl := cl) (op_of S h2 (pe_X (sE a _ _ _ hX S W h2).1)) (pe_X (sE b _ _ _ hX S W h3).1) h1) fun _ => rfl
    · cases hm
  | .slc a l h => fun X c x hX S W hm => by
    simp only [mE] at hm
    split at hm
    · simp only [Bool.and_eq_true] at hm
      obtain ⟨⟨h1, h2⟩, h3⟩ := hm
      rw [ev_slc]
      exact plX (c_slc (cl := cl) (op_of S h1 (pe_X (sE a _ _ _ hX S W h1).1)) (sEo l _ _ _ hX S W h2).1 (sEo h _ _ _ hX S W h3).1) fun _ => rfl
    · cases hm
  | .scut i l h => fun X c x hX S W hm => by
    simp only [mE] at hm
    split at hm
    · simp only [Bool.and_eq_true] at hm
      obtain ⟨⟨h1, h2⟩, h3⟩ := hm
      obtain ⟨a1, a2, a3, a4⟩ := visB_ok S h1
      rw [ev_scut]
      exact plX (c_scut (cl := cl) a1 a2 a3 a4 (sEo l _ _ _ hX S W h2).1 (sEo h _ _ _ hX S W h3).1) fun _ => rfl
    · cases hm
  | .rev a => fun X c x hX S W hm => by
    simp only [mE] at hm
    split at hm
    · rw [ev_rev]
      exact plX (c_rev (cl := cl) (op_of S hm (pe_X (sE a _ _ _ hX S W hm).1))) fun _ => rfl
    · cases hm
  | .bi b es => fun X c x hX S W hm => by
    simp only [mE] at hm
    split at hm
    · rename_i y p0 xs0 p1
      simp only [Bool.and_eq_true, decide_eq_true_eq] at hm
      obtain ⟨⟨⟨⟨h1, h2⟩, rfl⟩, h4⟩, h5⟩ := hm
      cases xs0 with
      | nil => simp at h1
      | cons y0 ys =>
        have hst := (show ∃ e r, es = .cons false e r ∧ mE T e c y0 = true ∧ mEs T r c ys = true ∧ noStar r = true by
          cases es with
          | nil => simp [mEs] at h5
          | cons s e r =>
            cases s with
            | true => simp [noStar] at h2
            | false =>
              simp only [mEs, Bool.and_eq_true] at h5
              exact ⟨e, r, rfl, h5.1, h5.2, by simpa [noStar] using h2⟩)
        obtain ⟨e, r, rfl, q1, q2, q3⟩ := hst
        rw [ev_bi]
        exact plX (c_bi (cl := cl) (p := p0) (pos := p1) hX (glB_ok S h4).1 ((sEs _ _ _ _ hX S W h5).2.1 h2) (starE q1 _) (noStarEach _ q3 q2 _)) fun _ => rfl
    · cases hm
  | .lrange true a => okE_of rfl fun X c x hX S W hm => by
    simp only [mE] at hm
    split at hm
    · simp only [Bool.and_eq_true, decide_eq_true_eq, if_true] at hm
      obtain ⟨⟨⟨⟨rfl, rfl⟩, h1⟩, h2⟩, h3⟩ := hm
      rw [ev_lrange]
      exact plP (c_trange (cl := cl) hX (glB_ok S h1).1 (glB_ok S h2).1 (pe_X (sE a _ _ _ hX S W h3).1) (starE h3 _)) fun _ => rfl
    · cases hm
  | .lrange false a => fun X c x hX S W hm => by
    simp only [mE] at hm
    split at hm
    · simp only [Bool.and_eq_true, decide_eq_true_eq, Bool.false_eq_true, if_false] at hm
      obtain ⟨⟨⟨⟨rfl, rfl⟩, h1⟩, h2⟩, h3⟩ := hm
      rw [ev_lrange]
      exact plX (c_lrange (cl := cl) hX (glB_ok S h1).1 (glB_ok S h2).1 (pe_X (sE a _ _ _ hX S W h3).1) (starE h3 _)) fun _ => rfl
    · cases hm
  | .me m o a => okE_of rfl fun X c x hX S W hm => by
    simp only [mE] at hm
    split at hm
    · simp only [Bool.and_eq_true, decide_eq_true_eq] at hm
      obtain ⟨⟨⟨⟨h1, h2⟩, rfl⟩, h4⟩, h5⟩ := hm
      rw [ev_me]
      exact plP (c_me (cl := cl) hX.room h5 h1 h2 (op_of S h4 (pe_X (sE o _ _ _ hX S W h4).1)) (pe_X (sE a _ _ _ hX S W h5).1)) fun _ => rfl
    · cases hm
  | .pop i a => okE_of rfl fun X c x hX S W hm => by
    simp only [mE] at hm
    split at hm
    · simp only [Bool.and_eq_true, decide_eq_true_eq] at hm
      obtain ⟨⟨⟨h1, rfl⟩, h3⟩, h4⟩ := hm
      obtain ⟨a1, a2, a3, a4⟩ := visB_ok S h3
      rw [ev_pop]
      exact plP (c_pop (cl := cl) a1 a2 a3 a4 h4 h1 (pe_X (sE a _ _ _ hX S W h4).1)) fun _ => rfl
    · cases hm
  | .call f as => fun X c x hX S W hm => by
    simp only [mE] at hm
    split at hm
    · rename_i y p0 xs0 p1
      simp only [Bool.and_eq_true, decide_eq_true_eq] at hm
      obtain ⟨⟨⟨⟨rfl, h1⟩, h2⟩, h3⟩, h4⟩ := hm
      split at h4
      · rename_i d hd
        have hr : d.ret ≠ .self := by simpa using h4
        have fe : frE T (.call y as) = isOwn d.ret := by show (match T.fn y with | some d => isOwn d.ret | none => false) = _; rw [hd]
        rw [fe, ev_call]
        cases xs0 with
        | nil =>
          cases as <;> simp [mAs] at h3
          rw [ev_asn]
          exact plX (c_call0 (cl := cl) (p := p0) (pos := p1) hX W.fn h1 hd hr (glB_ok S h2).1) fun _ => rfl
        | cons y0 ys =>
          obtain ⟨r, hr'⟩ := tailAs h3
          exact plX (c_call (cl := cl) (p := p0) (pos := p1) hX W.fn h1 hd hr (glB_ok S h2).1 (sAs as _ _ _ hX S W h3) (starAs h3 _) (noStarAs _ hr' _).1) fun _ => rfl
      · cases h4
    · cases hm
  | .callL f es => okE_of rfl fun X c x hX S W hm => by
    simp only [mE] at hm
    split at hm
    · rename_i y p0 xs0 p1
      simp only [Bool.and_eq_true, decide_eq_true_eq] at hm
      obtain ⟨⟨⟨⟨⟨⟨h0, h00⟩, rfl⟩, h1⟩, h2⟩, h3⟩, h4⟩ := hm
      split at h4
      · rename_i d hd
        have hr : d.ret = .val := by simpa using h4
        cases xs0 with
        | nil => simp at h0
        | cons y0 ys =>
          have hst := (show ∃ e r, es = .cons false e r ∧ mE T e c y0 = true ∧ mEs T r c ys = true ∧ noStar r = true by
            cases es with
            | nil => simp [mEs] at h3
            | cons s e r =>
              cases s with
              | true => simp [noStar] at h00
              | false =>
                simp only [mEs, Bool.and_eq_true] at h3
                exact ⟨e, r, rfl, h3.1, h3.2, by simpa [noStar] using h00⟩)
          obtain ⟨e, r, rfl, q1, q2, q3⟩ := hst
          rw [ev_callL]
          exact plP (c_callL (cl := cl) (p := p0) (pos := p1) hX W.fn h1 hd hr (glB_ok S h2).1 ((sEs _ _ _ _ hX S W h3).2.1 h00) (starE q1 _) (noStarEach _ q3 q2 _)) fun _ => rfl
      · cases h4
    · cases hm
  | .comp elt tg src cond own => fun X c x hX S W hm => by
    simp only [mE] at hm
    split at hm
    · rename_i x0 t0 it0 ifs0 scope p0
      simp only [Bool.and_eq_true] at hm
      obtain ⟨⟨⟨⟨⟨⟨h1, h2⟩, h3⟩, h4⟩, h5⟩, h6⟩, h7⟩ := hm
      have bo := blkOk_by h1
      have bk : BlkOk X.N X.env.scope scope (ownP c own) := by
        rw [S.N]
        refine ⟨bo.kind, bo.uniq, bo.ix, fun y hy e => ?_, bo.own⟩
        rw [S.names]; exact bo.free y hy e
      have hown : (ownP c own).map (·.2) = own := by
        unfold ownP
        rw [List.map_map]
        exact List.map_id _
      have blk : ∀ (s : Shared) (H : Hp) (D : Addr) (cls : List (Str × Addr)) (fp : List Addr), XOk (j + 1) (X.blk s H scope (compEnvC scope cls D X.env) fp) ∧ SCOk (subSc c scope) (X.blk s H scope (compEnvC scope cls D X.env) fp) ∧ WOk T (X.blk s H scope (compEnvC scope cls D X.env) fp) cl j C := fun s H D cls fp =>
        ⟨⟨hX.calm, hX.nd, hX.room, hX.bt⟩, ⟨S.N, by
          show (relS scope X.env.scope).names = relNames c.names scope
          unfold relS relNames
          rw [S.kind, S.names]
          simp, fun x h => h, bo.kind⟩, ⟨W.gl, ⟨W.co.cls⟩, ⟨W.fn.arg, W.fn.fn, W.fn.md, W.fn.mkk⟩⟩⟩
      have hfold : ∀ v, foldedSetIterable it0 X.env v = pure v := by
        cases src <;> simp only [mSrc] at h2
        · exact foldE h2 _
        all_goals (split at h2; rotate_left; cases h2)
        all_goals (intro v; rfl)
      have hp : pairS src = true → isTp tg = true := fun z => by rw [z] at h5; simpa using h5
      have hsrc : PI X t0 it0 (rdI (pairS src) X.K cl (evSrc C src)) := sSrc src _ _ _ _ hX S W h2 fun z => by
        have := hp z
        cases tg <;> simp [isTp] at this
        cases t0 <;> simp [mTg] at h3
        exact ⟨_, _, _, rfl⟩
      have hc : ∀ (s : Shared) (H : Hp) (D : Addr) (cls : List (Str × Addr)) (fp : List Addr), PTs (X.blk s H scope (compEnvC scope cls D X.env) fp) ifs0 (rdC X.K cl (condf C cond)) := fun s H D cls fp => by
        obtain ⟨b1, b2, b3⟩ := blk s H D cls fp
        cases ifs0 with
        | nil =>
          cases cond <;> simp [mEo] at h7
          exact pts_nil
        | cons y r =>
          cases r with
          | cons _ _ => cases h7
          | nil =>
            obtain ⟨f, hf, ht⟩ := (sEo cond _ _ _ b1 b2 b3 h7).2 y rfl
            rw [hf]
            exact pts_one ht
      have h := pe_lc (pos := p0) (elt := x0) (te := rdE X.K cl (evE C elt)) (tt := rdC X.K cl (condf C cond)) (g := rdG X.K cl tg) hX.calm hX.nd hsrc bk (fun s H D cls fp => let b := blk s H D cls fp; c_tg (cl := cl) b.1 b.2.1 b.2.2.co tg t0 h3) hc (fun s H D cls fp => let b := blk s H D cls fp; pe_X (sE elt _ _ _ b.1 b.2.1 b.2.2 h6).1) hfold
      rw [hown] at h
      have h' : PE X (.ListComp x0 [⟨t0, it0, ifs0, 0⟩] scope p0) (rdX true X.K cl (evE C (.comp elt tg src cond own))) := PE.imp h fun σ H Q q => by
        rw [ev_comp] at q
        exact lc_in hp (fun i hi => by simpa using List.all_eq_true.mp h4 i hi) q
      exact ⟨h', t_plain (pe_X h') fun _ => rfl⟩
    · cases hm
  | .fld i f => okE_of rfl fun X c x hX S W hm => by
    simp only [mE] at hm
    split at hm
    · simp only [Bool.and_eq_true, decide_eq_true_eq] at hm
      obtain ⟨⟨h1, rfl⟩, h3⟩ := hm
      obtain ⟨a1, a2, a3, a4⟩ := visB_ok S h1
      exact plP (c_fld (cl := cl) W.co h3 a1 a2 a3 a4 C) fun _ => rfl
    · cases hm
  | .lfld i f => fun X c x hX S W hm => by
    simp only [mE] at hm
    split at hm
    · simp only [Bool.and_eq_true, decide_eq_true_eq] at hm
      obtain ⟨⟨⟨⟨rfl, h0⟩, h1⟩, rfl⟩, h3⟩ := hm
      obtain ⟨a1, a2, a3, a4⟩ := visB_ok S h1
      exact plX (c_lfld (cl := cl) hX W.co h3 (glB_ok S h0).1 a1 a2 a3 a4 C) fun _ => rfl
    · cases hm
  | .meth i k m as => fun X c x hX S W hm => by
    simp only [mE] at hm
    split at hm
    · rename_i y p0 n0 ap0 xs0 p1
      simp only [Bool.and_eq_true, decide_eq_true_eq] at hm
      obtain ⟨⟨⟨⟨⟨⟨h0, h00⟩, rfl⟩, h1⟩, h2⟩, h3⟩, h4⟩ := hm
      obtain ⟨a1, a2, a3, a4⟩ := visB_ok S h2
      split at h4
      · rename_i d hd
        have hr : d.ret ≠ .self := by simpa using h4
        have fe : frE T (.meth i k n0 as) = isOwn d.ret := by show (match T.fn (k ++ "." ++ n0) with | some d => isOwn d.ret | none => false) = _; rw [hd]
        rw [fe, ev_meth]
        cases xs0 with
        | nil =>
          cases as <;> simp [mAs] at h3
          rw [ev_asn]
          exact plX (c_meth0 (cl := cl) (p := p0) (ap := ap0) (pos := p1) hX W.co W.fn h1 hd hr a1 a2 a3 a4 h0) fun _ => rfl
        | cons y0 ys =>
          obtain ⟨r, hr'⟩ := tailAs h3
          have hfm : methodCallForm (y0 :: ys).length (backTo p1 (starEach (y0 :: ys) X.env)) (backToKw p1 (keywordEach [] X.env)) = true := by
            unfold methodCallForm
            rw [(noStarAs X.env h3 p1).2]
            simp only [Bool.true_and]
            show (true && decide ((y0 :: ys).length + 0 < 30)) = true
            simpa using h00
          exact plX (c_meth (cl := cl) (p := p0) (ap := ap0) (pos := p1) hX W.co W.fn h1 hd hr a1 a2 a3 a4 (sAs as _ _ _ hX S W h3) (starAs h3 _) (noStarAs _ hr' _).1 hfm h0) fun _ => rfl
      · cases h4
    · cases hm
  | .isin n a => okE_of rfl fun X c x hX S W hm => by
    simp only [mE] at hm
    split at hm
    · rename_i y p0 y0 z0 pz p1
      simp only [Bool.and_eq_true, Bool.or_eq_true, decide_eq_true_eq] at hm
      obtain ⟨⟨⟨⟨⟨rfl, h1⟩, rfl⟩, h3⟩, h4⟩, h5⟩ := hm
      have key : ∃ s : String, s ∈ (["int", "bool", "tuple", "list", "str"] : List String) ∧ z0 = Str.ofString s := by
        rcases h4 with (((h4 | h4) | h4) | h4) | h4
        · exact ⟨"int", by simp, h4⟩
        · exact ⟨"bool", by simp, h4⟩
        · exact ⟨"tuple", by simp, h4⟩
        · exact ⟨"list", by simp, h4⟩
        · exact ⟨"str", by simp, h4⟩
      obtain ⟨s, hs, rfl⟩ := key
      rw [ev_isin]
      exact plP (c_isin (cl := cl) (p := p0) (pz := pz) (pos := p1) hX hs (glB_ok S h1).1 (glB_ok S h3).1 h5 (op_of S h5 (pe_X (sE a _ _ _ hX S W h5).1))) fun _ => rfl
    · cases hm
  | .dsel ks es k => okE_of rfl fun X c x hX S W hm => by
    simp only [mE] at hm
    split at hm
    · simp only [Bool.and_eq_true, decide_eq_true_eq] at hm
      obtain ⟨⟨⟨⟨⟨⟨⟨h1, h2⟩, h3⟩, h4⟩, h5⟩, h6⟩, h7⟩, h8⟩ := hm
      obtain ⟨trs, pp, pr⟩ := (sEs es _ _ _ hX S W h7).2.2.2 h6 ks _ _ h5 h4
      rw [ev_dsel]
      exact plP (c_dsel (cl := cl) hX pp (keysB_some h5) h4 (by intro z; rw [z] at h2; simp at h2) h3 pr (pe_X (sE k _ _ _ hX S W h8).1) h1) fun _ => rfl
    · cases hm
  | .dsor ks es k d => okE_of rfl fun X c x hX S W hm => by
    simp only [mE] at hm
    split at hm
    · simp only [Bool.and_eq_true, decide_eq_true_eq] at hm
      obtain ⟨⟨⟨⟨⟨⟨⟨⟨⟨h1, rfl⟩, h2⟩, h3⟩, h4⟩, h5⟩, h6⟩, h7⟩, h8⟩, h9⟩ := hm
      obtain ⟨trs, pp, pr⟩ := (sEs es _ _ _ hX S W h7).2.2.2 h6 ks _ _ h5 h4
      rw [ev_dsor]
      exact plP (c_dsor (cl := cl) hX pp (keysB_some h5) h4 (by intro z; rw [z] at h2; simp at h2) h3 pr (pe_X (sE k _ _ _ hX S W h8).1) (pe_X (sE d _ _ _ hX S W h9).1) (m2_dict h8 h9 h1 X)) fun _ => rfl
    · cases hm
theorem sEs : ∀ es : Es, okEs T cl j C es
  | .nil => fun X c xs hX S W hm => by
    cases xs with
    | cons _ _ => simp [mEs] at hm
    | nil =>
      rw [ev_esn, ev_rsn]
      refine ⟨l_nil, fun _ => r_nil, fun _ z => absurd rfl z, fun _ ks keys pos hk hl => ?_⟩
      cases keys with
      | cons _ _ => simp at hl
      | nil =>
        cases ks with
        | cons _ _ => simp [keysB] at hk
        | nil => exact ⟨[], pps_nil, psr_nil⟩
  | .cons true e r => fun X c xs hX S W hm => by
    simp only [mEs] at hm
    split at hm
    · simp only [Bool.and_eq_true] at hm
      rw [ev_esc]
      exact ⟨l_star (pe_X (sE e _ _ _ hX S W hm.1).1) (sEs r _ _ _ hX S W hm.2).1, fun z => by simp [noStar] at z, fun z => by simp [noStar] at z, fun z => by simp [noStar] at z⟩
    · cases hm
  | .cons false e r => fun X c xs hX S W hm => by
    cases xs with
    | nil => simp [mEs] at hm
    | cons x xs =>
      simp only [mEs, Bool.and_eq_true] at hm
      have h1 := sE e _ _ _ hX S W hm.1
      have h2 := sEs r _ _ _ hX S W hm.2
      rw [ev_esc, ev_rsc]
      refine ⟨l_cons (pe_X h1.1) h2.1 (starE hm.1 _), fun z => r_cons (op_of S hm.1 (pe_X h1.1)) (h2.2.1 (by simpa [noStar] using z)) (starE hm.1 _), fun z _ pos => ?_, fun z ks keys pos hk hl => ?_⟩
      rotate_left
      · cases keys with
        | nil => simp at hl
        | cons k0 keys =>
          cases ks with
          | nil => simp [keysB] at hk
          | cons k ks =>
            have hk' : ∃ j p, k0 = some (.Constant (.str k) j p) ∧ keysB ks keys = true := by
              unfold keysB at hk
              split at hk
              · rename_i z1 z2; cases z1
              · rename_i z1 z2
                cases z1; cases z2
                simp only [Bool.and_eq_true, decide_eq_true_eq] at hk
                obtain ⟨rfl, hk⟩ := hk
                exact ⟨_, _, rfl, hk⟩
              · cases hk
            obtain ⟨j0, p0, rfl, hk2⟩ := hk'
            obtain ⟨trs, pp, pr⟩ := h2.2.2.2 (by simpa [noStar] using z) ks keys pos hk2 (by simpa using hl)
            exact ⟨_, pps_cons pe_str (pe_X h1.1) pp, psr_cons pr⟩
      cases r with
      | nil =>
        have hm2 := hm.2
        cases xs with
        | cons _ _ => simp [mEs] at hm2
        | nil =>
          rw [ev_and1, ev_or1]
          exact ⟨pe_one (pe_X h1.1), pw_of1 h1.2, pe_one (pe_X h1.1), pw_of1 h1.2⟩
      | cons s' e' r' =>
        have hm2 := hm.2
        cases xs with
        | nil => cases s' <;> simp [mEs] at hm2
        | cons y ys =>
          have hz : noStar (.cons s' e' r') = true := by simpa [noStar] using z
          obtain ⟨b1, b2, b3, b4⟩ := h2.2.2.1 hz (fun z => nomatch z) pos
          rw [ev_and2, ev_or2]
          exact ⟨c_and (pe_X h1.1) b1, w_and h1.2 b2, c_or (pe_X h1.1) b3, w_or h1.2 b4⟩
theorem sEo : ∀ o : Eo, okEo T cl j C o
  | .no => fun X c x hX S W hm => by
    cases x with
    | some _ => simp [mEo] at hm
    | none => rw [ev_no]; exact ⟨p_no, fun y e => nomatch e⟩
  | .so e => fun X c x hX S W hm => by
    cases x with
    | none => simp [mEo] at hm
    | some x =>
      have h := sE e _ _ _ hX S W (by simpa [mEo] using hm)
      rw [ev_so]
      exact ⟨p_so (pe_X h.1), fun y e => by cases e; exact ⟨_, rfl, h.2⟩⟩
theorem sAs : ∀ as : As, okAs T cl j C as
  | .nil => fun X c xs hX S W hm => by
    cases xs with
    | cons _ _ => simp [mAs] at hm
    | nil => rw [ev_asn]; exact a_nil
  | .sh e r => fun X c xs hX S W hm => by
    cases xs with
    | nil => simp [mAs] at hm
    | cons x xs =>
      have hm0 := hm
      simp only [mAs, Bool.and_eq_true] at hm
      rw [ev_ash]
      exact a_sh (pe_X (sE e _ _ _ hX S W hm.1).1) (sAs r _ _ _ hX S W hm.2) (starE hm.1 _)
  | .io i r => fun X c xs hX S W hm => by
    simp only [mAs] at hm
    split at hm
    · simp only [Bool.and_eq_true] at hm
      obtain ⟨a1, a2, a3, a4⟩ := visB_ok S hm.1
      rw [ev_aio]
      exact a_io a1 a2 a3 a4 (sAs r _ _ _ hX S W hm.2)
    · cases hm
  | .scr i r => fun X c xs hX S W hm => by
    simp only [mAs] at hm
    split at hm
    · simp only [Bool.and_eq_true] at hm
      obtain ⟨a1, a2, a3, a4⟩ := visB_ok S hm.1
      rw [ev_asc]
      exact a_scr a1 a2 a3 a4 (sAs r _ _ _ hX S W hm.2)
    · cases hm
  | .ioc f i r => fun X c xs hX S W hm => by
    simp only [mAs] at hm
    split at hm
    · simp only [Bool.and_eq_true, decide_eq_true_eq] at hm
      obtain ⟨⟨⟨⟨⟨rfl, h1⟩, h2⟩, h3⟩, h4⟩, h5⟩ := hm
      obtain ⟨a1, a2, a3, a4⟩ := visB_ok S h3
      split at h5
      · rename_i d hd
        rw [ev_aic]
        exact a_ioc hX W.fn h1 hd (by simpa using h5) (glB_ok S h2).1 a1 a2 a3 a4 (sAs r _ _ _ hX S W h4)
      · cases h5
    · cases hm
theorem sSrc : ∀ s : Src, okS T cl j C s
  | .ex e => fun X c x tg hX S W hm _ => by
    rw [ev_sex]
    exact i_ex (pe_X (sE e _ _ _ hX S W (by simpa [mSrc] using hm)).1)
  | .range e => fun X c x tg hX S W hm _ => by
    simp only [mSrc] at hm
    split at hm
    · simp only [Bool.and_eq_true, decide_eq_true_eq] at hm
      obtain ⟨⟨rfl, h1⟩, h2⟩ := hm
      rw [ev_srg]
      exact i_range hX (glB_ok S h1).1 (pe_X (sE e _ _ _ hX S W h2).1) (starE h2 _)
    · cases hm
  | .range2 a b => fun X c x tg hX S W hm _ => by
    simp only [mSrc] at hm
    split at hm
    · simp only [Bool.and_eq_true, decide_eq_true_eq] at hm
      obtain ⟨⟨⟨rfl, h1⟩, h2⟩, h3⟩ := hm
      rw [ev_srg2]
      exact i_range2 hX (glB_ok S h1).1 (pe_X (sE a _ _ _ hX S W h2).1) (pe_X (sE b _ _ _ hX S W h3).1) (starE h2 _) (starE h3 _)
    · cases hm
  | .enum e => fun X c x tg hX S W hm ht => by
    simp only [mSrc] at hm
    split at hm
    · simp only [Bool.and_eq_true, decide_eq_true_eq] at hm
      obtain ⟨⟨rfl, h1⟩, h2⟩ := hm
      obtain ⟨es, k, p, rfl⟩ := ht rfl
      rw [ev_sen]
      exact i_enum hX (glB_ok S h1).1 (pe_X (sE e _ _ _ hX S W h2).1) (starE h2 _)
    · cases hm
  | .zip a b => fun X c x tg hX S W hm ht => by
    simp only [mSrc] at hm
    split at hm
    · simp only [Bool.and_eq_true, decide_eq_true_eq] at hm
      obtain ⟨⟨⟨rfl, h1⟩, h2⟩, h3⟩ := hm
      obtain ⟨es, k, p, rfl⟩ := ht rfl
      rw [ev_szp]
      exact i_zip hX (glB_ok S h1).1 (pe_X (sE a _ _ _ hX S W h2).1) (pe_X (sE b _ _ _ hX S W h3).1) (starE h2 _) (starE h3 _)
    · cases hm
end
end
end VL

set_option Elab.async false
set_option linter.all false
set_option maxRecDepth 100000
set_option maxHeartbeats 4000000
/-! VL: statements' readings. -/
namespace VL
open PySem L2
open PyProof PyProof.Rows
def FlK (K : PySem.W.Frag) (cl : ClsT) (F : FP) (env' : Env) (H : Hp) (Z : AddrS) (D : Ends) : Fl → Prop
  | .nx => ∀ σ' H' G', SR K cl F env' G' σ' H' → Step H Z H' (Zf F G') → D.nx σ' H'
  | .bk => ∀ σ' H' G', SR K cl F env' G' σ' H' → Step H Z H' (Zf F G') → D.bk σ' H'
  | .ct => ∀ σ' H' G', SR K cl F env' G' σ' H' → Step H Z H' (Zf F G') → D.ct σ' H'
  | .rt d => ∀ v σ' H' G', SR K cl F env' G' σ' H' → Step H Z H' (Zf F G') → Rep K H' (Zf F G') v d → D.rt v H'
  | .ro d => ∀ p xs ds i σ' H' G', d = .list ds → SR K cl F env' G' σ' H' → Step H Z H' (Zf F G') → H' p = some (.lst xs) → RepAll K H' (Zf F G') xs ds → G' i = [p] → (∀ o, getS env' i ≠ .io o) → F.Fre p → ¬ F.Zc p → D.rt (.ref p) H'
  | .rs i => ∀ v σ' H' G', SR K cl F env' G' σ' H' → Step H Z H' (Zf F G') → σ'[i]? = some (some v) → (∃ o, getS env' i = .io o) → D.rt v H'
theorem FlK.back {K : PySem.W.Frag} {cl : ClsT} {F : FP} {env' : Env} {H H1 : Hp} {Z Z1 : AddrS} {D : Ends} {f : Fl} (h : FlK K cl F env' H Z D f) (s : Step H Z H1 Z1) : FlK K cl F env' H1 Z1 D f := by
  cases f with
  | nx => exact fun σ' H' G' S st => h σ' H' G' S (s.trans st)
  | bk => exact fun σ' H' G' S st => h σ' H' G' S (s.trans st)
  | ct => exact fun σ' H' G' S st => h σ' H' G' S (s.trans st)
  | rt d => exact fun v σ' H' G' S st => h v σ' H' G' S (s.trans st)
  | ro d => exact fun p xs ds i σ' H' G' e S st => h p xs ds i σ' H' G' e S (s.trans st)
  | rs i => exact fun v σ' H' G' S st => h v σ' H' G' S (s.trans st)
def rdS (K : PySem.W.Frag) (cl : ClsT) (ev : Env → Option (Fl × Env)) : TS := fun D σ H => ∃ F G env f env', SR K cl F env G σ H ∧ ev env = some (f, env') ∧ FlK K cl F env' H (Zf F G) D f
theorem PS.imp {X : Cx} {s : Stmt} {t t' : TS} (h : PS X s t) (i : ∀ D σ H, t' D σ H → t D σ H) : PS X s t' := ⟨fun pins st σ H D I q => h.run pins st σ H D I (i D σ H q)⟩
theorem PSs.imp {X : Cx} {s : List Stmt} {t t' : TS} (h : PSs X s t) (i : ∀ D σ H, t' D σ H → t D σ H) : PSs X s t' := ⟨fun pins st σ H D I q => h.run pins st σ H D I (i D σ H q)⟩
section
variable {X : Cx} {cl : ClsT} {k j : Nat} {c : Sc} {C : Calls}
def seqf (f g : Env → Option (Fl × Env)) (env : Env) : Option (Fl × Env) := do
  let (x, env) ← f env
  match x with
  | .nx => g env
  | x => some (x, env)
theorem s_nil : PSs X [] (rdS X.K cl fun env => some (.nx, env)) := PSs.imp pss_nil fun D σ H ⟨F, G, env, f, env', S, e, q⟩ => by
  simp only [Option.some.injEq, Prod.mk.injEq] at e
  obtain ⟨rfl, rfl⟩ := e
  exact q σ H G S .refl
theorem s_cons {st : Stmt} {sts : List Stmt} {f g : Env → Option (Fl × Env)} (h1 : PS X st (rdS X.K cl f)) (h2 : PSs X sts (rdS X.K cl g)) : PSs X (st :: sts) (rdS X.K cl (seqf f g)) :=
  PSs.imp (pss_cons h1 h2) fun D σ H ⟨F, G, env, x, env', S, e, q⟩ => by
    simp only [seqf, Option.bind_eq_bind, Option.bind_eq_some_iff, Prod.exists] at e
    obtain ⟨y, env1, e1, e2⟩ := e
    refine ⟨F, G, env, y, env1, S, e1, ?_⟩
    cases y with
    | nx => exact fun σ' H' G' S' st => ⟨F, G', env1, x, env', S', e2, q.back st⟩
    | _ =>
      simp only [Option.some.injEq, Prod.mk.injEq] at e2
      obtain ⟨rfl, rfl⟩ := e2
      exact q
theorem s_if {x : Expr} {a b : List Stmt} {pos : Pos} {t : Env → Option (Bool × Env)} {f g : Env → Option (Fl × Env)} (hc : PT X x (rdT X.K cl t)) (ha : PSs X a (rdS X.K cl f)) (hb : PSs X b (rdS X.K cl g)) : PS X (.If x a b pos) (rdS X.K cl fun env => do
    let (k, env) ← t env
    if k then f env else g env) :=
  PS.imp (ps_if hc ha hb) fun D σ H ⟨F, G, env, y, env', S, e, q⟩ => by
    simp only [Option.bind_eq_bind, Option.bind_eq_some_iff, Prod.exists] at e
    obtain ⟨kk, env1, e1, e2⟩ := e
    refine ⟨F, G, env, kk, env1, S, e1, fun H1 G1 S1 st1 => ?_⟩
    cases kk with
    | true => exact ⟨F, G1, env1, y, env', S1, e2, q.back st1⟩
    | false => exact ⟨F, G1, env1, y, env', S1, e2, q.back st1⟩
theorem s_for {b : Bool} {tg : Tg} {tge it : Expr} {body : List Stmt} {pos : Pos} {fs : Env → Option (List PyData × Env)} {f : Env → Option (Fl × Env)} (hb : b = true → isTp tg = true) (hp : PassesOwn (model X.prog X.w) X.A X.env X.xe) (hc : X.calm = true)
    (hi : PI X tge it (rdI b X.K cl fs)) (hg : PG X tge (rdG X.K cl tg)) (hbd : PSs X body (rdS X.K cl f)) (hs : ∀ x, foldedSetIterable it X.env x = pure x) : PS X (.For tge it body [] pos) (rdS X.K cl fun env => do
    let (ds, env) ← fs env
    forGo tg f ds env) :=
  PS.imp (ps_for hp hc hi hg hbd hs) fun D σ H ⟨F, G, env, y, env', S, e, q⟩ => by
    simp only [Option.bind_eq_bind, Option.bind_eq_some_iff, Prod.exists] at e
    obtain ⟨ds, env1, e1, e2⟩ := e
    refine ⟨F, G, env, ds, env1, S, e1, fun J H1 G1 S1 st1 ok => ?_⟩
    refine ⟨fun i m σ H => i ≤ ds.length ∧ m = ds.length - i ∧ ∃ env_i G, SR X.K cl F env_i G σ H ∧ forGo tg f (ds.drop i) env_i = some (y, env') ∧ Step H1 (Zf F G1) H (Zf F G), ⟨ds.length, Nat.zero_le _, rfl, env1, G1, S1, by simpa using e2, .refl⟩, ?_⟩
    rintro i m σ2 H2 ⟨hi, rfl, env_i, G2, S2, hgo, st⟩
    obtain ⟨stop, items⟩ := ok H2 (Zf F G2) st
    by_cases hlt : i < ds.length
    · refine .inr ?_
      obtain ⟨go, yld⟩ := items i _ (List.getElem?_eq_getElem hlt)
      refine ⟨go, fun σ' H' => i + 1 ≤ ds.length ∧ ∃ env_i G, SR X.K cl F env_i G σ' H' ∧ forGo tg f (ds.drop (i + 1)) env_i = some (y, env') ∧ Step H1 (Zf F G1) H' (Zf F G), fun σ' H' ⟨a, z⟩ => ⟨ds.length - (i + 1), by omega, a, rfl, z⟩, fun x H3 hy => ?_⟩
      obtain ⟨ext, pr⟩ := yld x H3 hy
      rw [List.drop_eq_getElem_cons hlt] at hgo
      simp only [forGo, Option.bind_eq_bind, Option.bind_eq_some_iff, Prod.exists] at hgo
      obtain ⟨e1', hput, fl, e2', hbody, hrest⟩ := hgo
      have S3 := S2.heap ext
      have tr : TRep tg X.K H3 (Zf F G2) x ds[i] := by
        cases hb' : b with
        | false =>
          rw [hb'] at pr
          have pr : Rep X.K H3 (Zf F G2) x ds[i] := pr
          cases tg with
          | tp l => exact .inl pr
          | _ => exact pr
        | true =>
          rw [hb'] at pr
          have pr : YRep X.K H3 (Zf F G2) x ds[i] := pr
          have ht := hb hb'
          cases tg with
          | tp l => exact pr
          | _ => simp [isTp] at ht
      refine ⟨F, G2, env_i, ds[i], e1', S3, tr, hput, fun σ4 H4 G4 S4 st4 _ _ => ⟨F, G4, e1', fl, e2', S4, hbody, ?_⟩⟩
      have stt := (st.trans (Ext.step ext)).trans st4
      cases fl with
      | nx => exact fun σ5 H5 G5 S5 st5 => ⟨by omega, e2', G5, S5, hrest, stt.trans st5⟩
      | ct => exact fun σ5 H5 G5 S5 st5 => ⟨by omega, e2', G5, S5, hrest, stt.trans st5⟩
      | bk =>
        simp only [Option.some.injEq, Prod.mk.injEq] at hrest
        obtain ⟨rfl, rfl⟩ := hrest
        exact fun σ5 H5 G5 S5 st5 => q σ5 H5 G5 S5 ((st1.trans stt).trans st5)
      | rt d =>
        simp only [Option.some.injEq, Prod.mk.injEq] at hrest
        obtain ⟨rfl, rfl⟩ := hrest
        exact q.back (st1.trans stt)
      | ro d =>
        simp only [Option.some.injEq, Prod.mk.injEq] at hrest
        obtain ⟨rfl, rfl⟩ := hrest
        exact q.back (st1.trans stt)
      | rs d =>
        simp only [Option.some.injEq, Prod.mk.injEq] at hrest
        obtain ⟨rfl, rfl⟩ := hrest
        exact q.back (st1.trans stt)
    · have hie : i = ds.length := by omega
      subst hie
      rw [List.drop_length] at hgo
      simp only [forGo, Option.some.injEq, Prod.mk.injEq] at hgo
      obtain ⟨rfl, rfl⟩ := hgo
      exact .inl ⟨stop, q σ2 H2 G2 S2 (st1.trans st)⟩
theorem s_while {N : Nat} {x : Expr} {body : List Stmt} {pos : Pos} {t : Env → Option (Bool × Env)} {f : Env → Option (Fl × Env)} (hp : PassesOwn (model X.prog X.w) X.A X.env X.xe) (hc : PT X x (rdT X.K cl t)) (hb : PSs X body (rdS X.K cl f)) :
    PS X (.While x body [] pos) (rdS X.K cl (whileGo t f N)) :=
  PS.imp (ps_while hp hc hb) fun D σ H ⟨F, G, env, y, env', S, e, q⟩ => by
    refine ⟨fun m σ H' => ∃ env_i G', SR X.K cl F env_i G' σ H' ∧ whileGo t f m env_i = some (y, env') ∧ Step H (Zf F G) H' (Zf F G'), ⟨N, env, G, S, e, .refl⟩, ?_⟩
    rintro m σ1 H1 ⟨env_i, G1, S1, hgo, st⟩
    cases m with
    | zero => simp [whileGo] at hgo
    | succ m =>
      simp only [whileGo, Option.bind_eq_bind, Option.bind_eq_some_iff, Prod.exists] at hgo
      obtain ⟨kk, env2, e1, e2⟩ := hgo
      refine ⟨F, G1, env_i, kk, env2, S1, e1, fun H2 G2 S2 st2 => ?_⟩
      cases kk with
      | false =>
        simp only [Bool.false_eq_true, if_false, Option.some.injEq, Prod.mk.injEq] at e2 ⊢
        obtain ⟨rfl, rfl⟩ := e2
        exact q σ1 H2 G2 S2 (st.trans st2)
      | true =>
        simp only [if_true, Option.bind_eq_some_iff, Prod.exists] at e2 ⊢
        obtain ⟨fl, env3, e3, e4⟩ := e2
        refine ⟨fun σ' H' => ∃ env_i G', SR X.K cl F env_i G' σ' H' ∧ whileGo t f m env_i = some (y, env') ∧ Step H (Zf F G) H' (Zf F G'), fun σ' H' z => ⟨m, Nat.lt_succ_self _, z⟩, F, G2, env2, fl, env3, S2, e3, ?_⟩
        have stt := st.trans st2
        cases fl with
        | nx => exact fun σ5 H5 G5 S5 st5 => ⟨env3, G5, S5, e4, stt.trans st5⟩
        | ct => exact fun σ5 H5 G5 S5 st5 => ⟨env3, G5, S5, e4, stt.trans st5⟩
        | bk =>
          simp only [Option.some.injEq, Prod.mk.injEq] at e4
          obtain ⟨rfl, rfl⟩ := e4
          exact fun σ5 H5 G5 S5 st5 => q σ5 H5 G5 S5 (stt.trans st5)
        | rt d =>
          simp only [Option.some.injEq, Prod.mk.injEq] at e4
          obtain ⟨rfl, rfl⟩ := e4
          exact q.back stt
        | ro d =>
          simp only [Option.some.injEq, Prod.mk.injEq] at e4
          obtain ⟨rfl, rfl⟩ := e4
          exact q.back stt
        | rs d =>
          simp only [Option.some.injEq, Prod.mk.injEq] at e4
          obtain ⟨rfl, rfl⟩ := e4
          exact q.back stt
/-! ### the small ones -/
theorem s_pass {pos : Pos} : PS X (.Pass pos) (rdS X.K cl fun env => some (.nx, env)) := PS.imp ps_pass fun D σ H ⟨F, G, env, f, env', S, e, q⟩ => by
  simp only [Option.some.injEq, Prod.mk.injEq] at e
  obtain ⟨rfl, rfl⟩ := e
  exact q σ H G S .refl
theorem s_doc {x : Str} {i : Nat} {pos pos' : Pos} : PS X (.Expr (.Constant (.str x) i pos) pos') (rdS X.K cl fun env => some (.nx, env)) := PS.imp ps_doc fun D σ H ⟨F, G, env, f, env', S, e, q⟩ => by
  simp only [Option.some.injEq, Prod.mk.injEq] at e
  obtain ⟨rfl, rfl⟩ := e
  exact q σ H G S .refl
theorem s_brk {pos : Pos} : PS X (.Break pos) (rdS X.K cl fun env => some (.bk, env)) := PS.imp ps_break fun D σ H ⟨F, G, env, f, env', S, e, q⟩ => by
  simp only [Option.some.injEq, Prod.mk.injEq] at e
  obtain ⟨rfl, rfl⟩ := e
  exact q σ H G S .refl
theorem s_cnt {pos : Pos} : PS X (.Continue pos) (rdS X.K cl fun env => some (.ct, env)) := PS.imp ps_continue fun D σ H ⟨F, G, env, f, env', S, e, q⟩ => by
  simp only [Option.some.injEq, Prod.mk.injEq] at e
  obtain ⟨rfl, rfl⟩ := e
  exact q σ H G S .refl
theorem s_never {st : Stmt} : PS X st (rdS X.K cl fun _ => none) := PS.imp ps_never fun D σ H ⟨F, G, env, f, env', S, e, q⟩ => by cases e
theorem s_ret {x : Expr} {pos : Pos} {f : Env → Option (PyData × Env)} (h : PE X x (rdE X.K cl f)) : PS X (.Return (some x) pos) (rdS X.K cl fun env => (f env).map fun p => (.rt p.1, p.2)) := PS.imp (ps_ret h) fun D σ H ⟨F, G, env, y, env', S, e, q⟩ => by
  simp only [Option.map_eq_some_iff, Prod.mk.injEq, Prod.exists] at e
  obtain ⟨d, e', e1, rfl, rfl⟩ := e
  exact ⟨F, G, env, d, _, S, e1, fun v H' G' S' s r => q v σ H' G' S' s r⟩
theorem s_retN {pos : Pos} : PS X (.Return none pos) (rdS X.K cl fun env => some (.rt .none, env)) := PS.imp ps_retN fun D σ H ⟨F, G, env, f, env', S, e, q⟩ => by
  simp only [Option.some.injEq, Prod.mk.injEq] at e
  obtain ⟨rfl, rfl⟩ := e
  exact q .non σ H G S .refl .non
def rof (f : Env → Option (PyData × Env)) (env : Env) : Option (Fl × Env) := do
  let (d, env) ← f env
  match d with
  | .list _ => some (.ro d, env)
  | _ => none
theorem s_retO {x : Expr} {pos : Pos} {f : Env → Option (PyData × Env)} (h : PE X x (rdX true X.K cl f)) : PS X (.Return (some x) pos) (rdS X.K cl (rof f)) := PS.imp (ps_ret h) fun D σ H ⟨F, G, env, y, env', S, e, q⟩ => by
  simp only [rof, Option.bind_eq_bind, Option.bind_eq_some_iff, Prod.exists] at e
  obtain ⟨d, e', e1, e2⟩ := e
  split at e2
  · rename_i l
    simp only [Option.some.injEq, Prod.mk.injEq] at e2
    obtain ⟨rfl, rfl⟩ := e2
    refine ⟨F, G, env, _, _, S, e1, fun v H' G' S' s r fr => ?_⟩
    obtain ⟨G2, p, xs, ds, rfl, h1, S2, st2, hp, ra, hg⟩ := fr rfl
    obtain ⟨_, p2, p3⟩ := S2.pd _ (Nat.le_refl _) p (by rw [hg]; simp)
    refine q p xs ds σ.length σ H' G2 h1 S2 st2 hp ra hg (fun o e => ?_) (.inl p2) p3
    have := getS_lt (env := e') (i := σ.length) (by rw [e]; exact fun z => nomatch z)
    rw [S2.len] at this; omega
  · cases e2
def rvf (i : Nat) (env : Env) : Option (Fl × Env) := match getS env i with
  | .own (.lst l) => some (.ro (.list l), env)
  | _ => none
theorem s_retV {i : Nat} {x : Str} {p pos : Pos} (hN : X.N[i]? = some x) (hv : Vis X.env.scope x) (hd : (x == ("__debug__" : Str)) = false) (hcd : (x == ("__classdict__" : Str)) = false) : PS X (.Return (some (.Name x p)) pos) (rdS X.K cl (rvf i)) := PS.imp (ps_ret (pe_var hN hv hd hcd)) fun D σ H ⟨F, G, env, y, env', S, e, q⟩ => by
  unfold rvf at e
  split at e
  · rename_i l hl
    simp only [Option.some.injEq, Prod.mk.injEq] at e
    obtain ⟨rfl, rfl⟩ := e
    obtain ⟨v, hv, ow, pr⟩ := S.own i _ hl
    obtain ⟨a, xs, rfl, h1, h2, hg⟩ := ow.lstInv
    obtain ⟨p1, p2⟩ := pr a (by rw [hg]; simp)
    exact ⟨_, hv, q a xs l i σ H G rfl S .refl h1 h2 hg (fun o e => by rw [hl] at e; cases e) p1.fre p2⟩
  · cases e
def rsf (i : Nat) (env : Env) : Option (Fl × Env) := match getS env i with
  | .io _ => some (.rs i, env)
  | _ => none
theorem s_retS {i : Nat} {x : Str} {p pos : Pos} (hN : X.N[i]? = some x) (hv : Vis X.env.scope x) (hd : (x == ("__debug__" : Str)) = false) (hcd : (x == ("__classdict__" : Str)) = false) : PS X (.Return (some (.Name x p)) pos) (rdS X.K cl (rsf i)) := PS.imp (ps_ret (pe_var hN hv hd hcd)) fun D σ H ⟨F, G, env, y, env', S, e, q⟩ => by
  unfold rsf at e
  split at e
  · rename_i l hl
    simp only [Option.some.injEq, Prod.mk.injEq] at e
    obtain ⟨rfl, rfl⟩ := e
    obtain ⟨v, hv, _⟩ := S.io i _ hl
    exact ⟨_, hv, q v σ H G S .refl hv ⟨_, hl⟩⟩
  · cases e
theorem s_ex {x : Expr} {pos : Pos} {f : Env → Option (PyData × Env)} (h : PE X x (rdE X.K cl f)) (hs : swapsWith x none pos.line X.env = pure false) : PS X (.Expr x pos) (rdS X.K cl fun env => (f env).map fun p => (.nx, p.2)) := PS.imp (ps_expr h hs) fun D σ H ⟨F, G, env, y, env', S, e, q⟩ => by
  simp only [Option.map_eq_some_iff, Prod.mk.injEq, Prod.exists] at e
  obtain ⟨d, e', e1, rfl, rfl⟩ := e
  exact ⟨F, G, env, d, _, S, e1, fun v H' G' S' s r => q σ H' G' S' s⟩
theorem s_asg {tg : Tg} {tge x : Expr} {pos : Pos} {f : Env → Option (PyData × Env)} (h : PE X x (rdE X.K cl f)) (hg : PG X tge (rdG X.K cl tg)) (hs : swapsWithSole [tge] x pos.line X.env = pure false) (hw : swappedStores [tge] x X.env = pure none) (h1 : (assignEach [tge] X.env).map (·.2) = [assign tge X.env]) :
    PS X (.Assign [tge] x pos) (rdS X.K cl fun env => do
      let (d, env) ← f env
      let env ← putTg tg d env
      some (.nx, env)) := PS.imp (ps_asg h hg hs hw h1) fun D σ H ⟨F, G, env, y, env', S, e, q⟩ => by
  simp only [Option.bind_eq_bind, Option.bind_eq_some_iff, Prod.exists, Option.some.injEq, Prod.mk.injEq] at e
  obtain ⟨d, env1, e1, env2, e2, rfl, rfl⟩ := e
  refine ⟨F, G, env, d, env1, S, e1, fun v H1 G1 S1 st1 r1 => ⟨F, G1, env1, d, env2, S1, ?_, e2, fun σ' H' G' S' st' _ _ => q σ' H' G' S' (st1.trans st')⟩⟩
  cases tg with
  | tp l => exact .inl r1
  | _ => exact r1
/-! ### names -/
def setf (i : Nat) (f : Env → Option (PV × Env)) (env : Env) : Option (Fl × Env) := do
  let (v, env) ← f env
  let env ← putPs [i] [v] env
  some (.nx, env)
theorem set_rd {i : Nat} {f : Env → Option (PV × Env)} {D : Ends} {σ : L2.St} {H : Hp} {te : TE} (it : ∀ Q, rdV X.K cl f σ H Q → te σ H Q) (h : rdS X.K cl (setf i f) D σ H) : tAsg te (gName i) D σ H := by
  obtain ⟨F, G, env, y, env', S, e, q⟩ := h
  simp only [setf, Option.bind_eq_bind, Option.bind_eq_some_iff, Prod.exists, Option.some.injEq, Prod.mk.injEq] at e
  obtain ⟨d, env1, e1, env2, e2, rfl, rfl⟩ := e
  refine it _ ⟨F, G, env, d, env1, S, e1, fun v H1 G1 S1 st1 r1 => ?_⟩
  obtain ⟨G2, S2, st2, _⟩ := puts_ok S1 (Nat.le_refl _) (.cons r1 .nil) e2
  exact q _ H1 G2 S2 (st1.trans st2)
theorem s_set {i : Nat} {n : Str} {x : Expr} {p pos : Pos} {f : Env → Option (PV × Env)} (hN : X.N.Nodup) (hi : X.N[i]? = some n) (hx : L2.Loc X.env.scope n) (hf : X.fn n = true ∨ X.env.scope.names.lookup n = some .local) (h : PE X x (rdV X.K cl f)) (hs : swapsWith x (some (.Name n p)) pos.line X.env = pure false) :
    PS X (.Assign [.Name n p] x pos) (rdS X.K cl (setf i f)) := PS.imp (ps_set hN hi hx h hs hf) fun D σ H q => set_rd (fun _ z => z) q
end
end VL

set_option Elab.async false
set_option linter.all false
set_option maxRecDepth 100000
set_option maxHeartbeats 4000000
/-! VL: statements that write. -/
namespace VL
open PySem L2
open PyProof PyProof.Rows
section
variable {X : Cx} {cl : ClsT} {k j : Nat} {c : Sc} {C : Calls} {f g : Env → Option (PyData × Env)}
def appF (i : Nat) (f : Env → Option (PyData × Env)) (env : Env) : Option (Fl × Env) := do
  let _ ← lstOf (getS env i)
  let (d, env) ← f env
  let l ← lstOf (getS env i)
  if l.length < lineN then some (.nx, putO env i (.lst (l ++ [d]))) else none
theorem s_app {T : Tb} {i : Nat} {n : Str} {e : E} {p ap cp pos : Pos} {y : Expr} (hN : X.N[i]? = some n) (hv : Vis X.env.scope n) (hd : (n == ("__debug__" : Str)) = false) (hcd : (n == ("__classdict__" : Str)) = false) (hy : mE T e c y = true)
    (hl : (ap.endLine == cp.line) = true) (ha : PE X y (rdE X.K cl f)) : PS X (.Expr (.Call (.Attribute (.Name n p) "append" ap) [y] [] cp) pos) (rdS X.K cl (appF i f)) :=
  PS.imp (ps_expr (pe_bmX (pe_var hN hv hd hcd) (pa_one ha (starE hy _)) rfl (few1 hy _ _) hl (starE hy _) rfl) rfl) fun D σ H ⟨F, G, env, y, env', S, e, q⟩ => by
    simp only [appF, Option.bind_eq_bind, Option.bind_eq_some_iff, Prod.exists] at e
    obtain ⟨l0, e0, d, env1, e1, l1, e2, e3⟩ := e
    split at e3
    · rename_i hlt
      simp only [Option.some.injEq, Prod.mk.injEq] at e3
      obtain ⟨rfl, rfl⟩ := e3
      obtain ⟨p0, xs0, hs0, hp0, _⟩ := S.putL e0
      refine ⟨_, hs0, "list", _, _, ⟨PySem.F.plainAttrs_list, PySem.F.slot_list_append, PySem.F.type_list_append, mt_append⟩, .inl ⟨rfl, p0, xs0, rfl, .inl (.inl hp0)⟩, F, G, env, d, env1, S, e1, fun w H1 G1 S1 st1 r1 => ?_⟩
      obtain ⟨p1, xs1, hs1, hp1, ra, zp, put⟩ := S1.putL e2
      rw [hs0] at hs1; cases hs1
      obtain ⟨S2, st2⟩ := put _ _ (ra.append (.cons r1 .nil))
      exact ⟨p0, xs1, w, rfl, rfl, hp1, by rw [ra.length, lineEq]; exact hlt, q σ _ G1 S2 (st1.trans st2)⟩
    · cases e3
def extF (i : Nat) (f : Env → Option (PyData × Env)) (env : Env) : Option (Fl × Env) := do
  let _ ← lstOf (getS env i)
  let (d, env) ← f env
  let l ← lstOf (getS env i)
  match d with
  | .list ds => if l.length + ds.length ≤ lineN then some (.nx, putO env i (.lst (l ++ ds))) else none
  | _ => none
theorem s_ext {T : Tb} {i : Nat} {n : Str} {e : E} {p ap cp pos : Pos} {y : Expr} (hN : X.N[i]? = some n) (hv : Vis X.env.scope n) (hd : (n == ("__debug__" : Str)) = false) (hcd : (n == ("__classdict__" : Str)) = false) (hy : mE T e c y = true)
    (hl : (ap.endLine == cp.line) = true) (ha : PE X y (rdE X.K cl f)) : PS X (.Expr (.Call (.Attribute (.Name n p) "extend" ap) [y] [] cp) pos) (rdS X.K cl (extF i f)) :=
  PS.imp (ps_expr (pe_bmX (pe_var hN hv hd hcd) (pa_one ha (starE hy _)) rfl (few1 hy _ _) hl (starE hy _) rfl) rfl) fun D σ H ⟨F, G, env, y, env', S, e, q⟩ => by
    simp only [extF, Option.bind_eq_bind, Option.bind_eq_some_iff, Prod.exists] at e
    obtain ⟨l0, e0, d, env1, e1, l1, e2, e3⟩ := e
    split at e3
    · rename_i ds
      split at e3
      · rename_i hlt
        simp only [Option.some.injEq, Prod.mk.injEq] at e3
        obtain ⟨rfl, rfl⟩ := e3
        obtain ⟨p0, xs0, hs0, hp0, _⟩ := S.putL e0
        refine ⟨_, hs0, "list", _, _, ⟨PySem.F.plainAttrs_list, PySem.F.slot_list_extend, PySem.F.type_list_extend, mt_extend⟩, .inl ⟨rfl, p0, xs0, rfl, .inl (.inl hp0)⟩, F, G, env, _, env1, S, e1, fun w H1 G1 S1 st1 r1 => ?_⟩
        obtain ⟨p1, xs1, hs1, hp1, ra, zp, put⟩ := S1.putL e2
        rw [hs0] at hs1; cases hs1
        cases r1 with
        | lst hb rb =>
          obtain ⟨S2, st2⟩ := put _ _ (ra.append rb)
          exact ⟨p0, _, xs1, _, rfl, rfl, hp1, hb.1, by rw [ra.length, rb.length, lineEq]; exact hlt, q σ _ G1 S2 (st1.trans st2)⟩
      · cases e3
    · cases e3
def insF (i : Nat) (g f : Env → Option (PyData × Env)) (env : Env) : Option (Fl × Env) := do
  let _ ← lstOf (getS env i)
  let (k, env) ← g env
  let (d, env) ← f env
  let l ← lstOf (getS env i)
  match k with
  | .int k => if 0 ≤ k ∧ k < 4611686018427387904 ∧ l.length < lineN then some (.nx, putO env i (.lst (insD l k.toNat d))) else none
  | _ => none
theorem s_ins {T : Tb} {i : Nat} {n : Str} {e e2 : E} {p ap cp pos : Pos} {y z : Expr} (hN : X.N[i]? = some n) (hv : Vis X.env.scope n) (hd : (n == ("__debug__" : Str)) = false) (hcd : (n == ("__classdict__" : Str)) = false) (hz : mE T e2 c z = true) (hy : mE T e c y = true)
    (hl : (ap.endLine == cp.line) = true) (hg : PE X z (rdE X.K cl g)) (ha : PE X y (rdE X.K cl f)) : PS X (.Expr (.Call (.Attribute (.Name n p) "insert" ap) [z, y] [] cp) pos) (rdS X.K cl (insF i g f)) :=
  PS.imp (ps_expr (pe_bmX (pe_var hN hv hd hcd) (pa_cons hg (pa_one ha (starE hy _)) (starE hz _)) rfl (by rw [starE hz, starE hy]; rfl) hl (starE hz _) (by rw [starE hy]; rfl)) rfl) fun D σ H ⟨F, G, env, y, env', S, e, q⟩ => by
    simp only [insF, Option.bind_eq_bind, Option.bind_eq_some_iff, Prod.exists] at e
    obtain ⟨l0, e0, kd, env1, e1, d, env2, e2, l1, e3, e4⟩ := e
    split at e4
    · rename_i kk
      split at e4
      · rename_i hlt
        simp only [Option.some.injEq, Prod.mk.injEq] at e4
        obtain ⟨rfl, rfl⟩ := e4
        obtain ⟨p0, xs0, hs0, hp0, _⟩ := S.putL e0
        refine ⟨_, hs0, "list", _, _, ⟨PySem.F.plainAttrs_list, PySem.F.slot_list_insert, PySem.F.type_list_insert, mt_insert⟩, .inl ⟨rfl, p0, xs0, rfl, .inl (.inl hp0)⟩, F, G, env, _, env1, S, e1, fun w H1 G1 S1 st1 r1 => ⟨F, G1, env1, d, env2, S1, e2, fun w2 H2 G2 S2 st2 r2 => ?_⟩⟩
        obtain ⟨p1, xs1, hs1, hp1, ra, zp, put⟩ := S2.putL e3
        rw [hs0] at hs1; cases hs1
        cases r1
        obtain ⟨S3, st3⟩ := put _ (insD l1 kk.toNat d) (((ra.take kk.toNat).append (.cons r2 .nil)).append (ra.drop kk.toNat) |> fun z => by simpa [insD] using z)
        exact ⟨p0, xs1, kk, w2, rfl, rfl, hp1, by rw [ra.length, lineEq]; exact hlt.2.2, hlt.1, by omega, by
          have := q σ _ G2 S3 ((st1.trans st2).trans st3)
          simpa using this⟩
      · cases e4
    · cases e4
def setiF (i : Nat) (g f : Env → Option (PyData × Env)) (env : Env) : Option (Fl × Env) := do
  let (d, env) ← f env
  let _ ← lstOf (getS env i)
  let (k, env) ← g env
  let l ← lstOf (getS env i)
  match k with
  | .int k => if 0 ≤ k ∧ k < l.length then some (.nx, putO env i (.lst (l.set k.toNat d))) else none
  | _ => none
theorem asgSub {o y : Expr} {p : Pos} {env : PySem.Env} (h : noSl y = true) : ∀ v, assign (.Subscript o y p) env v = (do
      let ov ← holding [v] (eval o env)
      let iv ← holding [v, ov] (eval y env)
      standAt p
      holding [v, ov, iv] (setItem ov iv v)
      release [v, ov, iv] []) := by
  intro v
  cases y <;> first | rfl | cases h
theorem swSub {o y x : Expr} {p : Pos} {l : Nat} {env : PySem.Env} : swapsWithSole [.Subscript o y p] x l env = pure false := by
  cases x <;> rfl
theorem swSub2 {o y x : Expr} {p : Pos} {env : PySem.Env} : swappedStores [.Subscript o y p] x env = pure none := by
  cases x <;> rfl
theorem s_seti {i : Nat} {n : Str} {p p2 pos : Pos} {y x : Expr} (hN : X.N[i]? = some n) (hv : Vis X.env.scope n) (hd : (n == ("__debug__" : Str)) = false) (hcd : (n == ("__classdict__" : Str)) = false) (hy : noSl y = true)
    (hg : PE X y (rdE X.K cl g)) (hf : PE X x (rdE X.K cl f)) : PS X (.Assign [.Subscript (.Name n p) y p2] x pos) (rdS X.K cl (setiF i g f)) :=
  PS.imp (ps_asg hf (pg_sub (pe_var hN hv hd hcd) hg set_list (asgSub hy)) swSub swSub2 rfl) fun D σ H ⟨F, G, env, y, env', S, e, q⟩ => by
    simp only [setiF, Option.bind_eq_bind, Option.bind_eq_some_iff, Prod.exists] at e
    obtain ⟨d, env1, e1, l0, e0, kd, env2, e2, l1, e3, e4⟩ := e
    split at e4
    · rename_i kk
      split at e4
      · rename_i hlt
        simp only [Option.some.injEq, Prod.mk.injEq] at e4
        obtain ⟨rfl, rfl⟩ := e4
        refine ⟨F, G, env, d, env1, S, e1, fun v H1 G1 S1 st1 r1 => ?_⟩
        obtain ⟨p0, xs0, hs0, hp0, _⟩ := S1.putL e0
        refine ⟨_, hs0, F, G1, env1, _, env2, S1, e2, fun w H2 G2 S2 st2 r2 => ?_⟩
        obtain ⟨p1, xs1, hs1, hp1, ra, zp, put⟩ := S2.putL e3
        rw [hs0] at hs1; cases hs1
        cases r2
        obtain ⟨S3, st3⟩ := put _ _ (ra.set kk.toNat (r1.step st2))
        have hl := ra.length
        refine ⟨p0, xs1, kk, kk.toNat, rfl, rfl, hp1, ?_, q σ _ G2 S3 ((st1.trans st2).trans st3)⟩
        unfold ixN
        rw [if_pos hlt.1, if_pos (by omega)]
      · cases e4
    · cases e4
/-! ### fields -/
def sfldF (i : Nat) (f : Str) (g : Env → Option (PyData × Env)) (env : Env) : Option (Fl × Env) := do
  let (d, env) ← g env
  let (c, fs) ← fldsOf (getS env i)
  if fs.length < 100 then some (.nx, putO env i (.obj c (putFl f (.d d) fs))) else none
theorem swFld {o x : Expr} {f : Str} {p : Pos} {l : Nat} {env : PySem.Env} : swapsWith x (some (.Attribute o f p)) l env = pure false := by
  cases x <;> rfl
theorem s_sfld {T : Tb} {i : Nat} {n f : Str} {p p2 pos : Pos} {x : Expr} (co : COk T X cl) (hfl : f ∈ T.fl) (hN : X.N[i]? = some n) (hv : Vis X.env.scope n) (hd : (n == ("__debug__" : Str)) = false) (hcd : (n == ("__classdict__" : Str)) = false) (hg : PE X x (rdE X.K cl g)) :
    PS X (.Assign [.Attribute (.Name n p) f p2] x pos) (rdS X.K cl (sfldF i f g)) :=
  PS.imp (ps_fld (pe_var hN hv hd hcd) hg swFld) fun D σ H ⟨F, G, env, y, env', S, e, q⟩ => by
    simp only [sfldF, Option.bind_eq_bind, Option.bind_eq_some_iff, Prod.exists] at e
    obtain ⟨d, env1, e1, c, fs, e2, e3⟩ := e
    split at e3
    · rename_i hlt
      simp only [Option.some.injEq, Prod.mk.injEq] at e3
      obtain ⟨rfl, rfl⟩ := e3
      refine ⟨F, G, env, d, env1, S, e1, fun v H1 G1 S1 st1 r1 => ?_⟩
      obtain ⟨a, KC, dx, gs, G', hs, hc, ha, hgl, S', st⟩ := S1.putD (f := f) e2 hlt r1
      exact ⟨_, hs, a, KC, dx, gs, rfl, ha, (co.cls _ _ hc).1, (co.cls _ _ hc).2 f hfl, hgl, q σ _ G' S' (st1.trans st)⟩
    · cases e3
def sfldOF (i : Nat) (f : Str) (env : Env) : Option (Fl × Env) := do
  let (c, fs) ← fldsOf (getS env i)
  if fs.length < 100 then some (.nx, putO env i (.obj c (putFl f (.l []) fs))) else none
theorem SR.putNL {K : PySem.W.Frag} {F : FP} {env : Env} {G : Nat → List Addr} {σ : L2.St} {H : Hp} (S : SR K cl F env G σ H) {i : Nat} {c : Str} {fs : List (Str × Fld)} {f : Str} {p : Addr} (h : fldsOf (getS env i) = some (c, fs)) (hl : fs.length < 100) (hp : H p = none) :
    ∃ a C dx gs G', σ[i]? = some (some (.ref a)) ∧ cl c = some C ∧ upd H p (.lst []) a = some (.ins C dx gs) ∧ gs.length < 1000 ∧ SR K cl F (putO env i (.obj c (putFl f (.l []) fs))) G' σ (upd (upd H p (.lst [])) a (.ins C dx (putF f (.ref p) gs))) ∧
      Step H (Zf F G) (upd (upd H p (.lst [])) a (.ins C dx (putF f (.ref p) gs))) (Zf F G') := by
  obtain ⟨hh, a, C, dx, gs, l, hs, hc, ha, hle, rf, hg⟩ := S.objAt h
  have nd := S.nd i
  rw [hg] at nd
  obtain ⟨na, nl⟩ := List.nodup_cons.mp nd
  have hap : a ≠ p := ne_of_none ha hp
  have hm : ∀ {b}, b ∈ G i → b ≠ p := fun {b} hb z => by subst z; exact S.fresh hp (.inr ⟨i, hb⟩)
  generalize hH2 : upd (upd H p (.lst [])) a (.ins C dx (putF f (.ref p) gs)) = H2
  have h2a : H2 a = some (.ins C dx (putF f (.ref p) gs)) := by rw [← hH2, upd_same]
  have h2p : H2 p = some (.lst []) := by rw [← hH2, upd_ne (Ne.symm hap), upd_same]
  have h2o : ∀ b, b ≠ a → b ≠ p → H2 b = H b := fun b h1 h2 => by rw [← hH2, upd_ne h1, upd_ne h2]
  have chg : ∀ l'', l''.Nodup → (∀ b ∈ l'', b = a ∨ b ∈ l ∨ b = p) → Chg H (G i) H2 l'' := fun l'' n1 n2 => by
    refine ⟨fun b n m => h2o b (fun z => n (by rw [z, hg]; simp)) (fun z => m (by rw [z]; exact hp)), fun b m => ?_, fun b hb => ?_, n1, fun b hb => ?_⟩
    · by_cases z : b = a
      · rw [z, h2a]; exact fun z => nomatch z
      · by_cases z2 : b = p
        · rw [z2, h2p]; exact fun z => nomatch z
        · rw [h2o b z z2]; exact m
    · by_cases z : b = a
      · rw [z, h2a]; trivial
      · rw [h2o b z (hm hb)]; exact S.mut (.inr ⟨i, hb⟩)
    · rcases n2 b hb with z | z | z
      · exact .inl (by rw [z, hg]; simp)
      · exact .inl (by rw [hg]; exact List.mem_cons_of_mem _ z)
      · exact .inr (by rw [z]; exact hp)
  have pl : p ∉ l := fun z => hm (b := p) (by rw [hg]; exact List.mem_cons_of_mem _ z) rfl
  have st1 := S.chgStep (chg (a :: (l ++ [p])) (List.nodup_cons.mpr ⟨by simp [na, hap], List.nodup_append.mpr ⟨nl, by simp, fun x hx y hy z => by simp at hy; subst hy z; exact pl hx⟩⟩) fun b hb => by
    simp only [List.mem_cons, List.mem_append, List.not_mem_nil, or_false] at hb; exact hb)
  have rf2 := rf.move st1 fun b hb => h2o b (fun z => na (by rw [← z]; exact hb)) (fun z => pl (by rw [← z]; exact hb))
  obtain ⟨l', rf', nl', sub'⟩ := RFlds.put (f := f) (.l h2p .nil) rf2 nl (by simp) (fun b hb => by simp at hb; subst hb; exact pl)
  have sub2 : ∀ b ∈ l', b ∈ l ∨ b = p := fun b hb => (sub' b hb).imp id fun z => by simpa using z
  have na' : a ∉ l' := fun z => (sub2 a z).elim na hap
  have ch := chg (a :: l') (List.nodup_cons.mpr ⟨na', nl'⟩) fun b hb => (List.mem_cons.mp hb).imp id (sub2 b)
  have st := S.chgStep ch
  have zsub : Step H2 (ZZ F.Zc (putG G i (a :: (l ++ [p])))) H2 (ZZ F.Zc (putG G i (a :: l'))) := .same (fun _ _ e => e) fun b z => z.elim .inl fun ⟨j, hj⟩ => by
    by_cases e : j = i
    · subst e
      rw [putG_same] at hj
      refine .inr ⟨j, ?_⟩
      rw [putG_same]
      rcases List.mem_cons.mp hj with z | z
      · rw [z]; simp
      · rcases sub2 b z with z | z
        · exact List.mem_cons_of_mem _ (List.mem_append_left _ z)
        · rw [z]; simp
    · rw [putG_ne e] at hj
      exact .inr ⟨j, by rw [putG_ne e]; exact hj⟩
  have le := rf.len
  refine ⟨a, C, dx, gs, _, hs, hc, by rw [upd_ne hap]; exact ha, by omega, by rw [hH2]; exact S.chg (v := .ref a) hh hs ch (.obj hc h2a (by have := length_putF' f (.ref p) gs; omega) (rf'.move zsub fun _ _ => rfl)), by rw [hH2]; exact st⟩
theorem s_sfldO {T : Tb} {i : Nat} {n f : Str} {p p2 p3 pos : Pos} (co : COk T X cl) (hfl : f ∈ T.fl) (hN : X.N[i]? = some n) (hv : Vis X.env.scope n) (hd : (n == ("__debug__" : Str)) = false) (hcd : (n == ("__classdict__" : Str)) = false) :
    PS X (.Assign [.Attribute (.Name n p) f p2] (.List [] p3) pos) (rdS X.K cl (sfldOF i f)) :=
  PS.imp (ps_fld (pe_var hN hv hd hcd) (pe_lst pa_nil) swFld) fun D σ H ⟨F, G, env, y, env', S, e, q⟩ => by
    simp only [sfldOF, Option.bind_eq_bind, Option.bind_eq_some_iff, Prod.exists] at e
    obtain ⟨c, fs, e2, e3⟩ := e
    split at e3
    · rename_i hlt
      simp only [Option.some.injEq, Prod.mk.injEq] at e3
      obtain ⟨rfl, rfl⟩ := e3
      refine ⟨Nat.zero_le _, fun l hl => ?_⟩
      obtain ⟨a, KC, dx, gs, G', hs, hc, ha, hgl, S', st⟩ := S.putNL (f := f) e2 hlt hl
      exact ⟨_, hs, a, KC, dx, gs, rfl, ha, (co.cls _ _ hc).1, (co.cls _ _ hc).2 f hfl, hgl, q σ _ G' S' st⟩
    · cases e3
end
end VL

set_option Elab.async false
set_option linter.all false
set_option maxRecDepth 100000
set_option maxHeartbeats 4000000
/-! VL: what names take, as texts; several at once; comprehensions that a name takes. -/
namespace VL
open PySem L2
open PyProof PyProof.Rows
/-! ### matching -/
def mPe (T : Tb) (c : Sc) (p : Pe) (x : Expr) : Bool := match p with
  | .v e => mE T e c x
  | .o e => mE T e c x && frE T e
  | .n k as => match x with
    | .Call (.Name y _) xs [] _ => decide (y = k) && decide (k ∈ T.cs) && glB c y && !xs.isEmpty && mAs T as c xs && (T.fn (k ++ ".__init__")).isSome
    | _ => false
def mPes (T : Tb) (c : Sc) : List Pe → List Expr → Bool
  | [], [] => true
  | p :: ps, x :: xs => mPe T c p x && mPes T c ps xs
  | _, _ => false
/-- names.lookup says .local, one line, the block does not own it -/
def swC (names : List (Str × NameKind)) (y : Str) (py : Pos) : Expr → Bool
  | .ListComp _ _ s p => decide (names.lookup y = some .local) && (py.line == p.line) && !(s.names.any fun (n, k) => n == y && (k == .local || k == .cell))
  | _ => false
def compB : Expr → Bool
  | .ListComp _ _ _ _ => true
  | .SetComp _ _ _ _ => true
  | .DictComp _ _ _ _ _ => true
  | _ => false
section
variable {T : Tb} {X : Cx} {cl : ClsT} {k j : Nat} {c : Sc} {C : Calls}
theorem mE_sc {e : E} {x : Expr} (h : mE T e c x = true) : (∀ a g s p, x ≠ .SetComp a g s p) ∧ ∀ a b g s p, x ≠ .DictComp a b g s p := by
  refine ⟨fun a g s p z => ?_, fun a b g s p z => ?_⟩ <;> (subst z; cases e <;> first | (simp [mE] at h; done) | (rename_i o _ _; cases o <;> simp [mE] at h; done))
theorem swE {e : E} {x : Expr} {y : Str} {py : Pos} {l : Nat} (S : SCOk c X) (h : mE T e c x = true) : swapsWith x (some (.Name y py)) l X.env = pure (swC c.names y py x) := by
  obtain ⟨h1, h2⟩ := mE_sc h
  cases x with
  | ListComp a g s p =>
    have hb : X.env.blockKind = .function := by unfold Env.blockKind; rw [S.kind]; rfl
    have hk : (X.env.kindOf y == some .local) = decide (c.names.lookup y = some .local) := by
      unfold Env.kindOf
      rw [S.names]
      cases c.names.lookup y with
      | none => rfl
      | some q => cases q <;> rfl
    unfold swapsWith swC
    simp only [hb, hk, Expr.pos]
    rfl
  | SetComp a g s p => exact absurd rfl (h1 _ _ _ _)
  | DictComp a b g s p => exact absurd rfl (h2 _ _ _ _ _)
  | _ => rfl
theorem swN {e : E} {x : Expr} {l : Nat} (h : mE T e c x = true) (hc : compB x = false) (t : Option Expr) : swapsWith x t l X.env = pure false := by
  cases x <;> first | rfl | simp [compB] at hc
theorem evP_v {e : E} : evP C (.v e) = fun env => (evE C e env).map fun p => (.v p.1, p.2) := by funext env; rw [evP] <;> rfl
theorem evPo_v {e : E} : evP C (.o e) = vof (evE C e) := by funext env; rw [evP] <;> rfl
theorem evP_n {k : Str} {as : As} : evP C (.n k as) = newf C k (evAs C as) := by funext env; rw [evP] <;> rfl
theorem sPe (p : Pe) {x : Expr} (hX : XOk (j + 1) X) (S : SCOk c X) (W : WOk T X cl j C) (h : mPe T c p x = true) : PE X x (rdV X.K cl (evP C p)) ∧ ∀ xs, starEach (x :: xs) X.env = (false, eval x X.env) :: starEach xs X.env := by
  cases p with
  | v e =>
    simp only [mPe] at h
    rw [evP_v]
    exact ⟨v_v (pe_X (sE e _ _ _ hX S W h).1), fun xs => starE h _⟩
  | o e =>
    simp only [mPe, Bool.and_eq_true] at h
    rw [evPo_v]
    have h1 := (sE e _ _ _ hX S W h.1).1
    rw [h.2] at h1
    exact ⟨v_o h1, fun xs => starE h.1 _⟩
  | n k as =>
    simp only [mPe] at h
    split at h
    · rename_i y p0 xs0 p1
      simp only [Bool.and_eq_true, decide_eq_true_eq] at h
      obtain ⟨⟨⟨⟨⟨rfl, h1⟩, h2⟩, h3⟩, h4⟩, h5⟩ := h
      cases xs0 with
      | nil => simp at h3
      | cons y0 ys =>
        obtain ⟨d, hd⟩ := Option.isSome_iff_exists.mp h5
        obtain ⟨r, hr'⟩ := tailAs h4
        rw [evP_n]
        exact ⟨v_n hX W.fn h1 hd (glB_ok S h2).1 (sAs as _ _ _ hX S W h4) (starAs h4 _) (noStarAs _ hr' _).1, fun xs => rfl⟩
    · cases h
theorem evPs_n : evPs C [] = fun env => some ([], env) := by funext env; rw [evPs] <;> rfl
theorem evPs_c {p : Pe} {ps : List Pe} : evPs C (p :: ps) = vcf (evP C p) (evPs C ps) := by funext env; rw [evPs] <;> rfl
theorem sPes (hX : XOk (j + 1) X) (S : SCOk c X) (W : WOk T X cl j C) : ∀ (ps : List Pe) {xs : List Expr}, mPes T c ps xs = true → PA X xs (rdVs X.K cl (evPs C ps))
  | [], xs, h => by
    cases xs with
    | nil => rw [evPs_n]; exact vs_nil
    | cons _ _ => simp [mPes] at h
  | p :: ps, xs, h => by
    cases xs with
    | nil => simp [mPes] at h
    | cons x xs =>
      simp only [mPes, Bool.and_eq_true] at h
      obtain ⟨h1, h2⟩ := sPe p hX S W h.1
      rw [evPs_c]
      exact vs_cons h1 (sPes hX S W ps h.2) (h2 xs)
/-! ### name = [..] -/
theorem comp_parts {elt : E} {tg : Tg} {src : Src} {cond : Eo} {own : List Nat} {x : Expr} (hX : XOk (j + 1) X) (S : SCOk c X) (W : WOk T X cl j C) (hm : mE T (.comp elt tg src cond own) c x = true) :
    ∃ x0 t0 it0 ifs0 scope p0, x = .ListComp x0 [⟨t0, it0, ifs0, 0⟩] scope p0 ∧ ∀ {i : Nat} {y : Str} {py spos : Pos}, X.N[i]? = some y → X.env.scope.names.lookup y = some .local → swapsWith (.ListComp x0 [⟨t0, it0, ifs0, 0⟩] scope p0) (some (.Name y py)) spos.line X.env = pure true →
      ∃ te : TE, PS X (.Assign [.Name y py] (.ListComp x0 [⟨t0, it0, ifs0, 0⟩] scope p0) spos) (tAsg te (gName i)) ∧ ∀ σ H Q, rdX true X.K cl (evE C (.comp elt tg src cond own)) σ H Q → te σ H Q := by
  simp only [mE] at hm
  split at hm
  · rename_i x0 t0 it0 ifs0 scope p0
    refine ⟨x0, t0, it0, ifs0, scope, p0, rfl, fun {i y py spos} hy hyl hsw => ?_⟩
    simp only [Bool.and_eq_true] at hm
    obtain ⟨⟨⟨⟨⟨⟨h1, h2⟩, h3⟩, h4⟩, h5⟩, h6⟩, h7⟩ := hm
    have bo := blkOk_by h1
    have bk : BlkOk X.N X.env.scope scope (ownP c own) := by
      rw [S.N]
      refine ⟨bo.kind, bo.uniq, bo.ix, fun y hy e => ?_, bo.own⟩
      rw [S.names]; exact bo.free y hy e
    have hown : (ownP c own).map (·.2) = own := by
      unfold ownP
      rw [List.map_map]
      exact List.map_id _
    have blk : ∀ (s : Shared) (H : Hp) (D : Addr) (cls : List (Str × Addr)) (fp : List Addr), XOk (j + 1) (X.blk s H scope (compEnvC scope cls D X.env) fp) ∧ SCOk (subSc c scope) (X.blk s H scope (compEnvC scope cls D X.env) fp) ∧ WOk T (X.blk s H scope (compEnvC scope cls D X.env) fp) cl j C := fun s H D cls fp =>
      ⟨⟨hX.calm, hX.nd, hX.room, hX.bt⟩, ⟨S.N, by
        show (relS scope X.env.scope).names = relNames c.names scope
        unfold relS relNames
        rw [S.kind, S.names]
        simp, fun x h => h, bo.kind⟩, ⟨W.gl, ⟨W.co.cls⟩, ⟨W.fn.arg, W.fn.fn, W.fn.md, W.fn.mkk⟩⟩⟩
    have hfold : ∀ v, foldedSetIterable it0 X.env v = pure v := by
      cases src <;> simp only [mSrc] at h2
      · exact foldE h2 _
      all_goals (split at h2; rotate_left; cases h2)
      all_goals (intro v; rfl)
    have hp : pairS src = true → isTp tg = true := fun z => by rw [z] at h5; simpa using h5
    have hsrc : PI X t0 it0 (rdI (pairS src) X.K cl (evSrc C src)) := sSrc src _ _ _ _ hX S W h2 fun z => by
      have := hp z
      cases tg <;> simp [isTp] at this
      cases t0 <;> simp [mTg] at h3
      exact ⟨_, _, _, rfl⟩
    have hc : ∀ (s : Shared) (H : Hp) (D : Addr) (cls : List (Str × Addr)) (fp : List Addr), PTs (X.blk s H scope (compEnvC scope cls D X.env) fp) ifs0 (rdC X.K cl (condf C cond)) := fun s H D cls fp => by
      obtain ⟨b1, b2, b3⟩ := blk s H D cls fp
      cases ifs0 with
      | nil =>
        cases cond <;> simp [mEo] at h7
        exact pts_nil
      | cons y r =>
        cases r with
        | cons _ _ => cases h7
        | nil =>
          obtain ⟨f, hf, ht⟩ := (sEo cond _ _ _ b1 b2 b3 h7).2 y rfl
          rw [hf]
          exact pts_one ht
    refine ⟨_, ps_setLc (elt := x0) (te := rdE X.K cl (evE C elt)) (tt := rdC X.K cl (condf C cond)) (g := rdG X.K cl tg) hX.calm hX.nd hy hyl hsw hsrc bk (fun s H D cls fp => let b := blk s H D cls fp; c_tg (cl := cl) b.1 b.2.1 b.2.2.co tg t0 h3) hc (fun s H D cls fp => let b := blk s H D cls fp; pe_X (sE elt _ _ _ b.1 b.2.1 b.2.2 h6).1) hfold, fun σ H Q q => ?_⟩
    rw [ev_comp] at q
    rw [hown]
    exact lc_in hp (fun i hi => by simpa using List.all_eq_true.mp h4 i hi) q
  · cases hm
theorem rdX_of_v {K : PySem.W.Frag} {f : Env → Option (PyData × Env)} {σ : L2.St} {H : Hp} {Q : VK} (h : rdV K cl (fun env => (f env).map fun p => (.v p.1, p.2)) σ H Q) : rdX true K cl f σ H Q := by
  obtain ⟨F, G, env, d, env', S, e, q⟩ := h
  simp only [Option.map_eq_some_iff, Prod.mk.injEq, Prod.exists] at e
  obtain ⟨d', e', e1, rfl, rfl⟩ := e
  exact ⟨F, G, env, d', _, S, e1, fun v H' G' S' s r _ => q v H' G' S' s r⟩
/-- mE of a comprehension's text: the term is a comprehension -/
theorem mE_lc {e : E} {a : Expr} {g : List Comprehension} {s : Scope} {p : Pos} (h : mE T e c (.ListComp a g s p) = true) : ∃ elt tg src cond own, e = .comp elt tg src cond own := by
  cases e <;> first | exact ⟨_, _, _, _, _, rfl⟩ | (simp [mE] at h; done) | (rename_i o _ _; cases o <;> simp [mE] at h; done)
theorem s_setP {i : Nat} {y : Str} {py pos : Pos} {x : Expr} (p : Pe) (hX : XOk (j + 1) X) (S : SCOk c X) (W : WOk T X cl j C) (hl : locB c i y = true) (hm : mPe T c p x = true) : PS X (.Assign [.Name y py] x pos) (rdS X.K cl (setf i (evP C p))) := by
  obtain ⟨l1, l2, l3⟩ := locB_ok S hl
  have hp := (sPe p hX S W hm).1
  have main : ∀ e, mE T e c x = true → (∀ σ H Q, rdV X.K cl (evP C p) σ H Q → rdX true X.K cl (evE C e) σ H Q) → PS X (.Assign [.Name y py] x pos) (rdS X.K cl (setf i (evP C p))) := fun e he hq => by
    have sw := swE (y := y) (py := py) (l := pos.line) S he
    cases hs : swC c.names y py x with
    | false => rw [hs] at sw; exact s_set hX.nd l1 l2 l3 hp sw
    | true =>
      rw [hs] at sw
      cases x <;> simp [swC] at hs
      obtain ⟨elt, tg, src, cond, own, rfl⟩ := mE_lc he
      obtain ⟨x0, t0, it0, ifs0, scope, p0, ex, hps⟩ := comp_parts hX S W he
      rw [ex] at sw ⊢
      obtain ⟨te, h1, h2⟩ := hps (spos := pos) l1 (by rw [S.names]; exact hs.1.1) sw
      exact PS.imp h1 fun D σ H q => set_rd (fun Q z => h2 σ H Q (hq σ H Q z)) q
  cases p with
  | v e =>
    refine main e (by simpa [mPe] using hm) fun σ H Q q => ?_
    rw [evP_v] at q
    exact rdX_of_v q
  | o e =>
    simp only [mPe, Bool.and_eq_true] at hm
    refine main e hm.1 fun σ H Q q => ?_
    rw [evPo_v] at q
    exact v_oR q
  | n k as =>
    refine s_set hX.nd l1 l2 l3 hp ?_
    simp only [mPe] at hm
    split at hm
    · rfl
    · cases hm
end
end VL

set_option Elab.async false
set_option linter.all false
set_option maxRecDepth 100000
set_option maxHeartbeats 4000000
/-! VL: several names at once; an object's list grows. -/
namespace VL
open PySem L2
open PyProof PyProof.Rows
def mNms (c : Sc) : List Nat → List Expr → Bool
  | [], [] => true
  | i :: is, .Name x _ :: xs => locB c i x && mNms c is xs
  | _, _ => false
/-- what swappedStores says, by computing; none: it does not say -/
def swD (names : List (Str × NameKind)) (ts vs : List Expr) : Option (Option (List Str)) :=
  if !(ts.length == 2 || ts.length == 3) || vs.length != ts.length then some none
  else if vs.any (fun | .Starred .. => true | _ => false) then some none
  else
    let line := (ts.head?.map (·.pos.line)).getD 0
    let ns := ts.filterMap fun
      | .Name id pos => if names.lookup id == some .local && pos.line == line then some id else none
      | _ => none
    if ns.length != ts.length || ns.eraseDups.length != ns.length then some none
    else if vs.all (foldedForSure 8) then some none
    else if vs.all (constantsAlone 8) then none
    else some (some ns)
section
variable {T : Tb} {X : Cx} {cl : ClsT} {k j : Nat} {c : Sc} {C : Calls}
theorem swD_ok {ts vs : List Expr} {kt k2 : Nat} {pt p2 : Pos} {r : Option (List Str)} (S : SCOk c X) (h : swD c.names ts vs = some r) : swappedStores [.Tuple ts kt pt] (.Tuple vs k2 p2) X.env = pure r := by
  have hb : X.env.blockKind = .function := by unfold Env.blockKind; rw [S.kind]; rfl
  unfold swD at h
  unfold swappedStores
  have hk : ∀ id, X.env.kindOf id = c.names.lookup id := fun id => by unfold Env.kindOf; rw [S.names]
  simp only [hb, hk]
  have ff : (ScopeKind.function != ScopeKind.function) = false := by decide
  simp only [ff, Bool.or_false]
  split at h
  · rename_i q
    cases h
    exact if_pos q
  · rename_i q
    refine (if_neg q).trans ?_
    split at h
    · rename_i q1
      cases h
      exact if_pos q1
    · rename_i q1
      refine (if_neg q1).trans ?_
      simp only at h
      split at h
      · rename_i q3
        cases h
        exact if_pos q3
      · rename_i q3
        refine (if_neg q3).trans ?_
        split at h
        · rename_i q4
          cases h
          exact if_pos q4
        · rename_i q4
          refine (if_neg q4).trans ?_
          split at h
          · cases h
          · rename_i q5
            cases h
            exact if_neg q5
def parsF (is : List Nat) (fs : Env → Option (List PV × Env)) (env : Env) : Option (Fl × Env) := do
  let (vs, env) ← fs env
  let env ← putPs is vs env
  some (.nx, env)
theorem par_rd {is : List Nat} {fs : Env → Option (List PV × Env)} {D : Ends} {σ : L2.St} {H : Hp} (h : rdS X.K cl (parsF is fs) D σ H) : rdVs X.K cl fs σ H fun vs H1 => is.length = vs.length ∧ D.nx (setAll σ is vs) H1 ∧ QT (fun v H2 => ∃ p, v = .ref p ∧ SqT X.K H2 p vs ∧ D.nx (setAll σ is vs) H2) H1 vs := by
  obtain ⟨F, G, env, y, env', S, e, q⟩ := h
  simp only [parsF, Option.bind_eq_bind, Option.bind_eq_some_iff, Prod.exists, Option.some.injEq, Prod.mk.injEq] at e
  obtain ⟨d, env1, e1, env2, e2, rfl, rfl⟩ := e
  refine ⟨F, G, env, d, env1, S, e1, fun vs H1 G1 S1 st1 va => ?_⟩
  obtain ⟨G2, S2, st2, hl⟩ := puts_ok S1 (Nat.le_refl _) va e2
  refine ⟨hl, q _ H1 G2 S2 (st1.trans st2), fun p o hp ho => ⟨p, rfl, .inl (.inr ⟨o, upd_same⟩), ?_⟩⟩
  have S3 := S1.new (o := .frz o (.tup vs)) hp
  have va3 : VAll X.K cl (upd H1 p (.frz o (.tup vs))) (Zf F G1) G1 σ.length vs d := va.move (Step.new hp) (fun i hi => by congr 1; omega) fun i hi a ha => upd_ne fun z => by subst z; exact S1.fresh hp (.inr ⟨i, ha⟩)
  obtain ⟨G4, S4, st4, _⟩ := puts_ok S3 (Nat.le_refl _) va3 e2
  exact q _ _ G4 S4 ((st1.trans (Step.new hp)).trans st4)
def gNames : List Nat → TGs
  | [] => gNil
  | i :: r => gCons (gName i) (gNames r)
theorem gNames_in : ∀ {is : List Nat} {vs : List V} {σ : L2.St} {H : Hp} {Q : L2.St → Hp → Prop}, is.length = vs.length → Q (setAll σ is vs) H → gNames is vs σ H Q
  | [], [], _, _, _, _, q => ⟨rfl, q⟩
  | [], _ :: _, _, _, _, h, _ => by simp at h
  | _ :: _, [], _, _, _, h, _ => by simp at h
  | i :: is, v :: vs, _, _, _, h, q => ⟨v, vs, rfl, gNames_in (by simpa using h) q⟩
theorem pgs_names (hX : XOk (j + 1) X) (S : SCOk c X) : ∀ {is : List Nat} {ts : List Expr}, mNms c is ts = true → PGs X ts (gNames is) ∧ is.length = ts.length ∧ (assignEach ts X.env).length = ts.length ∧ (assignEach ts X.env).findIdx? (·.1) = none
  | [], [], _ => ⟨pgs_nil, rfl, rfl, rfl⟩
  | [], _ :: _, h => by simp [mNms] at h
  | _ :: _, [], h => by simp [mNms] at h
  | i :: is, t :: ts, h => by
    cases t <;> simp only [mNms, Bool.false_eq_true] at h
    simp only [Bool.and_eq_true] at h
    obtain ⟨h1, h2, h3, h4⟩ := pgs_names hX S h.2
    obtain ⟨l1, l2, l3⟩ := locB_ok S h.1
    refine ⟨pgs_cons (pg_name hX.nd l1 l2 l3) h1 rfl, by simp [h2], by show (_ :: assignEach ts X.env).length = _; simp [h3], ?_⟩
    show ((false, _) :: assignEach ts X.env).findIdx? (·.1) = none
    rw [List.findIdx?_cons]
    simp [h4]
def parB (T : Tb) (c : Sc) (is : List Nat) (ps : List Pe) (ts xs : List Expr) : Bool := mNms c is ts && mPes T c ps xs && decide (is.length ≤ 100) && (match swD c.names ts xs with
  | some none => true
  | some (some ns) => match is, ts, xs with
    | [i, j], [.Name x _, .Name y _], [_, _] => decide (ns = [x, y]) && decide (c.names.lookup x = some .local) && decide (c.names.lookup y = some .local) && decide (i ≠ j)
    | [i, j, l], [.Name x _, .Name y _, .Name z _], [_, _, _] => decide (ns = [x, y, z]) && decide (c.names.lookup x = some .local) && decide (c.names.lookup y = some .local) && decide (c.names.lookup z = some .local) && decide (i ≠ j) && decide (i ≠ l) && decide (j ≠ l)
    | _, _, _ => false
  | none => false)
theorem s_par {is : List Nat} {ps : List Pe} {ts xs : List Expr} {kt k2 : Nat} {pt p2 pos : Pos} (hX : XOk (j + 1) X) (S : SCOk c X) (W : WOk T X cl j C) (h : parB T c is ps ts xs = true) : PS X (.Assign [.Tuple ts kt pt] (.Tuple xs k2 p2) pos) (rdS X.K cl (parsF is (evPs C ps))) := by
  unfold parB at h
  simp only [Bool.and_eq_true, decide_eq_true_eq] at h
  obtain ⟨⟨⟨h1, h2⟩, h3⟩, h4⟩ := h
  obtain ⟨g1, g2, g3, g4⟩ := pgs_names hX S h1
  have hv := sPes hX S W ps h2
  split at h4
  · rename_i hs
    have hw := swD_ok (kt := kt) (k2 := k2) (pt := pt) (p2 := p2) S hs
    refine PS.imp (ps_asg (pe_tupF hv) (pg_tup hX.calm g1 g3 g4) rfl hw rfl) fun D σ H q => ?_
    have q' := par_rd q
    obtain ⟨F, G, env, d, env', S', e, qq⟩ := q'
    refine ⟨F, G, env, d, env', S', e, fun vs H1 G1 S1 st1 va => ?_⟩
    obtain ⟨a1, _, a3⟩ := qq vs H1 G1 S1 st1 va
    refine ⟨by rw [← a1, sizeLine_eq]; omega, fun p o hp ho => ?_⟩
    obtain ⟨p', e', sq, dn⟩ := a3 p o hp ho
    exact ⟨p', vs, e', sq, by rw [← a1, g2], gNames_in a1 dn⟩
  · rename_i ns hs
    have hw := swD_ok (kt := kt) (k2 := k2) (pt := pt) (p2 := p2) S hs
    split at h4
    · rename_i i j' x px y py a b
      simp only [Bool.and_eq_true, decide_eq_true_eq] at h4
      obtain ⟨⟨⟨rfl, b1⟩, b2⟩, b3⟩ := h4
      simp only [mNms, Bool.and_eq_true] at h1
      obtain ⟨l1, _, _⟩ := locB_ok S h1.1
      obtain ⟨m1, _, _⟩ := locB_ok S h1.2.1
      refine PS.imp (ps_par hX.calm hX.nd l1 m1 b3 (by rw [S.names]; exact b1) (by rw [S.names]; exact b2) hv hw rfl) fun D σ H q => ?_
      obtain ⟨F, G, env, d, env', S', e, qq⟩ := par_rd q
      refine ⟨F, G, env, d, env', S', e, fun vs H1 G1 S1 st1 va => ?_⟩
      obtain ⟨a1, a2, _⟩ := qq vs H1 G1 S1 st1 va
      match vs, a1, a2 with
      | [v, w], _, a2 => exact ⟨v, w, rfl, a2⟩
    · rename_i i j' l x px y py z pz a b d
      simp only [Bool.and_eq_true, decide_eq_true_eq] at h4
      obtain ⟨⟨⟨⟨⟨⟨rfl, b1⟩, b2⟩, b3⟩, b4⟩, b5⟩, b6⟩ := h4
      simp only [mNms, Bool.and_eq_true] at h1
      obtain ⟨l1, _, _⟩ := locB_ok S h1.1
      obtain ⟨m1, _, _⟩ := locB_ok S h1.2.1
      obtain ⟨n1, _, _⟩ := locB_ok S h1.2.2.1
      refine PS.imp (ps_par3 hX.calm hX.nd l1 m1 n1 b4 b5 b6 (by rw [S.names]; exact b1) (by rw [S.names]; exact b2) (by rw [S.names]; exact b3) hv hw rfl) fun D σ H q => ?_
      obtain ⟨F, G, env, d, env', S', e, qq⟩ := par_rd q
      refine ⟨F, G, env, d, env', S', e, fun vs H1 G1 S1 st1 va => ?_⟩
      obtain ⟨a1, a2, _⟩ := qq vs H1 G1 S1 st1 va
      match vs, a1, a2 with
      | [v, w, u], _, a2 => exact ⟨v, w, u, rfl, a2⟩
    · cases h4
  · cases h4
end
end VL

set_option Elab.async false
set_option linter.all false
set_option maxRecDepth 100000
set_option maxHeartbeats 4000000
/-! VL: an object's list grows; statements as texts. -/
namespace VL
open PySem L2
open PyProof PyProof.Rows
theorem RFlds.setL {K : PySem.W.Frag} {H : Hp} {Z : AddrS} {f : Str} {d0 : List PyData} : ∀ {gs : List (Str × V)} {fs : List (Str × Fld)} {l : List Addr}, RFlds K H Z gs fs l → fs.lookup f = some (.l d0) → l.Nodup →
    ∃ a0 xs, gs.lookup f = some (.ref a0) ∧ a0 ∈ l ∧ H a0 = some (.lst xs) ∧ RepAll K H Z xs d0 ∧
      ∀ H' Z' ys ds, Step H Z H' Z' → H' a0 = some (.lst ys) → RepAll K H' Z' ys ds → (∀ b ∈ l, b ≠ a0 → H' b = H b) → RFlds K H' Z' gs (putFl f (.l ds) fs) l
  | _, _, _, .nil, h, _ => by simp at h
  | _, _, _, @RFlds.cons _ _ _ g v x r s l m a b, h, nd => by
    obtain ⟨n1, n2, n3⟩ := List.nodup_append.mp nd
    by_cases e : f = g
    · subst e
      simp only [List.lookup, beq_self_eq_true, Option.some.injEq] at h
      subst h
      cases a with
      | l hp ra =>
        refine ⟨_, _, by simp [List.lookup], by simp, hp, ra, fun H' Z' ys ds st h1 h2 h3 => ?_⟩
        rw [show putFl f (.l ds) ((f, .l d0) :: s) = (f, .l ds) :: s from by simp [putFl]]
        refine .cons (.l h1 h2) (b.move st fun c hc => h3 c (List.mem_append_right _ hc) fun z => ?_)
        exact n3 _ (by simp) c hc z.symm
    · have hb : (f == g) = false := beq_eq_false_iff_ne.mpr e
      simp only [List.lookup, hb] at h
      obtain ⟨a0, xs, q1, q2, q3, q4, q5⟩ := RFlds.setL b h n2
      refine ⟨a0, xs, by simp only [List.lookup, hb]; exact q1, List.mem_append_right _ q2, q3, q4, fun H' Z' ys ds st h1 h2 h3 => ?_⟩
      rw [show putFl f (.l ds) ((g, x) :: s) = (g, x) :: putFl f (.l ds) s from by rw [putFl, if_neg (Ne.symm e)]]
      refine .cons (a.move st fun c hc => h3 c (List.mem_append_left _ hc) fun z => ?_) (q5 H' Z' ys ds st h1 h2 fun c hc => h3 c (List.mem_append_right _ hc))
      exact n3 c hc a0 q2 z
section
variable {T : Tb} {X : Cx} {cl : ClsT} {k j : Nat} {c : Sc} {C : Calls}
theorem SR.putFL {K : PySem.W.Frag} {F : FP} {env : Env} {G : Nat → List Addr} {σ : L2.St} {H : Hp} (S : SR K cl F env G σ H) {i : Nat} {c : Str} {fs : List (Str × Fld)} {f : Str} {l0 : List PyData} (h : fldsOf (getS env i) = some (c, fs)) (hf : fs.lookup f = some (.l l0)) :
    ∃ a C dx gs a0 xs, σ[i]? = some (some (.ref a)) ∧ cl c = some C ∧ H a = some (.ins C dx gs) ∧ gs.lookup f = some (.ref a0) ∧ H a0 = some (.lst xs) ∧ RepAll K H (Zf F G) xs l0 ∧
      ∀ ys ds, RepAll K H (Zf F G) ys ds → SR K cl F (putO env i (.obj c (putFl f (.l ds) fs))) G σ (upd H a0 (.lst ys)) ∧ Step H (Zf F G) (upd H a0 (.lst ys)) (Zf F G) := by
  obtain ⟨hh, a, C, dx, gs, l, hs, hc, ha, hle, rf, hg⟩ := S.objAt h
  have nd := S.nd i
  rw [hg] at nd
  obtain ⟨na, nl⟩ := List.nodup_cons.mp nd
  obtain ⟨a0, xs, q1, q2, q3, q4, q5⟩ := rf.setL hf nl
  refine ⟨a, C, dx, gs, a0, xs, hs, hc, ha, q1, q3, q4, fun ys ds r => ?_⟩
  have za : ZZ F.Zc G a0 := .inr ⟨i, by rw [hg]; exact List.mem_cons_of_mem _ q2⟩
  have st : Step H (ZZ F.Zc G) (upd H a0 (.lst ys)) (ZZ F.Zc G) := Step.put za
  have ne : a ≠ a0 := fun z => na (by rw [z]; exact q2)
  have ch : Chg H (G i) (upd H a0 (.lst ys)) (a :: l) := by
    refine ⟨fun b n _ => upd_ne fun z => n (by rw [z, hg]; exact List.mem_cons_of_mem _ q2), st.dom, fun b hb => ?_, List.nodup_cons.mpr ⟨na, nl⟩, fun b hb => .inl (by rw [hg]; exact hb)⟩
    by_cases z : b = a0
    · rw [z, upd_same]; trivial
    · rw [upd_ne z]; exact S.mut (.inr ⟨i, hb⟩)
  have := S.chg (o' := .obj c (putFl f (.l ds) fs)) hh hs ch (by
    rw [putG_id hg]
    exact .obj hc (by rw [upd_ne ne]; exact ha) hle (q5 _ _ ys ds st upd_same (r.step st) fun b _ z => upd_ne z))
  rw [putG_id hg] at this
  exact ⟨this, st⟩
inductive Shs (σ : L2.St) : List Nat → List V → Prop
  | nil : Shs σ [] []
  | cons {i : Nat} {v : V} {is : List Nat} {vs : List V} : σ[i]? = some (some v) → Shs σ is vs → Shs σ (i :: is) (v :: vs)
theorem Shs.len {σ : L2.St} : ∀ {is : List Nat} {vs : List V}, Shs σ is vs → is.length = vs.length
  | _, _, .nil => rfl
  | _, _, .cons _ h => by simp [h.len]
def mVs (c : Sc) : List Nat → List Expr → Bool
  | [], [] => true
  | i :: is, .Name x _ :: xs => visB c i x && mVs c is xs
  | _, _ => false
theorem pa_vs (S : SCOk c X) : ∀ {is : List Nat} {xs : List Expr}, mVs c is xs = true → PA X xs (fun σ H Q => ∃ vs, Shs σ is vs ∧ Q vs H)
  | [], [], _ => PA.imp pa_nil fun σ H Q ⟨vs, h, q⟩ => by cases h; exact q
  | [], _ :: _, h => by simp [mVs] at h
  | _ :: _, [], h => by simp [mVs] at h
  | i :: is, x :: xs, h => by
    cases x <;> simp only [mVs, Bool.false_eq_true] at h
    simp only [Bool.and_eq_true] at h
    obtain ⟨a1, a2, a3, a4⟩ := visB_ok S h.1
    exact PA.imp (pa_cons (pe_var a1 a2 a3 a4) (pa_vs S h.2) rfl) fun σ H Q ⟨vs, h, q⟩ => by
      cases h with
      | cons hv h => exact ⟨_, hv, _, h, q⟩
theorem SR.shrs {K : PySem.W.Frag} {F : FP} {env : Env} {G : Nat → List Addr} {σ : L2.St} {H : Hp} (S : SR K cl F env G σ H) : ∀ {is : List Nat} {ds : List PyData}, VL.shrs env is = some ds → ∃ vs, Shs σ is vs ∧ RepAll K H (Zf F G) vs ds
  | [], ds, h => by simp [VL.shrs] at h; subst h; exact ⟨[], .nil, .nil⟩
  | i :: is, ds, h => by
    simp only [VL.shrs] at h
    split at h
    · rename_i d hd
      simp only [Option.map_eq_some_iff] at h
      obtain ⟨ds', h1, rfl⟩ := h
      obtain ⟨vs, h2, h3⟩ := SR.shrs S h1
      obtain ⟨v, hv, r⟩ := S.shr i d hd
      exact ⟨v :: vs, .cons hv h2, .cons r h3⟩
    · cases h
def appfF (i : Nat) (f : Str) (is : List Nat) (env : Env) : Option (Fl × Env) := do
  let (c, fs) ← fldsOf (getS env i)
  let ds ← shrs env is
  match fs.lookup f with
  | some (.l l) => if l.length < lineN ∧ is.length ≤ 100 then some (.nx, putO env i (.obj c (putFl f (.l (l ++ [.tuple ds])) fs))) else none
  | _ => none
theorem s_appf {i : Nat} {n f : Str} {is : List Nat} {p a1 ap p2 cp pos : Pos} {kk : Nat} {ns : List Expr} (co : COk T X cl) (S0 : SCOk c X) (hfl : f ∈ T.fl) (hN : X.N[i]? = some n) (hv : Vis X.env.scope n) (hd : (n == ("__debug__" : Str)) = false) (hcd : (n == ("__classdict__" : Str)) = false) (hns : mVs c is ns = true)
    (hl : (ap.endLine == cp.line) = true) : PS X (.Expr (.Call (.Attribute (.Attribute (.Name n p) f a1) "append" ap) [.Tuple ns kk p2] [] cp) pos) (rdS X.K cl (appfF i f is)) :=
  PS.imp (ps_expr (pe_bmX (pe_fld (pe_var hN hv hd hcd) rfl) (pa_one (pe_tupF (pa_vs S0 hns)) rfl) rfl rfl hl rfl rfl) rfl) fun D σ H ⟨F, G, env, y, env', S, e, q⟩ => by
    simp only [appfF, Option.bind_eq_bind, Option.bind_eq_some_iff, Prod.exists] at e
    obtain ⟨c, fs, e1, ds, e2, e3⟩ := e
    split at e3
    · rename_i l hlk
      split at e3
      · rename_i hlt
        simp only [Option.some.injEq, Prod.mk.injEq] at e3
        obtain ⟨rfl, rfl⟩ := e3
        obtain ⟨a, KC, dx, gs, a0, xs, hs, hc, ha, hg, ha0, ra, _⟩ := S.putFL e1 hlk
        obtain ⟨vs, hsh, rv⟩ := S.shrs e2
        refine ⟨_, hs, a, KC, dx, gs, _, rfl, ha, (co.cls _ _ hc).1, (co.cls _ _ hc).2 f hfl, hg, "list", _, _, ⟨PySem.F.plainAttrs_list, PySem.F.slot_list_append, PySem.F.type_list_append, mt_append⟩, .inl ⟨rfl, a0, xs, rfl, .inl (.inl ha0)⟩, vs, hsh, ?_, fun pp o hp ho => ?_⟩
        · have := hsh.len
          rw [← this, sizeLine_eq]; omega
        · have S2 := S.new (o := .frz o (.tup vs)) hp
          have st : Step H (Zf F G) (upd H pp (.frz o (.tup vs))) (Zf F G) := Step.new hp
          obtain ⟨a', KC', dx', gs', a0', xs', hs', hc', ha', hg', ha0', ra', put⟩ := S2.putFL e1 hlk
          rw [hs] at hs'; cases hs'
          have e0 : upd H pp (.frz o (.tup vs)) a = H a := upd_ne (ne_of_none ha hp)
          rw [e0, ha] at ha'; cases ha'
          rw [hg] at hg'; cases hg'
          obtain ⟨S3, st3⟩ := put _ (l ++ [.tuple ds]) (ra'.append (.cons (.tup (.inl ⟨⟨o, ho, upd_same⟩, S.fresh hp⟩) (rv.step st)) .nil))
          exact ⟨a0, xs', .ref pp, rfl, rfl, ha0', by rw [ra'.length, lineEq]; exact hlt.1, q σ _ G S3 (st.trans st3)⟩
      · cases e3
    · cases e3
end
end VL

set_option Elab.async false
set_option linter.all false
set_option maxRecDepth 100000
set_option maxHeartbeats 4000000
/-! VL: each statement of the language is the text that it matches. -/
namespace VL
open PySem L2
open PyProof PyProof.Rows
def notTup : Expr → Bool
  | .Tuple _ _ _ => false
  | _ => true
mutual
def mS (T : Tb) : S → Sc → Stmt → Bool
  | .pass, _, s_ => match s_ with
    | .Pass _ => true
    | .Expr (.Constant (.str _) _ _) _ => true
    | _ => false
  | .brk, _, s_ => match s_ with
    | .Break _ => true
    | _ => false
  | .cnt, _, s_ => match s_ with
    | .Continue _ => true
    | _ => false
  | .never, _, _ => true
  | .ret e, c, s_ => match s_ with
    | .Return (some x) _ => mE T e c x
    | _ => false
  | .retN, _, s_ => match s_ with
    | .Return none _ => true
    | _ => false
  | .retO e, c, s_ => match s_ with
    | .Return (some x) _ => mE T e c x && frE T e
    | _ => false
  | .retV i, c, s_ => match s_ with
    | .Return (some (.Name x _)) _ => visB c i x
    | _ => false
  | .retSelf i, c, s_ => match s_ with
    | .Return (some (.Name x _)) _ => visB c i x
    | _ => false
  | .asg t e, c, s_ => match s_ with
    | .Assign [.Tuple ts k p] x _ => isTp t && mTg T c t (.Tuple ts k p) && mE T e c x && notTup x
    | _ => false
  | .set i p, c, s_ => match s_ with
    | .Assign [.Name y _] x _ => locB c i y && mPe T c p x
    | _ => false
  | .par is ps, c, s_ => match s_ with
    | .Assign [.Tuple ts _ _] (.Tuple xs _ _) _ => parB T c is ps ts xs
    | _ => false
  | .ex e, c, s_ => match s_ with
    | .Expr x _ => mE T e c x && !compB x
    | _ => false
  | .app i e, c, s_ => match s_ with
    | .Expr (.Call (.Attribute (.Name n _) m ap) [y] [] cp) _ => decide (m = ("append" : Str)) && lineB ap cp && visB c i n && mE T e c y
    | _ => false
  | .ext i e, c, s_ => match s_ with
    | .Expr (.Call (.Attribute (.Name n _) m ap) [y] [] cp) _ => decide (m = ("extend" : Str)) && lineB ap cp && visB c i n && mE T e c y
    | _ => false
  | .ins i a e, c, s_ => match s_ with
    | .Expr (.Call (.Attribute (.Name n _) m ap) [z, y] [] cp) _ => decide (m = ("insert" : Str)) && lineB ap cp && visB c i n && mE T a c z && mE T e c y
    | _ => false
  | .seti i a e, c, s_ => match s_ with
    | .Assign [.Subscript (.Name n _) y _] x _ => visB c i n && noSl y && mE T a c y && mE T e c x
    | _ => false
  | .sfld i f e, c, s_ => match s_ with
    | .Assign [.Attribute (.Name n _) g _] x _ => visB c i n && decide (f = g) && decide (f ∈ T.fl) && mE T e c x
    | _ => false
  | .sfldO i f, c, s_ => match s_ with
    | .Assign [.Attribute (.Name n _) g _] (.List [] _) _ => visB c i n && decide (f = g) && decide (f ∈ T.fl)
    | _ => false
  | .appf i f is, c, s_ => match s_ with
    | .Expr (.Call (.Attribute (.Attribute (.Name n _) g _) m ap) [.Tuple ns _ _] [] cp) _ => decide (m = ("append" : Str)) && lineB ap cp && visB c i n && decide (f = g) && decide (f ∈ T.fl) && mVs c is ns
    | _ => false
  | .ite e a b, c, s_ => match s_ with
    | .If x p q _ => mE T e c x && mSs T a c p && mSs T b c q
    | _ => false
  | .for_ t s b, c, s_ => match s_ with
    | .For tg it body [] _ => mTg T c t tg && mSrc T s c it && (!pairS s || isTp t) && mSs T b c body
    | _ => false
  | .while_ e b, c, s_ => match s_ with
    | .While x body [] _ => mE T e c x && mSs T b c body
    | _ => false
def mSs (T : Tb) : Ss → Sc → List Stmt → Bool
  | .nil, _, s_ => match s_ with
    | [] => true
    | _ => false
  | .cons s r, c, s_ => match s_ with
    | x :: xs => mS T s c x && mSs T r c xs
    | _ => false
end
section
variable {T : Tb} {cl : ClsT} {j N : Nat} {C : Calls}
theorem x_ret {e : E} : xS C N (.ret e) = fun env => (evE C e env).map fun p => (.rt p.1, p.2) := by funext env; rw [xS] <;> rfl
theorem x_retO {e : E} : xS C N (.retO e) = rof (evE C e) := by funext env; rw [xS] <;> rfl
theorem x_retV {i : Nat} : xS C N (.retV i) = rvf i := by funext env; rw [xS] <;> rfl
theorem x_retS {i : Nat} : xS C N (.retSelf i) = rsf i := by funext env; rw [xS] <;> rfl
theorem x_asg {t : Tg} {e : E} : xS C N (.asg t e) = (fun env => do
      let (d, env) ← evE C e env
      let env ← putTg t d env
      some (.nx, env)) := by funext env; rw [xS] <;> rfl
theorem x_set {i : Nat} {p : Pe} : xS C N (.set i p) = setf i (evP C p) := by funext env; rw [xS] <;> rfl
theorem x_par {is : List Nat} {ps : List Pe} : xS C N (.par is ps) = parsF is (evPs C ps) := by funext env; rw [xS] <;> rfl
theorem x_ex {e : E} : xS C N (.ex e) = fun env => (evE C e env).map fun p => (.nx, p.2) := by funext env; rw [xS] <;> rfl
theorem x_app {i : Nat} {e : E} : xS C N (.app i e) = appF i (evE C e) := by funext env; rw [xS] <;> rfl
theorem x_ext {i : Nat} {e : E} : xS C N (.ext i e) = extF i (evE C e) := by funext env; rw [xS] <;> rfl
theorem x_ins {i : Nat} {a e : E} : xS C N (.ins i a e) = insF i (evE C a) (evE C e) := by funext env; rw [xS] <;> rfl
theorem x_seti {i : Nat} {a e : E} : xS C N (.seti i a e) = setiF i (evE C a) (evE C e) := by funext env; rw [xS] <;> rfl
theorem x_sfld {i : Nat} {f : Str} {e : E} : xS C N (.sfld i f e) = sfldF i f (evE C e) := by funext env; rw [xS] <;> rfl
theorem x_sfldO {i : Nat} {f : Str} : xS C N (.sfldO i f) = sfldOF i f := by funext env; rw [xS] <;> rfl
theorem x_appf {i : Nat} {f : Str} {is : List Nat} : xS C N (.appf i f is) = appfF i f is := by funext env; rw [xS] <;> rfl
theorem x_ite {e : E} {a b : Ss} : xS C N (.ite e a b) = (fun env => do
    let (k, env) ← tstf (evE C e) env
    if k then xSs C N a env else xSs C N b env) := by funext env; rw [xS] <;> rfl
theorem x_for {t : Tg} {s : Src} {b : Ss} : xS C N (.for_ t s b) = (fun env => do
    let (ds, env) ← evSrc C s env
    forGo t (xSs C N b) ds env) := by funext env; rw [xS] <;> rfl
theorem x_while {e : E} {b : Ss} : xS C N (.while_ e b) = whileGo (tstf (evE C e)) (xSs C N b) N := by funext env; rw [xS] <;> rfl
theorem x_nil : xSs C N .nil = fun env => some (.nx, env) := by funext env; rw [xSs] <;> rfl
theorem x_cons {s : S} {r : Ss} : xSs C N (.cons s r) = seqf (xS C N s) (xSs C N r) := by funext env; rw [xSs] <;> rfl
def okSt (T : Tb) (cl : ClsT) (j N : Nat) (C : Calls) (s : S) : Prop := ∀ (X : Cx) (c : Sc) (x : Stmt), XOk (j + 1) X → SCOk c X → WOk T X cl j C → PassesOwn (model X.prog X.w) X.A X.env X.xe → mS T s c x = true → PS X x (rdS X.K cl (xS C N s))
def okSs (T : Tb) (cl : ClsT) (j N : Nat) (C : Calls) (s : Ss) : Prop := ∀ (X : Cx) (c : Sc) (x : List Stmt), XOk (j + 1) X → SCOk c X → WOk T X cl j C → PassesOwn (model X.prog X.w) X.A X.env X.xe → mSs T s c x = true → PSs X x (rdS X.K cl (xSs C N s))
theorem foldSrc {s : Src} {c : Sc} {it : Expr} (h : mSrc T s c it = true) (env : PySem.Env) : ∀ v, foldedSetIterable it env v = pure v := by
  cases s <;> simp only [mSrc] at h
  · exact foldE h _
  all_goals (split at h; rotate_left; cases h)
  all_goals (intro v; rfl)
theorem tp_tup {t : Tg} {c : Sc} {x : Expr} (h : isTp t = true) (hm : mTg T c t x = true) : ∃ es k p, x = .Tuple es k p := by
  cases t <;> simp [isTp] at h
  cases x <;> simp [mTg] at hm
  exact ⟨_, _, _, rfl⟩
theorem swTup {ts : List Expr} {k : Nat} {p : Pos} {x : Expr} {l : Nat} {env : PySem.Env} : swapsWithSole [.Tuple ts k p] x l env = pure false := by
  cases x <;> rfl
theorem swTup2 {ts : List Expr} {k : Nat} {p : Pos} {x : Expr} {env : PySem.Env} (h : notTup x = true) : swappedStores [.Tuple ts k p] x env = pure none := by
  cases x <;> first | rfl | cases h
mutual
theorem sS : ∀ s : S, okSt T cl j N C s
  | .pass => fun X c x hX S W hp hm => by
    have e : xS C N .pass = fun env => some (.nx, env) := by funext env; rw [xS] <;> rfl
    rw [e]
    simp only [mS] at hm
    split at hm
    · exact s_pass
    · exact s_doc
    · cases hm
  | .brk => fun X c x hX S W hp hm => by
    have e : xS C N .brk = fun env => some (.bk, env) := by funext env; rw [xS] <;> rfl
    rw [e]
    simp only [mS] at hm
    split at hm
    · exact s_brk
    · cases hm
  | .cnt => fun X c x hX S W hp hm => by
    have e : xS C N .cnt = fun env => some (.ct, env) := by funext env; rw [xS] <;> rfl
    rw [e]
    simp only [mS] at hm
    split at hm
    · exact s_cnt
    · cases hm
  | .never => fun X c x hX S W hp hm => by
    have e : xS C N .never = fun env => none := by funext env; rw [xS] <;> rfl
    rw [e]
    exact s_never
  | .ret e => fun X c x hX S W hp hm => by
    rw [x_ret]
    simp only [mS] at hm
    split at hm
    · exact s_ret (pe_X (sE e _ _ _ hX S W hm).1)
    · cases hm
  | .retN => fun X c x hX S W hp hm => by
    have e : xS C N .retN = fun env => some (.rt .none, env) := by funext env; rw [xS] <;> rfl
    rw [e]
    simp only [mS] at hm
    split at hm
    · exact s_retN
    · cases hm
  | .retO e => fun X c x hX S W hp hm => by
    rw [x_retO]
    simp only [mS] at hm
    split at hm
    · simp only [Bool.and_eq_true] at hm
      have h1 := (sE e _ _ _ hX S W hm.1).1
      rw [hm.2] at h1
      exact s_retO h1
    · cases hm
  | .retV i => fun X c x hX S W hp hm => by
    rw [x_retV]
    simp only [mS] at hm
    split at hm
    · obtain ⟨a1, a2, a3, a4⟩ := visB_ok S hm
      exact s_retV a1 a2 a3 a4
    · cases hm
  | .retSelf i => fun X c x hX S W hp hm => by
    rw [x_retS]
    simp only [mS] at hm
    split at hm
    · obtain ⟨a1, a2, a3, a4⟩ := visB_ok S hm
      exact s_retS a1 a2 a3 a4
    · cases hm
  | .asg t e => fun X c x hX S W hp hm => by
    rw [x_asg]
    simp only [mS] at hm
    split at hm
    · simp only [Bool.and_eq_true] at hm
      obtain ⟨⟨⟨_, h2⟩, h3⟩, h4⟩ := hm
      exact s_asg (pe_X (sE e _ _ _ hX S W h3).1) (c_tg hX S W.co t _ h2) swTup (swTup2 h4) rfl
    · cases hm
  | .set i p => fun X c x hX S W hp hm => by
    rw [x_set]
    simp only [mS] at hm
    split at hm
    · simp only [Bool.and_eq_true] at hm
      exact s_setP p hX S W hm.1 hm.2
    · cases hm
  | .par is ps => fun X c x hX S W hp hm => by
    rw [x_par]
    simp only [mS] at hm
    split at hm
    · exact s_par hX S W hm
    · cases hm
  | .ex e => fun X c x hX S W hp hm => by
    rw [x_ex]
    simp only [mS] at hm
    split at hm
    · simp only [Bool.and_eq_true, Bool.not_eq_true'] at hm
      exact s_ex (pe_X (sE e _ _ _ hX S W hm.1).1) (swN hm.1 hm.2 none)
    · cases hm
  | .app i e => fun X c x hX S W hp hm => by
    rw [x_app]
    simp only [mS] at hm
    split at hm
    · simp only [Bool.and_eq_true, decide_eq_true_eq] at hm
      obtain ⟨⟨⟨rfl, h1⟩, h2⟩, h3⟩ := hm
      obtain ⟨a1, a2, a3, a4⟩ := visB_ok S h2
      exact s_app a1 a2 a3 a4 h3 h1 (pe_X (sE e _ _ _ hX S W h3).1)
    · cases hm
  | .ext i e => fun X c x hX S W hp hm => by
    rw [x_ext]
    simp only [mS] at hm
    split at hm
    · simp only [Bool.and_eq_true, decide_eq_true_eq] at hm
      obtain ⟨⟨⟨rfl, h1⟩, h2⟩, h3⟩ := hm
      obtain ⟨a1, a2, a3, a4⟩ := visB_ok S h2
      exact s_ext a1 a2 a3 a4 h3 h1 (pe_X (sE e _ _ _ hX S W h3).1)
    · cases hm
  | .ins i a e => fun X c x hX S W hp hm => by
    rw [x_ins]
    simp only [mS] at hm
    split at hm
    · simp only [Bool.and_eq_true, decide_eq_true_eq] at hm
      obtain ⟨⟨⟨⟨rfl, h1⟩, h2⟩, h3⟩, h4⟩ := hm
      obtain ⟨a1, a2, a3, a4⟩ := visB_ok S h2
      exact s_ins a1 a2 a3 a4 h3 h4 h1 (pe_X (sE a _ _ _ hX S W h3).1) (pe_X (sE e _ _ _ hX S W h4).1)
    · cases hm
  | .seti i a e => fun X c x hX S W hp hm => by
    rw [x_seti]
    simp only [mS] at hm
    split at hm
    · simp only [Bool.and_eq_true] at hm
      obtain ⟨⟨⟨h1, h2⟩, h3⟩, h4⟩ := hm
      obtain ⟨a1, a2, a3, a4⟩ := visB_ok S h1
      exact s_seti a1 a2 a3 a4 h2 (pe_X (sE a _ _ _ hX S W h3).1) (pe_X (sE e _ _ _ hX S W h4).1)
    · cases hm
  | .sfld i f e => fun X c x hX S W hp hm => by
    rw [x_sfld]
    simp only [mS] at hm
    split at hm
    · simp only [Bool.and_eq_true, decide_eq_true_eq] at hm
      obtain ⟨⟨⟨h1, rfl⟩, h3⟩, h4⟩ := hm
      obtain ⟨a1, a2, a3, a4⟩ := visB_ok S h1
      exact s_sfld W.co h3 a1 a2 a3 a4 (pe_X (sE e _ _ _ hX S W h4).1)
    · cases hm
  | .sfldO i f => fun X c x hX S W hp hm => by
    rw [x_sfldO]
    simp only [mS] at hm
    split at hm
    · simp only [Bool.and_eq_true, decide_eq_true_eq] at hm
      obtain ⟨⟨h1, rfl⟩, h3⟩ := hm
      obtain ⟨a1, a2, a3, a4⟩ := visB_ok S h1
      exact s_sfldO W.co h3 a1 a2 a3 a4
    · cases hm
  | .appf i f is => fun X c x hX S W hp hm => by
    rw [x_appf]
    simp only [mS] at hm
    split at hm
    · simp only [Bool.and_eq_true, decide_eq_true_eq] at hm
      obtain ⟨⟨⟨⟨⟨rfl, h1⟩, h2⟩, rfl⟩, h4⟩, h5⟩ := hm
      obtain ⟨a1, a2, a3, a4⟩ := visB_ok S h2
      exact s_appf W.co S h4 a1 a2 a3 a4 h5 h1
    · cases hm
  | .ite e a b => fun X c x hX S W hp hm => by
    rw [x_ite]
    simp only [mS] at hm
    split at hm
    · simp only [Bool.and_eq_true] at hm
      obtain ⟨⟨h1, h2⟩, h3⟩ := hm
      exact s_if (sE e _ _ _ hX S W h1).2 (sSs a _ _ _ hX S W hp h2) (sSs b _ _ _ hX S W hp h3)
    · cases hm
  | .for_ t s b => fun X c x hX S W hp hm => by
    rw [x_for]
    simp only [mS] at hm
    split at hm
    · simp only [Bool.and_eq_true, Bool.or_eq_true, Bool.not_eq_true'] at hm
      obtain ⟨⟨⟨h1, h2⟩, h3⟩, h4⟩ := hm
      have ht : pairS s = true → isTp t = true := fun z => h3.resolve_left (by rw [z]; decide)
      refine s_for ht hp hX.calm (sSrc s _ _ _ _ hX S W h2 fun z => ?_) (c_tg hX S W.co t _ h1) (sSs b _ _ _ hX S W hp h4) (foldSrc h2 _)
      exact tp_tup (ht z) h1
    · cases hm
  | .while_ e b => fun X c x hX S W hp hm => by
    rw [x_while]
    simp only [mS] at hm
    split at hm
    · simp only [Bool.and_eq_true] at hm
      exact s_while hp (sE e _ _ _ hX S W hm.1).2 (sSs b _ _ _ hX S W hp hm.2)
    · cases hm
theorem sSs : ∀ s : Ss, okSs T cl j N C s
  | .nil => fun X c x hX S W hp hm => by
    cases x with
    | nil => rw [x_nil]; exact s_nil
    | cons _ _ => simp [mSs] at hm
  | .cons s r => fun X c x hX S W hp hm => by
    cases x with
    | nil => simp [mSs] at hm
    | cons x xs =>
      simp only [mSs, Bool.and_eq_true] at hm
      rw [x_cons]
      exact s_cons (sS s _ _ _ hX S W hp hm.1) (sSs r _ _ _ hX S W hp hm.2)
end
end
end VL

set_option Elab.async false
set_option linter.all false
set_option maxRecDepth 100000
set_option maxHeartbeats 4000000
/-! VL: defs. -/
namespace VL
open PySem L2
open PyProof PyProof.Rows
def ArgAt (K : PySem.W.Frag) (cl : ClsT) (H : Hp) (Z : AddrS) (g : List Addr) (v : V) : AV → Prop
  | .sh d => Rep K H Z v d ∧ g = []
  | .scr ns => (∃ p, v = .ref p ∧ Scr K H p (ns.map V.int)) ∧ g = []
  | .io o => Own K cl H Z v o g
theorem ArgsOk.at {K : PySem.W.Frag} {cl : ClsT} {H : Hp} {Z : AddrS} : ∀ {vs : List V} {as : List AV} {gs : List (List Addr)}, ArgsOk K cl H Z vs as gs → ∀ {i : Nat} {a : AV}, as[i]? = some a → ∃ v, vs[i]? = some v ∧ ArgAt K cl H Z (gAt gs i) v a
  | _, _, _, .nil, _, _, e => by simp at e
  | _, _, _, .sh r h, 0, _, e => by simp at e; subst e; exact ⟨_, rfl, r, rfl⟩
  | _, _, _, .scr r h, 0, _, e => by simp at e; subst e; exact ⟨_, rfl, ⟨_, rfl, r⟩, rfl⟩
  | _, _, _, .io r h, 0, _, e => by simp at e; subst e; exact ⟨_, rfl, r⟩
  | _, _, _, .sh r h, i + 1, _, e => by simpa [gAt] using h.at (i := i) (by simpa using e)
  | _, _, _, .scr r h, i + 1, _, e => by simpa [gAt] using h.at (i := i) (by simpa using e)
  | _, _, _, .io r h, i + 1, _, e => by simpa [gAt] using h.at (i := i) (by simpa using e)
theorem ArgsOk.glen {K : PySem.W.Frag} {cl : ClsT} {H : Hp} {Z : AddrS} : ∀ {vs : List V} {as : List AV} {gs : List (List Addr)}, ArgsOk K cl H Z vs as gs → gs.length = as.length
  | _, _, _, .nil => rfl
  | _, _, _, .sh _ h => by simp [h.glen]
  | _, _, _, .scr _ h => by simp [h.glen]
  | _, _, _, .io _ h => by simp [h.glen]
def slotOf : AV → Slot
  | .sh d => .shr d
  | .io o => .io o
  | .scr ns => .scr ns
theorem startE_get {n : Nat} {avs : List AV} {i : Nat} : getS (startE n avs) i = match avs[i]? with | some a => slotOf a | none => .un := by
  unfold getS startE
  by_cases h : i < avs.length
  · rw [List.getElem?_append_left (by simpa using h), List.getElem?_map, List.getElem?_eq_getElem h]
    cases avs[i] <;> rfl
  · rw [List.getElem?_append_right (by simpa using h), List.getElem?_eq_none (by omega : avs.length ≤ i), List.getElem?_replicate]
    split <;> rfl
theorem start_get {N : List Str} {vs : List V} {i : Nat} {v : V} (h : vs[i]? = some v) : (L2.start N vs)[i]? = some (some v) := by
  unfold L2.start
  have hi := (List.getElem?_eq_some_iff.mp h).1
  rw [List.getElem?_append_left (by simpa using hi), List.getElem?_map, h]; rfl
section
variable {K : PySem.W.Frag} {cl : ClsT}
/-- the state when a def begins -/
theorem SR.start {N : List Str} {H : Hp} {Z : AddrS} {vs : List V} {avs : List AV} {gs : List (List Addr)} (A : ArgsOk K cl H Z vs avs gs) (g : GsOk Z gs) (m : ∀ a, Z a → Mut (H a)) (hn : avs.length ≤ N.length) :
    SR K cl ⟨Z, H, fun i a => a ∈ gAt gs i, fun i => vs[i]?⟩ (startE N.length avs) (gAt gs) (L2.start N vs) H := by
  have hl := A.len
  have sl : (L2.start N vs).length = N.length := by unfold L2.start; rw [List.length_append, List.length_map, List.length_replicate]; omega
  have el : (startE N.length avs).length = N.length := by unfold startE; rw [List.length_append, List.length_map, List.length_replicate]; omega
  have st : Step H Z H (ZZ Z (gAt gs)) := .same (fun _ _ e => e) fun a z => z.elim id fun ⟨i, h⟩ => g.sub i a h
  have gn : ∀ {i}, avs[i]? = none → gAt gs i = [] := fun {i} h => by
    unfold gAt
    rw [List.getElem?_eq_none (by rw [A.glen]; exact List.getElem?_eq_none_iff.mp h)]; rfl
  have gl : ∀ {i a}, a ∈ gAt gs i → i < N.length := fun {i a} h => by
    cases e : avs[i]? with
    | none => rw [gn e] at h; cases h
    | some x => have := (List.getElem?_eq_some_iff.mp e).1; omega
  have cs : ∀ {i s}, getS (startE N.length avs) i = s → s ≠ .un → ∃ a v, avs[i]? = some a ∧ slotOf a = s ∧ vs[i]? = some v ∧ ArgAt K cl H Z (gAt gs i) v a := fun {i s} e n => by
    rw [startE_get] at e
    cases q : avs[i]? with
    | none => rw [q] at e; exact absurd e.symm n
    | some a =>
      rw [q] at e
      obtain ⟨v, h1, h2⟩ := A.at q
      exact ⟨a, v, rfl, e, h1, h2⟩
  refine ⟨by rw [el, sl], fun i d e => ?_, fun i o e => ?_, fun i o e => ?_, fun i ns e => ?_, fun i n1 n2 n3 => ?_, fun i hi a h => ?_, g.disj, g.nd, m, fun a z => mut_ne (m a z), fun b o e _ => e, fun b e => e, fun i a h => by rw [sl]; exact gl h⟩
  · obtain ⟨a, v, h1, h2, h3, h4⟩ := cs e (fun z => nomatch z)
    cases a <;> simp [slotOf] at h2
    subst h2
    exact ⟨v, start_get h3, h4.1.step st⟩
  · obtain ⟨a, v, h1, h2, h3, h4⟩ := cs e (fun z => nomatch z)
    cases a <;> simp [slotOf] at h2
  · obtain ⟨a, v, h1, h2, h3, h4⟩ := cs e (fun z => nomatch z)
    cases a <;> simp [slotOf] at h2
    subst h2
    exact ⟨v, start_get h3, h3, Own.move h4 st fun _ _ => rfl, fun a ha => .inr ha⟩
  · obtain ⟨a, v, h1, h2, h3, h4⟩ := cs e (fun z => nomatch z)
    cases a <;> simp [slotOf] at h2
    subst h2
    obtain ⟨⟨p, rfl, sc⟩, _⟩ := h4
    exact ⟨p, start_get h3, sc⟩
  · cases q : avs[i]? with
    | none => exact gn q
    | some a =>
      obtain ⟨v, _, h2⟩ := A.at q
      have e := startE_get (n := N.length) (avs := avs) (i := i)
      rw [q] at e
      cases a with
      | sh d => exact h2.2
      | scr ns => exact h2.2
      | io o => exact absurd e (n2 o)
  · have := gl h
    rw [sl] at hi; omega
def gio (env : Env) (G : Nat → List Addr) : Nat → List Addr := fun i => match getS env i with
  | .io _ => G i
  | _ => []
theorem gio_mem {env : Env} {G : Nat → List Addr} {i : Nat} {a : Addr} (h : a ∈ gio env G i) : (∃ o, getS env i = .io o) ∧ a ∈ G i := by
  unfold gio at h
  split at h
  · rename_i o e; exact ⟨⟨o, e⟩, h⟩
  · cases h
theorem gio_io {env : Env} {G : Nat → List Addr} {i : Nat} {o : OV} (h : getS env i = .io o) : gio env G i = G i := by unfold gio; rw [h]
theorem ios_post {F : FP} {env : Env} {G : Nat → List Addr} {σ : L2.St} {H : Hp} (S : SR K cl F env G σ H) {Z' : AddrS} (zs : ∀ a, Z' a → ZZ F.Zc G a) : ∀ {pk : List PK} {as : List AV} {vs : List V} {n : Nat} {os : List OV}, okArgs pk as = true → vs.length = as.length → (∀ i v, vs[i]? = some v → F.av (n + i) = some v) → iosOf env pk n = some os →
    IoPost K cl H Z' (gio env G) n vs as os
  | [], [], [], n, os, _, _, _, e => by simp [iosOf] at e; subst e; exact .nil
  | [], [], _ :: _, _, _, _, h, _, _ => by simp at h
  | [], _ :: _, _, _, _, h, _, _, _ => by simp [okArgs] at h
  | p :: r, [], _, _, _, h, _, _, _ => by cases p <;> simp [okArgs] at h
  | _ :: _, _ :: _, [], _, _, _, h, _, _ => by simp at h
  | p :: r, a :: as, v :: vs, n, os, h, hl, av, e => by
    have av' : ∀ i w, vs[i]? = some w → F.av (n + 1 + i) = some w := fun i w q => by
      have := av (i + 1) w (by simpa using q)
      rw [← this]; congr 1; omega
    cases p <;> cases a <;> simp only [okArgs, Bool.false_eq_true] at h
    · exact .sh (ios_post S zs h (by simpa using hl) av' (by simpa [iosOf] using e))
    · simp only [iosOf] at e
      split at e
      · rename_i o ho
        simp only [Option.map_eq_some_iff] at e
        obtain ⟨os', e1, rfl⟩ := e
        obtain ⟨w, _, h2, ow, _⟩ := S.io n o ho
        have := av 0 v rfl
        rw [Nat.add_zero, h2] at this; cases this
        exact .io (by rw [gio_io ho]; exact ow.move (.same (fun _ _ e => e) zs) fun _ _ => rfl) (ios_post S zs h (by simpa using hl) av' e1)
      · cases e
    · exact .scr (ios_post S zs h (by simpa using hl) av' (by simpa [iosOf] using e))
/-- what holds when a def ends -/
theorem post_of {H H' : Hp} {Z : AddrS} {vs : List V} {avs : List AV} {gs : List (List Addr)} {env : Env} {G : Nat → List Addr} {σ : L2.St} {pk : List PK} {os : List OV} {pend : List Addr} {v : V} {d : PyData} {ret : Ret} (A : ArgsOk K cl H Z vs avs gs)
    (S : SR K cl ⟨Z, H, fun i a => a ∈ gAt gs i, fun i => vs[i]?⟩ env G σ H') (ok : okArgs pk avs = true) (ho : iosOf env pk 0 = some os) (hp : ∀ a ∈ pend, ∃ i, a ∈ G i)
    (rt : (∀ a, Zn Z (gio env G) pend a → ZZ Z G a) → RetOk K H H' (Zn Z (gio env G) pend) (gio env G) pend vs v d ret) : Post K cl ret Z H vs avs gs v H' d os := by
  have zs : ∀ a, Zn Z (gio env G) pend a → ZZ Z G a := fun a z => by
    rcases z with z | ⟨i, z⟩ | z
    · exact .inl z
    · exact .inr ⟨i, (gio_mem z).2⟩
    · exact .inr (hp a z)
  refine ⟨fun b o e n => S.kept b o e fun ⟨i, z⟩ => n i z, S.dom0, S.dom, gio env G, pend, fun i j a h1 h2 => S.disj i j a (gio_mem h1).2 (gio_mem h2).2, fun i => ?_, fun i a h => ?_, ?_, rt zs⟩
  · unfold gio
    split
    · exact S.nd i
    · exact .nil
  · obtain ⟨⟨o, e⟩, h2⟩ := gio_mem h
    obtain ⟨_, _, _, _, q⟩ := S.io i o e
    rcases q a h2 with q | q
    · exact .inr q
    · exact .inl q
  · exact ios_post S zs ok A.len (fun i v h => by rw [Nat.zero_add]; exact h) ho
end
end VL

set_option Elab.async false
set_option linter.all false
set_option maxRecDepth 100000
set_option maxHeartbeats 4000000
/-! VL: a def keeps its promise. -/
namespace VL
open PySem L2
open PyProof PyProof.Rows
def bltNames : List Str := ["len", "int", "max", "min", "list", "tuple", "sorted", "all", "any", "repr", "abs", "range", "enumerate", "zip", "set", "dict", "isinstance", "bool", "str"]
section
variable {T : Tb} {cl : ClsT} {j NN : Nat} {C C' : Calls} {P : Program} {w : World} {K : PySem.W.Frag} {mg : Str → Option Value} {base : Heap}
theorem fn_vl {x qual g : Str} {st : Stmt} {f : Addr} {fd : FuncData} {N ps : List Str} {d : Def} (F : C8.Fun K x qual st f fd) (S : FnScope N ps (C8.fnScope st)) (hm : mSs T d.body ⟨N, (C8.fnScope st).names, fun _ => true⟩ (C8.fnBody st) = true) (hs : d.slots = N.length) (hps : ps.length = d.params.length)
    (W : ∀ X : Cx, X.prog = P → X.w = w → X.K = K → X.mg = mg → X.base = base → WOk T X cl j C) (bt : ∀ x ∈ bltNames, mg x = none) (hC : ∀ avs, C' g avs = runD C NN d avs) :
    FnOk P w K mg base CX0 (j + 2) f fd ps (spC K cl C' g d.ret d.params) := by
  have hpl : ps.length ≤ N.length := by have := congrArg List.length S.pre; rw [List.length_take] at this; omega
  refine C8.fn0 F S (fun vs H Q E ⟨Z, avs, gs, dd, os, A, _, _, ok, _⟩ => ?_) fun cdv A0 outer s H vs Q E hr hsp => ?_
  · rw [A.len, ← okArgs_len ok, hps]
  · obtain ⟨Z, avs, gs, dd, os, A, gok, mt, ok, he, q⟩ := hsp
    have la : avs.length ≤ N.length := by rw [← okArgs_len ok, ← hps]; exact hpl
    have S0 := SR.start (cl := cl) A gok mt la
    rw [hC] at he
    unfold runD at he
    rw [if_pos ok] at he
    simp only [Option.bind_eq_bind, Option.bind_eq_some_iff, Prod.exists] at he
    obtain ⟨fl, env', hx, os', ho, hr'⟩ := he
    refine ⟨rdS K cl (xSs C NN d.body), ?_, ?_⟩
    · refine sSs d.body (cxOf CX0 P w K mg base N qual (C8.fnScope st) f cdv A0 outer s H E).nox _ _ ⟨rfl, S.nd, hr, bt⟩ ⟨rfl, rfl, fun _ _ => rfl, S.kind⟩ (W _ rfl rfl rfl rfl rfl) PassesOwn.never hm
    · refine ⟨_, _, _, fl, env', S0, by rw [← hs]; exact hx, ?_⟩
      cases hret : d.ret with
      | val =>
        rw [hret] at q hr'
        cases fl <;> simp at hr'
        · obtain ⟨rfl, rfl⟩ := hr'
          exact fun σ' H' G' S' st' => q _ _ (post_of (pend := []) A S' ok ho (fun a h => nomatch h) fun zs => ⟨rfl, .non⟩)
        · obtain ⟨rfl, rfl⟩ := hr'
          exact fun v σ' H' G' S' st' r => q _ _ (post_of (pend := []) A S' ok ho (fun a h => nomatch h) fun zs => ⟨rfl, r.step (.same (fun _ _ e => e) zs)⟩)
      | own =>
        rw [hret] at q hr'
        cases fl <;> simp at hr'
        obtain ⟨rfl, rfl⟩ := hr'
        intro p xs ds i σ' H' G' e S' st' hp ra hg hio hf hz
        refine q _ _ (post_of (pend := [p]) A S' ok ho (fun a h => ⟨i, by rw [hg, List.mem_singleton.mp h]; simp⟩) fun zs => ⟨p, xs, ds, rfl, e, rfl, hp, ra.step (.same (fun _ _ e => e) zs), ?_, fun k hk => ?_⟩)
        · rcases hf with hf | ⟨k, hk⟩
          · exact hf
          · exact absurd (gok.sub k p hk) hz
        · obtain ⟨⟨o, e1⟩, h2⟩ := gio_mem hk
          have := S'.disj k i p h2 (by rw [hg]; simp)
          subst this
          exact hio o e1
      | self =>
        rw [hret] at q hr'
        cases fl with
        | rs i =>
          cases i with
          | zero =>
            simp at hr'
            obtain ⟨rfl, rfl⟩ := hr'
            intro v σ' H' G' S' st' hv ⟨o, hi⟩
            refine q _ _ (post_of (pend := []) A S' ok ho (fun a h => nomatch h) fun zs => ⟨rfl, ?_⟩)
            obtain ⟨w', h1, h2, _⟩ := S'.io 0 o hi
            rw [hv] at h1; cases h1
            have h2 : vs[0]? = some v := h2
            rw [List.head?_eq_getElem?]; exact h2
          | succ i => simp at hr'
        | _ => simp at hr'
end
end VL

set_option Elab.async false
set_option linter.all false
set_option maxRecDepth 100000
set_option maxHeartbeats 4000000
/-! VL: all defs, by depth. -/
namespace VL
open PySem L2
open PyProof PyProof.Rows
structure DefOk (T : Tb) (K : PySem.W.Frag) (d : Def) (a : Addr) (fd : FuncData) (ps : List Str) : Prop where
  ex : ∃ (x qual : Str) (st : Stmt) (N : List Str), C8.Fun K x qual st a fd ∧ FnScope N ps (C8.fnScope st) ∧ mSs T d.body ⟨N, (C8.fnScope st).names, fun _ => true⟩ (C8.fnBody st) = true ∧ d.slots = N.length ∧ ps.length = d.params.length
  binds : Binds K fd ps []
structure TabOk (T : Tb) (K : PySem.W.Frag) (mg : Str → Option Value) (cl : ClsT) : Prop where
  gl : ∀ x d, T.gc x = some d → ∃ u v, mg x = some u ∧ RelV v u ∧ ∀ H Z, Rep K H Z v d
  cls : ∀ c C, cl c = some C → Cls K C ∧ ∀ f ∈ T.fl, NoAttr K C f
  fn : ∀ f d, f ∈ T.gl → T.fn f = some d → ∃ a fd ps, DefOk T K d a fd ps ∧ mg f = some (.ref a) ∧ PySem.W.keepIn K (.ref a) = true ∧ (f == ("__debug__" : Str)) = false
  md : ∀ c m d, (c, m) ∈ T.ms → T.fn (c ++ "." ++ m) = some d → ∃ C a fd ps, cl c = some C ∧ L2.Meth K C m a ∧ DefOk T K d a fd ps
  mkk : ∀ c d, c ∈ T.cs → T.fn (c ++ ".__init__") = some d → d.ret = .val ∧ ∃ C a fd ps, cl c = some C ∧ Mk K C a ∧ DefOk T K d a fd ps ∧ mg c = some (.ref C) ∧ (c == ("__debug__" : Str)) = false
  bt : ∀ x ∈ bltNames, mg x = none
section
variable {T : Tb} {cl : ClsT} {NN : Nat} {P : Program} {w : World} {K : PySem.W.Frag} {mg : Str → Option Value} {base : Heap}
theorem callN_arg : ∀ (n : Nat) (f : Str) (d : Def) (avs : List AV) (r : PyData × List OV), T.fn f = some d → callN T.fn NN n f avs = some r → okArgs d.params avs = true
  | 0, f, d, avs, r, hf, h => by simp [callN] at h
  | n + 1, f, d, avs, r, hf, h => by
    simp only [callN, hf, Option.bind_some] at h
    unfold runD at h
    split at h
    · assumption
    · cases h
theorem callN_at {n : Nat} {f : Str} {d : Def} (hf : T.fn f = some d) (avs : List AV) : callN T.fn NN (n + 1) f avs = runD (callN T.fn NN n) NN d avs := by
  simp only [callN, hf, Option.bind_some]
/-- every def, down to a depth -/
theorem def_ok (t : TabOk T K mg cl) : ∀ (n : Nat) {g : Str} {d : Def} {a : Addr} {fd : FuncData} {ps : List Str}, T.fn g = some d → DefOk T K d a fd ps → FnOk P w K mg base CX0 (2 * n) a fd ps (spC K cl (callN T.fn NN n) g d.ret d.params) := by
  intro n
  induction n with
  | zero =>
    intro g d a fd ps hg D
    have no : ∀ {vs H Q E}, spC K cl (callN T.fn NN 0) g d.ret d.params vs H Q E → False := fun {vs H Q E} ⟨Z, avs, gs, dd, os, _, _, _, _, e, _⟩ => by simp [callN] at e
    exact ⟨fun vs H Q E h => (no h).elim, fun A outer s H args us vs Q E hr he hb hv h => (no h).elim⟩
  | succ n ih =>
    intro g d a fd ps hg D
    obtain ⟨x, qual, st, N, F, S, hm, hs, hps⟩ := D.ex
    refine fn_vl (j := 2 * n) (C := callN T.fn NN n) F S hm hs hps (fun X h1 h2 h3 h4 h5 => ?_) t.bt fun avs => callN_at hg avs
    subst h1 h2 h3 h4 h5
    refine ⟨t.gl, ⟨t.cls⟩, ⟨callN_arg n, fun f d hf hd => ?_, fun c m d hc hd => ?_, fun c d hc hd => ?_⟩⟩
    · obtain ⟨a, fd, ps, D, h1, h2, h3⟩ := t.fn f d hf hd
      exact ⟨a, fd, ps, ih hd D, h1, h2, D.binds, h3⟩
    · obtain ⟨C, a, fd, ps, h1, h2, D⟩ := t.md c m d hc hd
      exact ⟨C, a, fd, ps, h1, h2, ih hd D, D.binds⟩
    · obtain ⟨h0, C, a, fd, ps, h1, h2, D, h3, h4⟩ := t.mkk c d hc hd
      exact ⟨h0, C, a, fd, ps, h1, h2, ih hd D, h3, D.binds, h4⟩
end
end VL

set_option Elab.async false
set_option linter.all false
set_option maxRecDepth 100000
set_option maxHeartbeats 4000000
/-! VL: a law's end. -/
namespace VL
open PySem L2
open PyProof PyProof.Rows
section
variable {T : Tb} {cl : ClsT} {NN : Nat} {K : PySem.W.Frag}
/-- what walk_of asks of the law's promise -/
theorem law_sp {C : Calls} {ret : Ret} {H : Hp} {a : Addr} {ns : List Int} {E : XK} (hr : ret = .val) (ho : Only H) (hs : SqL K H a (ns.map V.int)) (hC : C "law" [.scr ns] = some (.bool true, [])) :
    spC K cl C "law" ret [.scr] [.ref a] H (fun v _ => v = .bl true) E := by
  subst hr
  have sc : Scr K H a (ns.map V.int) := by
    rcases hs with (h | ⟨o, h⟩) | h
    · rcases ho a with z | ⟨o, xs, z⟩
      · rw [h] at z; cases z
      · rw [h] at z; cases z
    · exact .inl ⟨o, h⟩
    · exact .inr h
  refine ⟨fun _ => False, [.scr ns], [[]], _, _, .scr sc .nil, ⟨fun i j a h => ?_, fun i => ?_, fun i a h => ?_⟩, fun a z => z.elim, rfl, hC, fun v H' P => ?_⟩
  · cases i <;> simp [gAt] at h
  · cases i <;> simp [gAt]
  · cases i <;> simp [gAt] at h
  · obtain ⟨G, pend, _, _, _, _, rt⟩ := P.ex
    cases rt.2
    rfl
/-- the law's promise as walk_of wants it: no class in sight -/
def spL (K : PySem.W.Frag) (n : Nat) : Sp := fun vs H Q _ => ∃ (a : Addr) (ns : List Int), vs = [.ref a] ∧ ns.length ≤ n ∧ Only H ∧ SqL K H a (ns.map V.int) ∧ ∀ H', Q (.bl true) H'
theorem spL_sp {C : Calls} {n : Nat} (hC : ∀ ns : List Int, ns.length ≤ n → C "law" [.scr ns] = some (.bool true, [])) {vs : List V} {H : Hp} {Q : VK} {E : XK} (h : spL K n vs H Q E) : spC K cl C "law" .val [.scr] vs H Q E := by
  obtain ⟨a, ns, rfl, hl, ho, hs, q⟩ := h
  obtain ⟨Z, avs, gs, d, os, h1, h2, h3, h4, h5, h6⟩ := law_sp (K := K) (cl := cl) (E := E) rfl ho hs (hC ns hl)
  exact ⟨Z, avs, gs, d, os, h1, h2, h3, h4, h5, fun v H' P => by cases h6 v H' P; exact q H'⟩
end
end VL

set_option Elab.async false
set_option linter.all false
set_option maxRecDepth 100000
/-! VW: what must hold so that a run of the language ends well. -/
namespace VL.VE
open PySem
def Wp {α β : Type} (r : Option (α × β)) (Q : α → β → Prop) : Prop := ∃ a e, r = some (a, e) ∧ Q a e
section
variable {α β γ δ : Type}
theorem Wp_some {a : α} {e : β} {Q : α → β → Prop} : Wp (some (a, e)) Q ↔ Q a e :=
  ⟨fun ⟨_, _, h, q⟩ => by cases h; exact q, fun q => ⟨_, _, rfl, q⟩⟩
theorem Wp_none {Q : α → β → Prop} : Wp none Q ↔ False := ⟨fun ⟨_, _, h, _⟩ => (nomatch h), False.elim⟩
theorem Wp_mono {r : Option (α × β)} {Q R : α → β → Prop} (h : Wp r Q) (f : ∀ a e, Q a e → R a e) : Wp r R :=
  let ⟨a, e, h, q⟩ := h; ⟨a, e, h, f a e q⟩
theorem Wp_bind {m : Option (α × β)} {f : α × β → Option (γ × δ)} {Q : γ → δ → Prop} :
    Wp (m.bind f) Q ↔ Wp m (fun a e => Wp (f (a, e)) Q) := by
  constructor
  · rintro ⟨a, e, h, q⟩
    cases hm : m with
    | none => rw [hm] at h; cases h
    | some p => rw [hm] at h; exact ⟨p.1, p.2, rfl, _, _, h, q⟩
  · rintro ⟨a, e, h, _, _, h2, q⟩
    exact ⟨_, _, by rw [h]; exact h2, q⟩
theorem Wp_bindO {m : Option α} {f : α → Option (γ × δ)} {Q : γ → δ → Prop} :
    Wp (m.bind f) Q ↔ ∃ a, m = some a ∧ Wp (f a) Q := by
  constructor
  · rintro ⟨a, e, h, q⟩
    cases hm : m with
    | none => rw [hm] at h; cases h
    | some p => rw [hm] at h; exact ⟨p, rfl, _, _, h, q⟩
  · rintro ⟨a, h, _, _, h2, q⟩
    exact ⟨_, _, by rw [h]; exact h2, q⟩
theorem Wp_map {m : Option (α × β)} {f : α × β → γ × δ} {Q : γ → δ → Prop} :
    Wp (m.map f) Q ↔ Wp m (fun a e => Q (f (a, e)).1 (f (a, e)).2) := by
  rw [Option.map_eq_bind, Wp_bind]
  constructor
  · exact fun h => Wp_mono h fun a e h => Wp_some.mp h
  · exact fun h => Wp_mono h fun a e h => Wp_some.mpr h
theorem Wp_mapO {m : Option α} {f : α → γ × δ} {Q : γ → δ → Prop} :
    Wp (m.map f) Q ↔ ∃ a, m = some a ∧ Q (f a).1 (f a).2 := by
  rw [Option.map_eq_bind, Wp_bindO]
  constructor
  · rintro ⟨a, h, q⟩; exact ⟨a, h, Wp_some.mp q⟩
  · rintro ⟨a, h, q⟩; exact ⟨a, h, Wp_some.mpr q⟩
theorem Wp_ite {c : Prop} [Decidable c] {m : Option (α × β)} {Q : α → β → Prop} : Wp (if c then m else none) Q ↔ c ∧ Wp m Q := by
  split <;> simp [*, Wp_none]
theorem Wp_eq {r : Option (α × β)} {a : α} {e : β} {Q : α → β → Prop} (h : r = some (a, e)) (q : Q a e) : Wp r Q := ⟨_, _, h, q⟩
theorem ite_some {c : Prop} [Decidable c] {x y : α} : ((if c then some x else none) = some y) ↔ (c ∧ x = y) := by
  split <;> simp [*]
end
/-! environments as written lists -/
theorem getS_z {s : Slot} {e : Env} : getS (s :: e) 0 = s := rfl
theorem getS_s {s : Slot} {e : Env} {i : Nat} : getS (s :: e) (i + 1) = getS e i := rfl
theorem setS_z {s t : Slot} {e : Env} : setS (s :: e) 0 t = t :: e := rfl
theorem setS_s {s t : Slot} {e : Env} {i : Nat} : setS (s :: e) (i + 1) t = s :: setS e i t := rfl
theorem lineN_le {n : Nat} (h : n ≤ 1000 := by decide) : (n ≤ lineN) = True := by
  simp only [lineN, eq_iff_iff, iff_true]; omega
theorem lineN_le' {n : Nat} (h : n ≤ 1000) : n ≤ lineN := by simp only [lineN]; omega
theorem run_wp {T : Str → Option Def} {N n : Nat} {f : Str} {d : Def} {avs : List AV} {Q : PyData → List OV → Prop} (env0 : Env) (h : T f = some d) (ha : okArgs d.params avs = true) (he : startE d.slots avs = env0)
    (w : Wp (xSs (callN T N n) N d.body env0) fun fl env => Wp (match d.ret, fl with
      | .val, .nx => (iosOf env d.params 0).map fun os => (PyData.none, os)
      | .val, .rt x => (iosOf env d.params 0).map fun os => (x, os)
      | .own, .ro x => (iosOf env d.params 0).map fun os => (x, os)
      | .self, .rs 0 => (iosOf env d.params 0).map fun os => (PyData.none, os)
      | _, _ => none) Q) : Wp (callN T N (n + 1) f avs) Q := by
  subst he
  obtain ⟨fl, env, h1, d', os', h2, h3⟩ := w
  refine ⟨d', os', ?_, h3⟩
  simp only [callN, h, Option.bind_some, runD, ha, if_true, h1, Option.bind_eq_bind]
  revert h2
  cases iosOf env d.params 0 with
  | none => split <;> simp
  | some os =>
    simp only [Option.bind_some, Option.map_some]
    exact fun e => e
theorem call_eq {r : Option (PyData × List OV)} {a : PyData} {e : List OV} (h : Wp r fun x y => x = a ∧ y = e) : r = some (a, e) := by
  obtain ⟨x, y, h, rfl, rfl⟩ := h; exact h
/-- a call of a def of the table -/
theorem callN_to {T : Str → Option Def} {N n : Nat} {f : Str} {d : Def} (h : T f = some d) (avs : List AV) : callN T N (n + 1) f avs = runD (callN T N n) N d avs := by
  simp only [callN, h, Option.bind_some]
end VL.VE

set_option Elab.async false
set_option linter.all false
set_option maxRecDepth 100000
/-! VX: typed data in the language, loops. -/
namespace VL.VE
open PySem
/-- may be compared: plain data, at most k deep -/
def Sh (k : Nat) (d : PyData) : Prop := d.canLay0 = true ∧ d.depth ≤ k
theorem Sh.mono {k m : Nat} {d : PyData} (h : Sh k d) (l : k ≤ m) : Sh m d := ⟨h.1, Nat.le_trans h.2 l⟩
theorem Sh.int {k : Nat} {i : Int} : Sh k (.int i) := ⟨rfl, Nat.zero_le _⟩
theorem Sh.bool {k : Nat} {i : Bool} : Sh k (.bool i) := ⟨rfl, Nat.zero_le _⟩
theorem Sh.none {k : Nat} : Sh k .none := ⟨rfl, Nat.zero_le _⟩
theorem ShAll {k : Nat} : ∀ {xs : List PyData}, (PyData.canLayAll0 xs = true ∧ PyData.depthAll xs ≤ k) ↔ ∀ x ∈ xs, Sh k x
  | [] => by simp [PyData.canLayAll0, PyData.depthAll]
  | x :: xs => by
    have ih := ShAll (k := k) (xs := xs)
    simp only [PyData.canLayAll0, PyData.depthAll, Bool.and_eq_true, Nat.max_le, List.forall_mem_cons, ← ih]
    constructor
    · rintro ⟨⟨a, b⟩, c, d⟩; exact ⟨⟨a, c⟩, b, d⟩
    · rintro ⟨⟨a, c⟩, b, d⟩; exact ⟨⟨a, b⟩, c, d⟩
theorem Sh.tup {k : Nat} {xs : List PyData} (h : ∀ x ∈ xs, Sh k x) : Sh (k + 1) (.tuple xs) := by
  have := ShAll.mpr h
  exact ⟨by simpa [PyData.canLay0] using this.1, by simpa [PyData.depth] using this.2⟩
theorem Sh.list {k : Nat} {xs : List PyData} (h : ∀ x ∈ xs, Sh k x) : Sh (k + 1) (.list xs) := by
  have := ShAll.mpr h
  exact ⟨by simpa [PyData.canLay0] using this.1, by simpa [PyData.depth] using this.2⟩
theorem Sh.shaped {d : PyData} (h : Sh 64 d) : SeqAt.shaped d = true := by
  simp [SeqAt.shaped, h.1, h.2]
theorem eqD_sh {a b : PyData} (h : Sh 64 a) (g : Sh 64 b) : eqD a b = some (PyData.eqv a b) := by simp [eqD, h.shaped, g.shaped]
theorem inD_tup {x : PyData} {ds : List PyData} (h : Sh 64 x) (g : Sh 64 (.tuple ds)) : inD x (.tuple ds) = some (ds.any fun z => PyData.eqv z x) := by simp [inD, h.shaped, g.shaped]
theorem inD_list {x : PyData} {ds : List PyData} (h : Sh 64 x) (g : Sh 64 (.list ds)) : inD x (.list ds) = some (ds.any fun z => PyData.eqv z x) := by simp [inD, h.shaped, g.shaped]
theorem index_tup {x : PyData} {ds : List PyData} (h : Sh 64 x) (g : Sh 64 (.tuple ds)) : meD .index (.tuple ds) x = (findD x ds).map fun (n : Nat) => .int n := by simp [meD, h.shaped, g.shaped]
theorem index_list {x : PyData} {ds : List PyData} (h : Sh 64 x) (g : Sh 64 (.list ds)) : meD .index (.list ds) x = (findD x ds).map fun (n : Nat) => .int n := by simp [meD, h.shaped, g.shaped]
theorem count_tup {x : PyData} {ds : List PyData} (h : Sh 64 x) (g : Sh 64 (.tuple ds)) : meD .count (.tuple ds) x = some (.int (ds.countP fun z => PyData.eqv z x)) := by simp [meD, h.shaped, g.shaped]
theorem count_list {x : PyData} {ds : List PyData} (h : Sh 64 x) (g : Sh 64 (.list ds)) : meD .count (.list ds) x = some (.int (ds.countP fun z => PyData.eqv z x)) := by simp [meD, h.shaped, g.shaped]

/-- data with a Lean type -/
class Enc (α : Type) where
  enc : α → PyData
  dep : Nat
  sh : ∀ x, Sh dep (enc x)
  eqv : ∀ x y, PyData.eqv (enc x) (enc y) = true ↔ x = y
open Enc (enc)
instance : Enc Int := ⟨.int, 0, fun _ => .int, fun x y => by simp [PyData.eqv]⟩
instance : Enc Nat := ⟨fun n => .int n, 0, fun _ => .int, fun x y => by simp [PyData.eqv, Int.ofNat_inj]⟩
instance : Enc Bool := ⟨.bool, 0, fun _ => .bool, fun x y => by simp [PyData.eqv]⟩
section
variable {α β : Type} [Enc α] [Enc β]
theorem eqvAll_enc : ∀ xs ys : List α, PyData.eqvAll (xs.map enc) (ys.map enc) = true ↔ xs = ys
  | [], [] => by simp [PyData.eqvAll]
  | [], _ :: _ => by simp [PyData.eqvAll]
  | _ :: _, [] => by simp [PyData.eqvAll]
  | x :: xs, y :: ys => by
    simp only [List.map_cons, PyData.eqvAll, Bool.and_eq_true, Enc.eqv, eqvAll_enc xs ys, List.cons.injEq]
/-- a tuple -/
instance : Enc (List α) := ⟨fun l => .tuple (l.map enc), Enc.dep α + 1, fun l => .tup fun x hx => by
  obtain ⟨y, _, rfl⟩ := List.mem_map.mp hx
  exact Enc.sh y, fun x y => by simp only [PyData.eqv]; exact eqvAll_enc x y⟩
instance : Enc (α × β) := ⟨fun p => .tuple [enc p.1, enc p.2], max (Enc.dep α) (Enc.dep β) + 1, fun p => .tup fun x hx => by
  simp only [List.mem_cons, List.not_mem_nil, or_false] at hx
  rcases hx with rfl | rfl
  · exact (Enc.sh p.1).mono (Nat.le_max_left _ _)
  · exact (Enc.sh p.2).mono (Nat.le_max_right _ _), fun x y => by
    simp only [PyData.eqv, PyData.eqvAll, Bool.and_eq_true, Enc.eqv, and_true]
    exact ⟨fun h => Prod.ext h.1 h.2, fun h => by rw [h]; exact ⟨rfl, rfl⟩⟩⟩
/-- a list -/
def encL (l : List α) : PyData := .list (l.map enc)
theorem enc_nat (n : Nat) : (enc n : PyData) = .int n := rfl
theorem enc_int (n : Int) : (enc n : PyData) = .int n := rfl
theorem enc_bool (n : Bool) : (enc n : PyData) = .bool n := rfl
theorem enc_tup (l : List α) : (enc l : PyData) = .tuple (l.map enc) := rfl
theorem enc_pair (a : α) (b : β) : (enc (a, b) : PyData) = .tuple [enc a, enc b] := rfl
theorem Sh.enc {k : Nat} (x : α) (h : Enc.dep α ≤ k) : Sh k (Enc.enc x) := (Enc.sh x).mono h
theorem Sh.encs {k : Nat} (l : List α) (h : Enc.dep α ≤ k) : ∀ x ∈ l.map Enc.enc, Sh k x := fun x hx => by
  obtain ⟨y, _, rfl⟩ := List.mem_map.mp hx
  exact (Enc.sh y).mono h
theorem eqv_enc [DecidableEq α] (x y : α) : PyData.eqv (enc x) (enc y) = decide (x = y) := by
  rw [Bool.eq_iff_iff, Enc.eqv, decide_eq_true_eq]
theorem eqD_enc [DecidableEq α] (x y : α) (h : Enc.dep α ≤ 64 := by decide) : eqD (enc x) (enc y) = some (decide (x = y)) := by
  rw [eqD_sh (.enc x h) (.enc y h), eqv_enc]
theorem eqv_tup (xs ys : List PyData) : PyData.eqv (.tuple xs) (.tuple ys) = PyData.eqvAll xs ys := by simp only [PyData.eqv]
theorem eqv_list (xs ys : List PyData) : PyData.eqv (.list xs) (.list ys) = PyData.eqvAll xs ys := by simp only [PyData.eqv]
theorem eqv_all_nil : PyData.eqvAll [] [] = true := rfl
theorem eqv_all_cons (x y : PyData) (xs ys : List PyData) : PyData.eqvAll (x :: xs) (y :: ys) = (PyData.eqv x y && PyData.eqvAll xs ys) := by simp only [PyData.eqvAll]
theorem eqv_all_map [DecidableEq α] (xs ys : List α) : PyData.eqvAll (xs.map enc) (ys.map enc) = decide (xs = ys) := by
  rw [Bool.eq_iff_iff, eqvAll_enc, decide_eq_true_eq]
theorem eqD_list [DecidableEq α] (x y : List α) (h : Enc.dep α ≤ 63 := by decide) : eqD (encL x) (encL y) = some (decide (x = y)) := by
  rw [encL, encL, eqD_sh (.list (.encs x h)) (.list (.encs y h)), eqv_list, eqv_all_map]
theorem any_enc [DecidableEq α] (x : α) (l : List α) : ((l.map enc).any fun z => PyData.eqv z (enc x)) = decide (x ∈ l) := by
  induction l with
  | nil => simp
  | cons y l ih =>
    rw [List.map_cons, List.any_cons, ih, eqv_enc]
    by_cases h : x = y
    · simp [h]
    · have : ¬ y = x := fun e => h e.symm
      simp [h, this]
theorem inD_enc [DecidableEq α] (x : α) (l : List α) (h : Enc.dep α ≤ 63 := by decide) : inD (enc x) (.tuple (l.map enc)) = some (decide (x ∈ l)) := by
  rw [inD_tup (.enc x (by omega)) (.tup (.encs l h)), any_enc]
theorem inD_encL [DecidableEq α] (x : α) (l : List α) (h : Enc.dep α ≤ 63 := by decide) : inD (enc x) (.list (l.map enc)) = some (decide (x ∈ l)) := by
  rw [inD_list (.enc x (by omega)) (.list (.encs l h)), any_enc]
theorem findD_enc [DecidableEq α] (x : α) (l : List α) : findD (enc x) (l.map enc) = if x ∈ l then some (l.idxOf x) else none := by
  induction l with
  | nil => simp [findD]
  | cons y l ih =>
    simp only [findD] at ih
    rw [findD, List.map_cons, List.findIdx?_cons, eqv_enc, ih]
    by_cases h : y = x
    · simp [h]
    · have : ¬ x = y := fun e => h e.symm
      simp only [h, decide_false, Bool.false_eq_true, if_false, List.mem_cons, this, false_or, List.idxOf_cons]
      by_cases g : x ∈ l
      · have e : (y == x) = false := by simp [h]
        simp [g, e]
      · simp [g]
theorem index_enc [DecidableEq α] (x : α) (l : List α) (hx : x ∈ l) (h : Enc.dep α ≤ 63 := by decide) : meD .index (.tuple (l.map enc)) (enc x) = some (.int (l.idxOf x : Nat)) := by
  rw [index_tup (.enc x (by omega)) (.tup (.encs l h)), findD_enc, if_pos hx]; rfl
theorem index_encL [DecidableEq α] (x : α) (l : List α) (hx : x ∈ l) (h : Enc.dep α ≤ 63 := by decide) : meD .index (.list (l.map enc)) (enc x) = some (.int (l.idxOf x : Nat)) := by
  rw [index_list (.enc x (by omega)) (.list (.encs l h)), findD_enc, if_pos hx]; rfl
theorem countP_enc [DecidableEq α] (x : α) (l : List α) : ((l.map enc).countP fun z => PyData.eqv z (enc x)) = l.count x := by
  induction l with
  | nil => rfl
  | cons y l ih =>
    rw [List.map_cons, List.countP_cons, ih, eqv_enc, List.count_cons]
    by_cases h : y = x <;> simp [h]
theorem count_enc [DecidableEq α] (x : α) (l : List α) (h : Enc.dep α ≤ 63 := by decide) : meD .count (.tuple (l.map enc)) (enc x) = some (.int (l.count x : Nat)) := by
  rw [count_tup (.enc x (by omega)) (.tup (.encs l h)), countP_enc]
theorem count_encL [DecidableEq α] (x : α) (l : List α) (h : Enc.dep α ≤ 63 := by decide) : meD .count (.list (l.map enc)) (enc x) = some (.int (l.count x : Nat)) := by
  rw [count_list (.enc x (by omega)) (.list (.encs l h)), countP_enc]
end
/-! places -/
theorem atD_nat {α : Type} (xs : List α) (i : Nat) : atD xs (i : Int) = xs[i]? := by
  unfold atD
  rw [if_pos (Int.natCast_nonneg i)]
  split
  · simp
  · rename_i h
    have : ¬ i < xs.length := by omega
    rw [List.getElem?_eq_none (by omega)]
theorem atD_last {α : Type} (xs : List α) : atD xs (-1) = xs.getLast? := by
  unfold atD
  rw [if_neg (by decide)]
  split
  · rename_i h
    have e : (-1 + (xs.length : Int)).toNat = xs.length - 1 := by omega
    rw [e, List.getLast?_eq_getElem?]
  · rename_i h
    cases xs with
    | nil => rfl
    | cons x xs => exact absurd (by simp only [List.length_cons]; omega) h
theorem sIx_nat (n d k : Nat) : sIx n d (some (k : Int)) = min k n := by
  unfold sIx
  simp only
  rw [if_neg (by omega)]
  simp
theorem sIx_no (n d : Nat) : sIx n d none = d := rfl
theorem cut_to (xs : List PyData) (k : Nat) : cutD xs none (some (k : Int)) = xs.take k := by
  simp only [cutD, sIx_nat, sIx_no, List.drop_zero, Nat.sub_zero]
  rw [← List.take_eq_take_min]
theorem cut_from (xs : List PyData) (k : Nat) : cutD xs (some (k : Int)) none = xs.drop k := by
  simp only [cutD, sIx_nat, sIx_no]
  rw [List.take_of_length_le (by simp)]
  by_cases h : k ≤ xs.length
  · rw [Nat.min_eq_left h]
  · rw [Nat.min_eq_right (by omega), List.drop_of_length_le (by omega), List.drop_of_length_le (by omega)]
/-- a slot that a comprehension may use -/
def US (s : Slot) : Prop := (∃ d, s = .shr d) ∨ s = .un
theorem US.un : US .un := .inr rfl
theorem US.shr {d : PyData} : US (.shr d) := .inl ⟨d, rfl⟩
theorem US.free {s : Slot} (h : US s) : freeS s = true := by
  rcases h with ⟨d, rfl⟩ | rfl <;> rfl
theorem wipe_us {env : Env} {i : Nat} (h : US (getS env i)) : wipeE env [i] = some (setS env i .un) := by
  simp only [wipeE, Option.bind_eq_bind, Option.bind_some]
  rcases h with ⟨d, h⟩ | h <;> rw [h]
/-! loops -/
/-- a for loop that goes on to its end, by what holds between its turns -/
theorem for_to {α : Type} {tg : Tg} {b : Env → Option (Fl × Env)} {f : α → PyData} {R : List α → List α → Env → Prop}
    (turn : ∀ p x r env, R p (x :: r) env → ∃ e1, putTg tg (f x) env = some e1 ∧ Wp (b e1) fun fl e2 => (fl = .nx ∨ fl = .ct) ∧ R (p ++ [x]) r e2) :
    ∀ (l : List α) (p : List α) (env : Env), R p l env → Wp (forGo tg b (l.map f) env) fun fl e => fl = .nx ∧ R (p ++ l) [] e
  | [], p, env, h => Wp_some.mpr ⟨rfl, by simpa using h⟩
  | x :: l, p, env, h => by
    obtain ⟨e1, h1, fl, e2, h2, h3, h4⟩ := turn p x l env h
    have ih := for_to turn l (p ++ [x]) e2 h4
    rw [List.append_assoc, List.singleton_append] at ih
    rw [List.map_cons, forGo]
    simp only [h1, h2, Option.bind_eq_bind, Option.bind_some]
    rcases h3 with rfl | rfl <;> exact ih
theorem for_wp {α : Type} {tg : Tg} {b : Env → Option (Fl × Env)} {f : α → PyData} {l : List α} {env : Env} {Q : Fl → Env → Prop} (R : List α → List α → Env → Prop)
    (start : R [] l env) (turn : ∀ p x r env, R p (x :: r) env → ∃ e1, putTg tg (f x) env = some e1 ∧ Wp (b e1) fun fl e2 => (fl = .nx ∨ fl = .ct) ∧ R (p ++ [x]) r e2)
    (fin : ∀ e, R l [] e → Q .nx e) : Wp (forGo tg b (l.map f) env) Q :=
  Wp_mono (for_to turn l [] env start) fun fl e h => by rw [h.1]; exact fin e h.2
/-- a for loop that may hand back -/
theorem for_ret {α : Type} {tg : Tg} {b : Env → Option (Fl × Env)} {f : α → PyData} {Q : Fl → Env → Prop} {R : List α → List α → Env → Prop}
    (turn : ∀ p x r env, R p (x :: r) env → ∃ e1, putTg tg (f x) env = some e1 ∧ Wp (b e1) fun fl e2 => match fl with | .nx => R (p ++ [x]) r e2 | .ct => R (p ++ [x]) r e2 | .bk => Q .nx e2 | fl => Q fl e2) :
    ∀ (l : List α) (p : List α) (env : Env), R p l env → (∀ e, R (p ++ l) [] e → Q .nx e) → Wp (forGo tg b (l.map f) env) Q
  | [], p, env, h, fin => Wp_some.mpr (fin _ (by simpa using h))
  | x :: l, p, env, h, fin => by
    obtain ⟨e1, h1, fl, e2, h2, h3⟩ := turn p x l env h
    rw [List.map_cons, forGo]
    simp only [h1, h2, Option.bind_eq_bind, Option.bind_some]
    have ih := for_ret turn l (p ++ [x]) e2
    rw [List.append_assoc, List.singleton_append] at ih
    cases fl with
    | nx => exact ih h3 fin
    | ct => exact ih h3 fin
    | bk => exact Wp_some.mpr h3
    | rt d => exact Wp_some.mpr h3
    | ro d => exact Wp_some.mpr h3
    | rs d => exact Wp_some.mpr h3
theorem for_retw {α : Type} {tg : Tg} {b : Env → Option (Fl × Env)} {f : α → PyData} {l : List α} {env : Env} {Q : Fl → Env → Prop} (R : List α → List α → Env → Prop) (start : R [] l env)
    (turn : ∀ p x r env, R p (x :: r) env → ∃ e1, putTg tg (f x) env = some e1 ∧ Wp (b e1) fun fl e2 => match fl with | .nx => R (p ++ [x]) r e2 | .ct => R (p ++ [x]) r e2 | .bk => Q .nx e2 | fl => Q fl e2)
    (fin : ∀ e, R l [] e → Q .nx e) : Wp (forGo tg b (l.map f) env) Q := for_ret turn l [] env start fin
/-- the items of a comprehension, one after the other; what holds between its turns -/
theorem comp_to {α : Type} {tg : Tg} {own : List Nat} {elt : Env → Option (PyData × Env)} {f : α → PyData} {R : List α → List α → List PyData → Env → Prop} {Q : List PyData → Env → Prop}
    (turn : ∀ p x r ys env, R p (x :: r) ys env → ∃ e0 e1, wipeE env own = some e0 ∧ putTg tg (f x) e0 = some e1 ∧ Wp (elt e1) fun y e3 => R (p ++ [x]) r (ys ++ [y]) e3) :
    ∀ (l p : List α) (ys : List PyData) (env : Env), R p l ys env → (∀ zs e, R (p ++ l) [] (ys ++ zs) e → (∃ e', wipeE e own = some e') ∧ Q zs e) →
      Wp (compGo tg own none elt (l.map f) env) Q
  | [], p, ys, env, h, fin => by
    obtain ⟨⟨e', h1⟩, h2⟩ := fin [] env (by simpa using h)
    rw [List.map_nil, compGo, h1]
    exact Wp_some.mpr h2
  | x :: l, p, ys, env, h, fin => by
    obtain ⟨e0, e1, h0, h1, y, e3, h4, h5⟩ := turn p x l ys env h
    rw [List.map_cons, compGo]
    simp only [h0, h1, h4, Option.bind_eq_bind, Option.bind_some, if_true]
    rw [Wp_bind]
    exact Wp_mono (comp_to (Q := fun ys' e => Q (y :: ys') e) turn l (p ++ [x]) (ys ++ [y]) e3 h5 (fun zs e hz => fin (y :: zs) e (by simpa using hz))) fun a e q => Wp_some.mpr q
/-- a comprehension over typed data that changes nothing -/
theorem comp_pure {α : Type} {i : Nat} {c : Option (Env → Option (Bool × Env))} {elt : Env → Option (PyData × Env)} {f : α → PyData} {l : List α} {env : Env} (q : α → Bool) (g : α → PyData) (hi : i < env.length) (hs : US (getS env i))
    (hc : ∀ x ∈ l, (match c with | none => some (true, setS env i (.shr (f x))) | some c => c (setS env i (.shr (f x)))) = some (q x, setS env i (.shr (f x))))
    (he : ∀ x ∈ l, q x = true → elt (setS env i (.shr (f x))) = some (g x, setS env i (.shr (f x)))) :
    ∃ e, compGo (.nm i) [i] c elt (l.map f) env = some ((l.filter q).map g, e) ∧ backE e env [i] = env := by
  have len : ∀ s, i < (setS env i s).length := fun s => by simpa [setS] using hi
  have get : ∀ s, getS (setS env i s) i = s := fun s => by simp [getS, setS, hi]
  have set : ∀ s t, setS (setS env i s) i t = setS env i t := fun s t => by simp [setS]
  have same : setS env i (getS env i) = env := by
    simp only [setS, getS]
    apply List.ext_getElem?
    intro j
    rw [List.getElem?_set]
    split
    · rename_i e; subst e; simp [hi]
    · rfl
  have w : ∀ e, e = env ∨ (∃ s, (s = .un ∨ ∃ d, s = .shr d) ∧ e = setS env i s) → wipeE e [i] = some (setS env i .un) := by
    intro e h
    rcases h with rfl | ⟨s, hs, rfl⟩
    · simp only [wipeE, Option.bind_eq_bind, Option.bind_some]
      rcases hs with ⟨d, h⟩ | h <;> rw [h]
    · simp only [wipeE, Option.bind_eq_bind, Option.bind_some, get, set]
      rcases hs with h | ⟨d, h⟩ <;> rw [h]
  have bk : ∀ e, e = env ∨ (∃ s, (s = .un ∨ ∃ d, s = .shr d) ∧ e = setS env i s) → backE e env [i] = env := by
    intro e h
    simp only [backE]
    rcases h with rfl | ⟨s, hs, rfl⟩
    · exact same
    · rw [set, same]
  suffices H : ∀ (l' : List α), (∀ x ∈ l', x ∈ l) → ∀ e, (e = env ∨ (∃ s, (s = .un ∨ ∃ d, s = .shr d) ∧ e = setS env i s)) → ∃ e', (e' = env ∨ (∃ s, (s = .un ∨ ∃ d, s = .shr d) ∧ e' = setS env i s)) ∧ compGo (.nm i) [i] c elt (l'.map f) e = some ((l'.filter q).map g, e') by
    obtain ⟨e', h1, h2⟩ := H l (fun _ h => h) env (.inl rfl)
    exact ⟨e', h2, bk e' h1⟩
  intro l'
  induction l' with
  | nil => intro _ e h; exact ⟨e, h, by rw [List.map_nil, compGo, w e h]; rfl⟩
  | cons x l' ih =>
    intro hl e h
    obtain ⟨e', h1, h2⟩ := ih (fun y hy => hl y (by simp [hy])) _ (.inr ⟨_, .inr ⟨f x, rfl⟩, rfl⟩)
    refine ⟨e', h1, ?_⟩
    rw [List.map_cons, compGo, w e h]
    simp only [Option.bind_eq_bind, Option.bind_some, putTg, len, get, set, freeS, decide_true, Bool.and_self, if_true]
    have hc := hc x (hl x (by simp))
    have he := he x (hl x (by simp))
    cases c with
    | none =>
      simp only [Option.some.injEq, Prod.mk.injEq, and_true] at hc
      have hq : q x = true := hc.symm
      simp only [if_true, he hq, Option.bind_some, h2, List.filter_cons, hq, List.map_cons]
    | some c =>
      simp only at hc
      simp only [hc, Option.bind_some]
      cases hq : q x with
      | false => simp only [Bool.false_eq_true, if_false, h2, List.filter_cons, hq]
      | true => simp only [if_true, he hq, Option.bind_some, h2, List.filter_cons, hq, List.map_cons]
theorem vev_comp {α : Type} {C : Calls} {i : Nat} {elt : E} {src : Src} {f : α → PyData} {l : List α} {env : Env} {Q : PyData → Env → Prop} (g : α → PyData) (hsrc : evSrc C src env = some (l.map f, env)) (hi : i < env.length) (hn : l.length ≤ lineN) (hs : US (getS env i))
    (he : ∀ x ∈ l, Wp (evE C elt (setS env i (.shr (f x)))) fun d e => d = g x ∧ e = setS env i (.shr (f x))) (fin : Q (.list (l.map g)) env) :
    Wp (evE C (.comp elt (.nm i) src .no [i]) env) Q := by
  obtain ⟨e, h1, h2⟩ := comp_pure (c := none) (elt := evE C elt) (f := f) (l := l) (fun _ => true) g hi hs (fun x hx => rfl) (fun x hx _ => by obtain ⟨d, e, h, rfl, rfl⟩ := he x hx; exact h)
  rw [List.filter_eq_self.mpr (fun _ _ => rfl)] at h1
  refine Wp_eq ?_ fin
  simp only [evE, hsrc, Option.bind_eq_bind, Option.bind_some, h1, List.length_map, hn, if_true, h2]
/-- over what changes the environment as it is read -/
theorem vev_comp1 {α : Type} {C : Calls} {i : Nat} {elt : E} {src : Src} {f : α → PyData} {l : List α} {env0 : Env} {Q : PyData → Env → Prop} (env : Env) (g : α → PyData) (hsrc : evSrc C src env0 = some (l.map f, env)) (hi : i < env.length) (hn : l.length ≤ lineN) (hs : US (getS env i))
    (he : ∀ x ∈ l, Wp (evE C elt (setS env i (.shr (f x)))) fun d e => d = g x ∧ e = setS env i (.shr (f x))) (fin : Q (.list (l.map g)) env) :
    Wp (evE C (.comp elt (.nm i) src .no [i]) env0) Q := by
  obtain ⟨e, h1, h2⟩ := comp_pure (c := none) (elt := evE C elt) (f := f) (l := l) (fun _ => true) g hi hs (fun x hx => rfl) (fun x hx _ => by obtain ⟨d, e, h, rfl, rfl⟩ := he x hx; exact h)
  rw [List.filter_eq_self.mpr (fun _ _ => rfl)] at h1
  refine Wp_eq ?_ fin
  simp only [evE, hsrc, Option.bind_eq_bind, Option.bind_some, h1, List.length_map, hn, if_true, h2]
theorem ev_compIf {α : Type} {C : Calls} {i : Nat} {elt c : E} {src : Src} {f : α → PyData} {l : List α} {env : Env} {Q : PyData → Env → Prop} (q : α → Bool) (g : α → PyData) (hsrc : evSrc C src env = some (l.map f, env)) (hi : i < env.length) (hn : l.length ≤ lineN) (hs : US (getS env i))
    (hc : ∀ x ∈ l, Wp (evE C c (setS env i (.shr (f x)))) fun d e => truD d = some (q x) ∧ e = setS env i (.shr (f x)))
    (he : ∀ x ∈ l, q x = true → Wp (evE C elt (setS env i (.shr (f x)))) fun d e => d = g x ∧ e = setS env i (.shr (f x))) (fin : Q (.list ((l.filter q).map g)) env) :
    Wp (evE C (.comp elt (.nm i) src (.so c) [i]) env) Q := by
  obtain ⟨e, h1, h2⟩ := comp_pure (c := some fun env => do
        let (x, env) ← evE C c env
        let k ← truD x
        some (k, env)) (elt := evE C elt) (f := f) (l := l) q g hi hs (fun x hx => by
          obtain ⟨d, e, h, h1, rfl⟩ := hc x hx
          simp only [h, Option.bind_eq_bind, Option.bind_some, h1]) (fun x hx hq => by obtain ⟨d, e, h, rfl, rfl⟩ := he x hx hq; exact h)
  refine Wp_eq ?_ fin
  simp only [Option.bind_eq_bind] at h1
  simp only [evE, hsrc, Option.bind_eq_bind, Option.bind_some, List.length_map, hn, if_true, h1, h2]
/-- the same for any target, by the environment of a turn -/
theorem comp_pureG {α : Type} {tg : Tg} {own : List Nat} {c : Option (Env → Option (Bool × Env))} {elt : Env → Option (PyData × Env)} {f : α → PyData} {l : List α} {env : Env} (q : α → Bool) (g : α → PyData) (st : α → Env) (w : Env)
    (h1 : wipeE env own = some w) (h2 : ∀ x, putTg tg (f x) w = some (st x)) (h3 : ∀ x, wipeE (st x) own = some w) (h4 : ∀ x, backE (st x) env own = env) (h5 : backE env env own = env)
    (hc : ∀ x ∈ l, (match c with | none => some (true, st x) | some c => c (st x)) = some (q x, st x))
    (he : ∀ x ∈ l, q x = true → elt (st x) = some (g x, st x)) :
    ∃ e, compGo tg own c elt (l.map f) env = some ((l.filter q).map g, e) ∧ backE e env own = env := by
  suffices H : ∀ (l' : List α), (∀ x ∈ l', x ∈ l) → ∀ e, (e = env ∨ ∃ x, e = st x) → ∃ e', (e' = env ∨ ∃ x, e' = st x) ∧ compGo tg own c elt (l'.map f) e = some ((l'.filter q).map g, e') by
    obtain ⟨e', h6, h7⟩ := H l (fun _ h => h) env (.inl rfl)
    refine ⟨e', h7, ?_⟩
    rcases h6 with rfl | ⟨x, rfl⟩
    · exact h5
    · exact h4 x
  have W : ∀ e, (e = env ∨ ∃ x, e = st x) → wipeE e own = some w := by
    rintro e (rfl | ⟨x, rfl⟩)
    · exact h1
    · exact h3 x
  intro l'
  induction l' with
  | nil => intro _ e h; exact ⟨e, h, by rw [List.map_nil, compGo, W e h]; rfl⟩
  | cons x l' ih =>
    intro hl e h
    obtain ⟨e', h6, h7⟩ := ih (fun y hy => hl y (by simp [hy])) _ (.inr ⟨x, rfl⟩)
    refine ⟨e', h6, ?_⟩
    rw [List.map_cons, compGo, W e h]
    simp only [Option.bind_eq_bind, Option.bind_some, h2]
    have hc := hc x (hl x (by simp))
    have he := he x (hl x (by simp))
    cases c with
    | none =>
      simp only [Option.some.injEq, Prod.mk.injEq, and_true] at hc
      have hq : q x = true := hc.symm
      simp only [if_true, he hq, Option.bind_some, h7, List.filter_cons, hq, List.map_cons]
    | some c =>
      simp only at hc
      simp only [hc, Option.bind_some]
      cases hq : q x with
      | false => simp only [Bool.false_eq_true, if_false, h7, List.filter_cons, hq]
      | true => simp only [if_true, he hq, Option.bind_some, h7, List.filter_cons, hq, List.map_cons]
theorem ev_compG {α : Type} {C : Calls} {tg : Tg} {own : List Nat} {elt : E} {src : Src} {f : α → PyData} {l : List α} {env : Env} {Q : PyData → Env → Prop} (g : α → PyData) (st : α → Env) (w : Env) (hsrc : evSrc C src env = some (l.map f, env)) (hn : l.length ≤ lineN)
    (h1 : wipeE env own = some w) (h2 : ∀ x, putTg tg (f x) w = some (st x)) (h3 : ∀ x, wipeE (st x) own = some w) (h4 : ∀ x, backE (st x) env own = env) (h5 : backE env env own = env)
    (he : ∀ x ∈ l, Wp (evE C elt (st x)) fun d e => d = g x ∧ e = st x) (fin : Q (.list (l.map g)) env) :
    Wp (evE C (.comp elt tg src .no own) env) Q := by
  obtain ⟨e, h6, h7⟩ := comp_pureG (c := none) (elt := evE C elt) (f := f) (l := l) (fun _ => true) g st w h1 h2 h3 h4 h5 (fun x hx => rfl) (fun x hx _ => by obtain ⟨d, e, h, rfl, rfl⟩ := he x hx; exact h)
  rw [List.filter_eq_self.mpr (fun _ _ => rfl)] at h6
  refine Wp_eq ?_ fin
  simp only [evE, hsrc, Option.bind_eq_bind, Option.bind_some, h6, List.length_map, hn, if_true, h7]
theorem enumD_map {α : Type} (f : α → PyData) (l : List α) : enumD (l.map f) = l.zipIdx.map fun p => .tuple [.int p.2, f p.1] := by
  unfold enumD
  suffices H : ∀ (l : List α) (k : Nat), (List.range' k (l.map f).length).zipWith (fun (k : Nat) x => PyData.tuple [.int k, x]) (l.map f) = (l.zipIdx k).map fun p => .tuple [.int p.2, f p.1] by
    have := H l 0
    rw [← List.range_eq_range'] at this
    exact this
  intro l
  induction l with
  | nil => intro k; rfl
  | cons x l ih =>
    intro k
    have := ih (k + 1)
    simp only [List.map_cons, List.length_cons, List.range'_succ, List.zipWith_cons_cons, List.zipIdx_cons, this]
theorem zipD_map {α β : Type} (f : α → PyData) (g : β → PyData) (l : List α) (m : List β) : zipD (l.map f) (m.map g) = (l.zip m).map fun p => .tuple [f p.1, g p.2] := by
  unfold zipD
  induction l generalizing m with
  | nil => rfl
  | cons x l ih => cases m with
    | nil => rfl
    | cons y m => simp only [List.map_cons, List.zipWith_cons_cons, List.zip_cons_cons, ih m]
theorem rangeD_nat (n : Nat) (h : n ≤ 1000000) : rangeD 0 (n : Int) = some ((List.range n).map fun k => .int (k : Int)) := by
  unfold rangeD
  rw [if_pos (by omega)]
  simp
/-- a comprehension whose turns change what stands about it -/
theorem ev_compS {α : Type} {C : Calls} {tg : Tg} {own : List Nat} {elt : E} {src : Src} {f : α → PyData} {l : List α} {env env1 : Env} {Q : PyData → Env → Prop} (R : List α → List α → List PyData → Env → Prop) (hsrc : evSrc C src env = some (l.map f, env1)) (hn : l.length ≤ lineN)
    (start : R [] l [] env1)
    (turn : ∀ p x r ys env, R p (x :: r) ys env → ∃ e0 e1, wipeE env own = some e0 ∧ putTg tg (f x) e0 = some e1 ∧ Wp (evE C elt e1) fun y e3 => R (p ++ [x]) r (ys ++ [y]) e3)
    (fin : ∀ zs e, R l [] zs e → (∃ e', wipeE e own = some e') ∧ Q (.list zs) (backE e env1 own)) : Wp (evE C (.comp elt tg src .no own) env) Q := by
  simp only [evE, hsrc, Option.bind_eq_bind, Option.bind_some]
  rw [Wp_bind]
  refine Wp_mono (comp_to (f := f) (R := R) (Q := fun zs e => Q (.list zs) (backE e env1 own)) turn l [] [] env1 start fun zs e h => ?_) fun zs e q => ?_
  · rw [List.nil_append] at h; exact fin zs e (by simpa using h)
  · simp only [List.length_map, hn, if_true]
    exact Wp_some.mpr q
theorem cut_map {α : Type} (f : α → PyData) (l : List α) (lo hi : Option Int) : ∃ m : List α, cutD (l.map f) lo hi = m.map f ∧ m.length ≤ l.length := by
  refine ⟨(l.drop (sIx l.length 0 lo)).take (sIx l.length l.length hi - sIx l.length 0 lo), ?_, ?_⟩
  · simp only [cutD, List.length_map, List.map_drop, List.map_take]
  · simp only [List.length_take, List.length_drop]; omega
end VL.VE

set_option Elab.async false
set_option linter.all false
set_option maxRecDepth 100000
/-! VY: rows for the evaluation of the language by simp. -/
namespace VL.VE
open PySem Enc
def varE (s : Slot) (i : Nat) (env : Env) : Option (PyData × Env) := match s with
  | .shr d => some (d, env)
  | .own o => o.data.map fun d => (d, setS env i (.shr d))
  | _ => none
theorem varE_shr {d : PyData} {i : Nat} {env : Env} : varE (.shr d) i env = some (d, env) := rfl
theorem varE_lst {l : List PyData} {i : Nat} {env : Env} : varE (.own (.lst l)) i env = some (.list l, setS env i (.shr (.list l))) := rfl
section
variable {C : Calls} {env : Env}
theorem ev_var {i : Nat} : evE C (.var i) env = varE (getS env i) i env := by
  simp only [evE, varE] <;> cases getS env i <;> rfl
def opvV (s : Slot) (i : Nat) (r : Option (PyData × Env)) (env : Env) : Option (Opv × Env) := match s with
  | .own _ => some (.sl i, env)
  | .io _ => some (.sl i, env)
  | _ => r.map fun p => (.st p.1, p.2)
theorem opv_var {i : Nat} {r : Env → Option (PyData × Env)} : opv (.var i) r env = opvV (getS env i) i (r env) env := by
  simp only [opv, opvV] <;> cases getS env i <;> rfl
theorem opvV_shr {d : PyData} {i : Nat} {r : Option (PyData × Env)} : opvV (.shr d) i r env = r.map fun p => (.st p.1, p.2) := rfl
theorem opvV_own {o : OV} {i : Nat} {r : Option (PyData × Env)} : opvV (.own o) i r env = some (.sl i, env) := rfl
theorem opvV_io {o : OV} {i : Nat} {r : Option (PyData × Env)} : opvV (.io o) i r env = some (.sl i, env) := rfl
def resS : Slot → Option PyData
  | .own o => o.data
  | .io o => o.data
  | _ => none
theorem res_st {d : PyData} : resolve env (.st d) = some d := rfl
theorem res_sl {i : Nat} : resolve env (.sl i) = resS (getS env i) := by
  simp only [resolve, resS] <;> cases getS env i <;> rfl
theorem resS_own {l : List PyData} : resS (.own (.lst l)) = some (.list l) := rfl
theorem resS_io {l : List PyData} : resS (.io (.lst l)) = some (.list l) := rfl
theorem putTg_nm {i : Nat} {d : PyData} : putTg (.nm i) d env = if decide (i < env.length) && freeS (getS env i) then some (setS env i (.shr d)) else none := rfl
theorem putTg_tp {l : List Tg} {ds : List PyData} : putTg (.tp l) (.tuple ds) env = putTgs l ds env := rfl
def flE (s : Slot) (i : Nat) (f : Str) (d : PyData) (env : Env) : Option Env := match s with
  | .own (.obj c fs) => if fs.length < 100 then some (setS env i (.own (.obj c (putFl f (.d d) fs)))) else none
  | .io (.obj c fs) => if fs.length < 100 then some (setS env i (.io (.obj c (putFl f (.d d) fs)))) else none
  | _ => none
theorem putTg_fl {i : Nat} {f : Str} {d : PyData} : putTg (.fl i f) d env = flE (getS env i) i f d env := by
  simp only [putTg, putO]
  cases getS env i with
  | own o => cases o <;> simp [fldsOf, flE]
  | io o => cases o <;> simp [fldsOf, flE]
  | _ => simp [fldsOf, flE]
theorem flE_own {i : Nat} {f : Str} {d : PyData} {c : Str} {fs : List (Str × Fld)} : flE (.own (.obj c fs)) i f d env = if fs.length < 100 then some (setS env i (.own (.obj c (putFl f (.d d) fs)))) else none := rfl
theorem flE_io {i : Nat} {f : Str} {d : PyData} {c : Str} {fs : List (Str × Fld)} : flE (.io (.obj c fs)) i f d env = if fs.length < 100 then some (setS env i (.io (.obj c (putFl f (.d d) fs)))) else none := rfl
theorem fldsOf_own {c : Str} {fs : List (Str × Fld)} : fldsOf (.own (.obj c fs)) = some (c, fs) := rfl
theorem fldsOf_io {c : Str} {fs : List (Str × Fld)} : fldsOf (.io (.obj c fs)) = some (c, fs) := rfl
theorem lstOf_own {l : List PyData} : lstOf (.own (.lst l)) = some l := rfl
theorem lstOf_io {l : List PyData} : lstOf (.io (.lst l)) = some l := rfl
def putOS (s : Slot) (i : Nat) (o : OV) (env : Env) : Env := match s with
  | .own _ => setS env i (.own o)
  | .io _ => setS env i (.io o)
  | _ => env
theorem putO_eq {i : Nat} {o : OV} : putO env i o = putOS (getS env i) i o env := by
  simp only [putO, putOS] <;> cases getS env i <;> rfl
theorem putOS_own {i : Nat} {o p : OV} : putOS (.own p) i o env = setS env i (.own o) := rfl
theorem putOS_io {i : Nat} {o p : OV} : putOS (.io p) i o env = setS env i (.io o) := rfl
theorem holdsB_own {o : OV} : holdsB (.own o) = true := rfl
theorem holdsB_io {o : OV} : holdsB (.io o) = true := rfl
def arS (s : Slot) (l : List AV) : Option (List AV) := match s with
  | .own o => some (.io o :: l)
  | .io o => some (.io o :: l)
  | _ => none
theorem argsAt_nil : argsAt env [] = some [] := rfl
theorem argsAt_sh {d : PyData} {r : List Arg} : argsAt env (.sh d :: r) = (argsAt env r).map (.sh d :: ·) := rfl
theorem argsAt_scr {d : List Int} {r : List Arg} : argsAt env (.scr d :: r) = (argsAt env r).map (.scr d :: ·) := rfl
theorem argsAt_io {i : Nat} {r : List Arg} : argsAt env (.io i :: r) = (argsAt env r).bind fun l => arS (getS env i) l := by
  simp only [argsAt]
  cases argsAt env r with
  | none => rfl
  | some l => simp only [Option.bind_some] <;> cases getS env i <;> rfl
theorem arS_own {o : OV} {l : List AV} : arS (.own o) l = some (.io o :: l) := rfl
theorem arS_io {o : OV} {l : List AV} : arS (.io o) l = some (.io o :: l) := rfl
def shS (s : Slot) (l : List PyData) : Option (List PyData) := match s with
  | .shr d => some (d :: l)
  | _ => none
theorem shrs_nil : shrs env [] = some [] := rfl
theorem shrs_cons {i : Nat} {r : List Nat} : shrs env (i :: r) = (shrs env r).bind fun l => shS (getS env i) l := by
  simp only [shrs]
  cases getS env i with
  | shr d => simp only [shS] <;> cases shrs env r <;> rfl
  | _ => simp only [shS] <;> cases shrs env r <;> rfl
theorem shS_shr {d : PyData} {l : List PyData} : shS (.shr d) l = some (d :: l) := rfl
def ioS (s : Slot) (l : List OV) : Option (List OV) := match s with
  | .io o => some (o :: l)
  | _ => none
theorem iosOf_nil {i : Nat} : iosOf env [] i = some [] := rfl
theorem iosOf_sh {r : List PK} {i : Nat} : iosOf env (.sh :: r) i = iosOf env r (i + 1) := rfl
theorem iosOf_scr {r : List PK} {i : Nat} : iosOf env (.scr :: r) i = iosOf env r (i + 1) := rfl
theorem iosOf_io {r : List PK} {i : Nat} : iosOf env (.io :: r) i = (iosOf env r (i + 1)).bind fun l => ioS (getS env i) l := by
  simp only [iosOf]
  cases getS env i with
  | io o => simp only [ioS]; cases iosOf env r (i + 1) <;> rfl
  | _ => simp only [ioS]; cases iosOf env r (i + 1) <;> rfl
theorem ioS_io {o : OV} {l : List OV} : ioS (.io o) l = some (o :: l) := rfl
/-- a call of a method -/
def metS (C : Calls) (s : Slot) (i : Nat) (c m : Str) (as : Option (List Arg × Env)) : Option (PyData × Env) := match fldsOf s with
  | some (c', fs) => if c' = c ∧ fs.lookup m = none then as.bind fun p => callAt C (c ++ "." ++ m) (.io i :: p.1) p.2 else none
  | none => none
theorem vev_meth {C : Calls} {i : Nat} {c m : Str} {as : As} : evE C (.meth i c m as) env = metS C (getS env i) i c m (evAs C as env) := by
  simp only [evE, metS] <;> cases fldsOf (getS env i) <;> rfl
theorem metS_own {C : Calls} {i : Nat} {c m : Str} {fs : List (Str × Fld)} {as : Option (List Arg × Env)} (h : fs.lookup m = none) : metS C (.own (.obj c fs)) i c m as = as.bind fun p => callAt C (c ++ "." ++ m) (.io i :: p.1) p.2 := by
  simp only [metS, fldsOf, h, and_self, if_true]
theorem metS_io {C : Calls} {i : Nat} {c m : Str} {fs : List (Str × Fld)} {as : Option (List Arg × Env)} (h : fs.lookup m = none) : metS C (.io (.obj c fs)) i c m as = as.bind fun p => callAt C (c ++ "." ++ m) (.io i :: p.1) p.2 := by
  simp only [metS, fldsOf, h, and_self, if_true]
def fdv (o : Option Fld) (env : Env) : Option (PyData × Env) := match o with
  | some (.d x) => some (x, env)
  | _ => none
theorem fdv_d {x : PyData} : fdv (some (.d x)) env = some (x, env) := rfl
def fldS (s : Slot) (f : Str) (env : Env) : Option (PyData × Env) := match fldsOf s with
  | some (_, fs) => fdv (fs.lookup f) env
  | none => none
theorem ev_fld {C : Calls} {i : Nat} {f : Str} : evE C (.fld i f) env = fldS (getS env i) f env := by
  simp only [evE, fldS, fdv] <;> rfl
theorem fldS_own {c f : Str} {fs : List (Str × Fld)} : fldS (.own (.obj c fs)) f env = fdv (fs.lookup f) env := rfl
theorem fldS_io {c f : Str} {fs : List (Str × Fld)} : fldS (.io (.obj c fs)) f env = fdv (fs.lookup f) env := rfl
def flv (o : Option Fld) (env : Env) : Option (PyData × Env) := match o with
  | some (.l x) => some (.list x, env)
  | _ => none
theorem flv_l {x : List PyData} : flv (some (.l x)) env = some (.list x, env) := rfl
def lfldS (s : Slot) (f : Str) (env : Env) : Option (PyData × Env) := match fldsOf s with
  | some (_, fs) => flv (fs.lookup f) env
  | none => none
theorem ev_lfld {C : Calls} {i : Nat} {f : Str} : evE C (.lfld i f) env = lfldS (getS env i) f env := by
  simp only [evE, lfldS, flv] <;> rfl
theorem lfldS_own {c f : Str} {fs : List (Str × Fld)} : lfldS (.own (.obj c fs)) f env = flv (fs.lookup f) env := rfl
theorem lfldS_io {c f : Str} {fs : List (Str × Fld)} : lfldS (.io (.obj c fs)) f env = flv (fs.lookup f) env := rfl
def scutS (s : Slot) (r : Option (Option Int × Env)) (g : Env → Option (Option Int × Env)) : Option (PyData × Env) := match s with
  | .scr ns => r.bind fun l => (g l.2).bind fun h => some (.list (cutD (ns.map .int) l.1 h.1), h.2)
  | _ => none
theorem vev_scut {C : Calls} {i : Nat} {lo hi : Eo} : evE C (.scut i lo hi) env = scutS (getS env i) (evEo C lo env) (evEo C hi) := by
  simp only [evE, scutS] <;> cases getS env i <;> rfl
theorem scutS_scr {ns : List Int} {r : Option (Option Int × Env)} {g : Env → Option (Option Int × Env)} : scutS (.scr ns) r g = r.bind fun l => (g l.2).bind fun h => some (.list (cutD (ns.map .int) l.1 h.1), h.2) := rfl
def asS (C : Calls) (s : Slot) (r : Option (List Arg × Env)) : Option (List Arg × Env) := match s with
  | .scr ns => r.bind fun l => some (.scr ns :: l.1, l.2)
  | _ => none
theorem evAs_scr {C : Calls} {i : Nat} {r : As} : evAs C (.scr i r) env = asS C (getS env i) (evAs C r env) := by
  simp only [evAs, asS] <;> cases getS env i <;> rfl
theorem asS_scr {C : Calls} {ns : List Int} {r : Option (List Arg × Env)} : asS C (.scr ns) r = r.bind fun l => some (.scr ns :: l.1, l.2) := rfl
def retVS (s : Slot) (env : Env) : Option (Fl × Env) := match s with
  | .own (.lst l) => some (.ro (.list l), env)
  | _ => none
theorem xS_retV {C : Calls} {N i : Nat} : xS C N (.retV i) env = retVS (getS env i) env := by
  simp only [xS, retVS] <;> rfl
theorem retVS_own {l : List PyData} : retVS (.own (.lst l)) env = some (.ro (.list l), env) := rfl
def retSS (s : Slot) (i : Nat) (env : Env) : Option (Fl × Env) := match s with
  | .io _ => some (.rs i, env)
  | _ => none
theorem xS_retSelf {C : Calls} {N i : Nat} : xS C N (.retSelf i) env = retSS (getS env i) i env := by
  simp only [xS, retSS] <;> cases getS env i <;> rfl
theorem retSS_io {i : Nat} {o : OV} : retSS (.io o) i env = some (.rs i, env) := rfl
def insS (k d : PyData) (s : Slot) (i : Nat) (env : Env) : Option (Fl × Env) := match lstOf s, k with
  | some l, .int k => if 0 ≤ k ∧ k < 4611686018427387904 ∧ l.length < lineN then some (.nx, putO env i (.lst (insD l k.toNat d))) else none
  | _, _ => none
theorem xS_ins {C : Calls} {N i : Nat} {a e : E} : xS C N (.ins i a e) env = (lstOf (getS env i)).bind fun _ => (evE C a env).bind fun p => (evE C e p.2).bind fun q => insS p.1 q.1 (getS q.2 i) i q.2 := by
  simp only [xS, insS, Option.bind_eq_bind]
  cases lstOf (getS env i) with
  | none => rfl
  | some _ =>
    simp only [Option.bind_some]
    cases evE C a env with
    | none => rfl
    | some p =>
      simp only [Option.bind_some]
      cases evE C e p.2 with
      | none => rfl
      | some q =>
        simp only [Option.bind_some]
        cases lstOf (getS q.2 i) with
        | none => rfl
        | some l =>
          simp only [Option.bind_some]
          cases p.1 <;> rfl
theorem insS_ok {k : Nat} {d : PyData} {l : List PyData} {i : Nat} {s : Slot} (hs : lstOf s = some l) (h : k ≤ 1000) (h2 : l.length ≤ 1000) : insS (.int k) d s i env = some (.nx, putO env i (.lst (insD l k d))) := by
  simp only [insS, hs]
  rw [if_pos ⟨by omega, by omega, by simp only [lineN]; omega⟩]
  rfl
theorem insS_own {k : Nat} {d : PyData} {l : List PyData} {i : Nat} {env : Env} (h : k ≤ 1000) (h2 : l.length ≤ 1000) : insS (.int k) d (.own (.lst l)) i env = some (.nx, putO env i (.lst (insD l k d))) := insS_ok rfl h h2
def ownV (d : PyData) (env : Env) : Option (PV × Env) := match d with
  | .list l => some (.o (.lst l), env)
  | _ => none
theorem evP_o {C : Calls} {e : E} : evP C (.o e) env = (evE C e env).bind fun p => ownV p.1 p.2 := by
  simp only [evP, ownV, Option.bind_eq_bind] <;> rfl
theorem ownV_list {l : List PyData} : ownV (.list l) env = some (.o (.lst l), env) := rfl
theorem ownV_encL {α : Type} [Enc α] {l : List α} : ownV (encL l) env = some (.o (.lst (l.map enc)), env) := rfl
def retOV (d : PyData) (env : Env) : Option (Fl × Env) := match d with
  | .list _ => some (.ro d, env)
  | _ => none
theorem xS_retO {C : Calls} {N : Nat} {e : E} : xS C N (.retO e) env = (evE C e env).bind fun p => retOV p.1 p.2 := by
  simp only [xS, retOV, Option.bind_eq_bind] <;> rfl
theorem retOV_list {l : List PyData} : retOV (.list l) env = some (.ro (.list l), env) := rfl
theorem retOV_encL {α : Type} [Enc α] {l : List α} : retOV (encL l) env = some (.ro (encL l), env) := rfl
def extS (d : PyData) (s : Slot) (i : Nat) (env : Env) : Option (Fl × Env) := match lstOf s, d with
  | some l, .list ds => if l.length + ds.length ≤ lineN then some (.nx, putO env i (.lst (l ++ ds))) else none
  | _, _ => none
theorem xS_ext {C : Calls} {N i : Nat} {e : E} : xS C N (.ext i e) env = (lstOf (getS env i)).bind fun _ => (evE C e env).bind fun p => extS p.1 (getS p.2 i) i p.2 := by
  simp only [xS, extS, Option.bind_eq_bind]
  cases lstOf (getS env i) with
  | none => rfl
  | some _ =>
    simp only [Option.bind_some]
    cases evE C e env with
    | none => rfl
    | some p =>
      simp only [Option.bind_some]
      cases lstOf (getS p.2 i) with
      | none => rfl
      | some l =>
        simp only [Option.bind_some]
        cases p.1 <;> rfl
theorem extS_own {l ds : List PyData} {i : Nat} : extS (.list ds) (.own (.lst l)) i env = if l.length + ds.length ≤ lineN then some (.nx, putO env i (.lst (l ++ ds))) else none := rfl
theorem extS_ownL {α : Type} [Enc α] {l : List PyData} {ds : List α} {i : Nat} : extS (encL ds) (.own (.lst l)) i env = if l.length + ds.length ≤ lineN then some (.nx, putO env i (.lst (l ++ ds.map enc))) else none := by
  show (if l.length + (ds.map (enc (α := α))).length ≤ lineN then _ else none) = _
  rw [List.length_map]
theorem nodupB_nil : nodupB [] = true := rfl
theorem nodupB_one {i : Nat} : nodupB [i] = true := rfl
theorem putTgs_nil : putTgs [] [] env = some env := rfl
theorem putTgs_cons {t : Tg} {ts : List Tg} {d : PyData} {ds : List PyData} : putTgs (t :: ts) (d :: ds) env = (putTg t d env).bind fun env => putTgs ts ds env := rfl
end
section
variable {α β : Type} [Enc α] [Enc β]
theorem seqD_enc (l : List α) : seqD (enc l) = some (l.map enc) := rfl
theorem seqD_encL (l : List α) : seqD (encL l) = some (l.map enc) := rfl
theorem putTg_pair {l : List Tg} {p : α × β} {env : Env} : putTg (.tp l) (enc p) env = putTgs l [enc p.1, enc p.2] env := rfl
theorem idx_pair0 (p : α × β) : idxD (enc p) (.int 0) = some (enc p.1) := by
  show idxD (.tuple _) _ = _
  simp [idxD, atD]
theorem idx_pair1 (p : α × β) : idxD (enc p) (.int 1) = some (enc p.2) := by
  show idxD (.tuple _) _ = _
  simp [idxD, atD]
theorem idx_enc (l : List α) (i : Nat) : idxD (enc l) (.int i) = l[i]?.map enc := by
  show atD (l.map enc) _ = _
  rw [atD_nat, List.getElem?_map]
theorem idx_encL (l : List α) (i : Nat) : idxD (encL l) (.int i) = l[i]?.map enc := by
  show atD (l.map enc) _ = _
  rw [atD_nat, List.getElem?_map]
theorem idx_enc0 (l : List α) : idxD (enc l) (.int 0) = l[0]?.map enc := idx_enc l 0
theorem idx_encL0 (l : List α) : idxD (encL l) (.int 0) = l[0]?.map enc := idx_encL l 0
theorem idx_encL1 (l : List α) : idxD (encL l) (.int (-1)) = l.getLast?.map enc := by
  show atD (l.map enc) _ = _
  rw [atD_last, List.getLast?_map]
theorem idx_enc1 (l : List α) : idxD (enc l) (.int (-1)) = l.getLast?.map enc := by
  show atD (l.map enc) _ = _
  rw [atD_last, List.getLast?_map]
theorem slc_to (l : List α) (k : Nat) : slcD (enc l) none (some (k : Int)) = some (enc (l.take k)) := by
  show some (PyData.tuple (cutD (l.map enc) _ _)) = _
  rw [cut_to, ← List.map_take]; rfl
theorem slc_from (l : List α) (k : Nat) : slcD (enc l) (some (k : Int)) none = some (enc (l.drop k)) := by
  show some (PyData.tuple (cutD (l.map enc) _ _)) = _
  rw [cut_from, ← List.map_drop]; rfl
theorem slc_toL (l : List α) (k : Nat) : slcD (encL l) none (some (k : Int)) = some (encL (l.take k)) := by
  show some (PyData.list (cutD (l.map enc) _ _)) = _
  rw [cut_to, ← List.map_take]; rfl
theorem slc_fromL (l : List α) (k : Nat) : slcD (encL l) (some (k : Int)) none = some (encL (l.drop k)) := by
  show some (PyData.list (cutD (l.map enc) _ _)) = _
  rw [cut_from, ← List.map_drop]; rfl
theorem slc_from1L (l : List α) : slcD (encL l) (some 1) none = some (encL (l.drop 1)) := slc_fromL l 1
theorem slc_from1 (l : List α) : slcD (enc l) (some 1) none = some (enc (l.drop 1)) := slc_from l 1
theorem slc_to1 (l : List α) : slcD (enc l) none (some 1) = some (enc (l.take 1)) := slc_to l 1
theorem rev_enc (l : List α) : revD (enc l) = some (enc l.reverse) := by
  show some (PyData.tuple _) = _
  rw [← List.map_reverse]; rfl
theorem rev_encL (l : List α) : revD (encL l) = some (encL l.reverse) := by
  show some (PyData.list _) = _
  rw [← List.map_reverse]; rfl
theorem len_enc (l : List α) : biD .len [enc l] = some (.int l.length) := by
  simp only [biD, seqD_enc, Option.map_some, List.length_map]
theorem len_encL (l : List α) : biD .len [encL l] = some (.int l.length) := by
  simp only [biD, seqD_encL, Option.map_some, List.length_map]
theorem len_list (l : List PyData) : biD .len [.list l] = some (.int l.length) := rfl
theorem len_tuple (l : List PyData) : biD .len [.tuple l] = some (.int l.length) := rfl
theorem list_enc (l : List α) : biD .list [enc l] = some (encL l) := rfl
theorem list_encL (l : List α) : biD .list [encL l] = some (encL l) := rfl
theorem tuple_enc (l : List α) : biD .tuple [enc l] = some (enc l) := rfl
theorem tuple_encL (l : List α) : biD .tuple [encL l] = some (enc l) := rfl
theorem bi_tuple (l : List PyData) : biD .tuple [.list l] = some (.tuple l) := rfl
theorem bi_list_l (l : List PyData) : biD .list [.list l] = some (.list l) := rfl
theorem bi_list_t (l : List PyData) : biD .list [.tuple l] = some (.list l) := rfl
theorem bi_tuple_t (l : List PyData) : biD .tuple [.tuple l] = some (.tuple l) := rfl
theorem bi_int (i : Int) : biD .int [.int i] = some (.int i) := rfl
theorem bi_intb (b : Bool) : biD .int [.bool b] = some (.int (if b then 1 else 0)) := rfl
theorem boolsD_map {γ : Type} (p : γ → Bool) : ∀ l : List γ, boolsD (l.map fun x => .bool (p x)) = some (l.map p)
  | [] => rfl
  | x :: l => by simp [boolsD, boolsD_map p l]
theorem all_map {γ : Type} (p : γ → Bool) (l : List γ) : biD .all [.list (l.map fun x => .bool (p x))] = some (.bool (l.all p)) := by
  simp [biD, boolsD_map]
theorem any_map {γ : Type} (p : γ → Bool) (l : List γ) : biD .any [.list (l.map fun x => .bool (p x))] = some (.bool (l.any p)) := by
  simp [biD, boolsD_map]
def strB (b : Bool) : Str := if b then "True" else "False"
theorem repr_bool (b : Bool) : biD .repr [.bool b] = some (.str (strB b)) := rfl
theorem spl_t (l : List α) : splD true (enc l) = some (l.map enc) := rfl
theorem spl_l (l : List α) : splD true (encL l) = some (l.map enc) := rfl
theorem spl_f (d : PyData) : splD false d = some [d] := rfl
theorem tup_enc (l : List α) : PyData.tuple (l.map enc) = enc l := rfl
theorem lst_enc (l : List α) : PyData.list (l.map enc) = encL l := rfl
end
section
variable {a b c d e : PyData} {l : List PyData}
theorem idx_t0 : idxD (.tuple (a :: l)) (.int 0) = some a := by simp [idxD, atD]
theorem idx_t1 : idxD (.tuple (a :: b :: l)) (.int 1) = some b := by simp [idxD, atD]; omega
theorem idx_t2 : idxD (.tuple (a :: b :: c :: l)) (.int 2) = some c := by simp [idxD, atD]; omega
theorem idx_l0 : idxD (.list (a :: l)) (.int 0) = some a := by simp [idxD, atD]
theorem idx_l1 : idxD (.list (a :: b :: l)) (.int 1) = some b := by simp [idxD, atD]; omega
theorem idx_l2 : idxD (.list (a :: b :: c :: l)) (.int 2) = some c := by simp [idxD, atD]; omega
theorem idx_ln {i : Nat} : idxD (.list l) (.int i) = l[i]? := atD_nat l i
theorem idx_tn {i : Nat} : idxD (.tuple l) (.int i) = l[i]? := atD_nat l i
theorem seqD_l : seqD (.list l) = some l := rfl
theorem seqD_t : seqD (.tuple l) = some l := rfl
theorem spl_tt : splD true (.tuple l) = some l := rfl
theorem tru_b {b : Bool} : truD (.bool b) = some b := rfl
theorem tru_i {b : Int} : truD (.int b) = some (b != 0) := rfl
theorem tru_n : truD .none = some false := rfl
variable {i j : Int} {m n : Nat} {x y : Bool}
theorem op_cmp {o : CmpOp} : op2D (.cmp o) a b = (cmpD o a b).map .bool := rfl
theorem op_bin {o : Operator} : op2D (.bin o) a b = binD o a b := rfl
theorem vcmp_eq : cmpD .Eq a b = eqD a b := rfl
theorem vcmp_ne : cmpD .NotEq a b = (eqD a b).map not := rfl
theorem cmp_lt : cmpD .Lt (.int i) (.int j) = some (decide (i < j)) := rfl
theorem cmp_le : cmpD .LtE (.int i) (.int j) = some (decide (i ≤ j)) := rfl
theorem cmp_gt : cmpD .Gt (.int i) (.int j) = some (decide (j < i)) := rfl
theorem cmp_ge : cmpD .GtE (.int i) (.int j) = some (decide (j ≤ i)) := rfl
theorem vcmp_is : cmpD .Is a b = isD a b := rfl
theorem vcmp_isnot : cmpD .IsNot a b = (isD a b).map not := rfl
theorem vcmp_in : cmpD .In a b = inD a b := rfl
theorem vcmp_notin : cmpD .NotIn a b = (inD a b).map not := rfl
theorem is_bb : isD (.bool x) (.bool y) = some (x == y) := rfl
theorem is_none_int : isD (.int i) .none = some false := rfl
theorem is_none_tup : isD (.tuple l) .none = some false := rfl
theorem is_none_list : isD (.list l) .none = some false := rfl
theorem is_none_none : isD .none .none = some true := rfl
theorem eq_int : eqD (.int i) (.int j) = some (decide (i = j)) := eqD_enc i j
theorem eq_bool : eqD (.bool x) (.bool y) = some (decide (x = y)) := eqD_enc x y
theorem vbin_add : binD .Add (.int i) (.int j) = some (.int (i + j)) := rfl
theorem vbin_sub : binD .Sub (.int i) (.int j) = some (.int (i - j)) := rfl
theorem vbin_mod (h : 0 < j) : binD .Mod (.int i) (.int j) = some (.int (i % j)) := by simp [binD, h]
theorem vbin_fdiv (h : 0 < j ∧ j < 1073741824) : binD .FloorDiv (.int i) (.int j) = some (.int (i / j)) := by simp [binD, h]
theorem vbin_mul (h : i.natAbs < 2 ^ 64 ∨ j.natAbs < 2 ^ 64) : binD .Mult (.int i) (.int j) = some (.int (i * j)) := by simp only [binD, if_pos h]
theorem vbin_pow (h : 0 ≤ j ∧ j ≤ 1000000 ∧ i.natAbs < 2 ^ 64) : binD .Pow (.int i) (.int j) = some (.int (i ^ j.toNat)) := by simp only [binD, if_pos h]
theorem bin_mulC : binD .Mult (.int i) (.int j) = if i.natAbs < 2 ^ 64 ∨ j.natAbs < 2 ^ 64 then some (.int (i * j)) else none := rfl
theorem bin_powC : binD .Pow (.int i) (.int j) = if 0 ≤ j ∧ j ≤ 1000000 ∧ i.natAbs < 2 ^ 64 then some (.int (i ^ j.toNat)) else none := rfl
theorem bin_modC : binD .Mod (.int i) (.int j) = if 0 < j then some (.int (i % j)) else none := rfl
theorem bin_fdivC : binD .FloorDiv (.int i) (.int j) = if 0 < j ∧ j < 1073741824 then some (.int (i / j)) else none := rfl
theorem bin_addl {k : List PyData} : binD .Add (.list l) (.list k) = if l.length + k.length ≤ lineN then some (.list (l ++ k)) else none := rfl
theorem bin_addt {k : List PyData} : binD .Add (.tuple l) (.tuple k) = if l.length + k.length ≤ lineN then some (.tuple (l ++ k)) else none := rfl
theorem bind_ite {α β : Type} {c : Prop} [Decidable c] {x : α} {f : α → Option β} : (if c then some x else none).bind f = if c then f x else none := by split <;> rfl
theorem map_ite {α β : Type} {c : Prop} [Decidable c] {x : α} {f : α → β} : (if c then some x else none).map f = if c then some (f x) else none := by split <;> rfl
theorem set_t1 {α : Type} {a b c d : α} : [a, b, c].set (Int.toNat 1) d = [a, d, c] := rfl
theorem set_t2 {α : Type} {a b c d : α} : [a, b, c].set (Int.toNat 2) d = [a, b, d] := rfl
theorem eqD_strB {x y : Bool} : eqD (.str (strB x)) (.str (strB y)) = some (decide (x = y)) := by
  cases x <;> cases y <;> decide +kernel
theorem isin_int_int : isinD "int" (.int i) = some true := by simp [isinD]
theorem isin_bool_int : isinD "bool" (.int i) = some false := by
  have : ¬ ("bool" : Str) = "int" := by decide
  simp [isinD, this]
theorem isin_tuple_tuple : isinD "tuple" (.tuple l) = some true := by simp [isinD]
theorem isin_list_list : isinD "list" (.list l) = some true := by simp [isinD]
end
theorem bin_addE {α : Type} [Enc α] (l m : List α) : binD .Add (enc l) (enc m) = if l.length + m.length ≤ lineN then some (enc (l ++ m)) else none := by
  show (if (l.map (enc (α := α))).length + (m.map (enc (α := α))).length ≤ lineN then some (PyData.tuple (l.map enc ++ m.map enc)) else none) = _
  rw [List.length_map, List.length_map, ← List.map_append]; rfl
theorem bin_addEL {α : Type} [Enc α] (l m : List α) : binD .Add (encL l) (encL m) = if l.length + m.length ≤ lineN then some (encL (l ++ m)) else none := by
  show (if (l.map (enc (α := α))).length + (m.map (enc (α := α))).length ≤ lineN then some (PyData.list (l.map enc ++ m.map enc)) else none) = _
  rw [List.length_map, List.length_map, ← List.map_append]; rfl
theorem bin_addN1 (l : List Nat) (x : Nat) : binD .Add (enc l) (.tuple [.int x]) = if l.length + 1 ≤ lineN then some (enc (l ++ [x])) else none := bin_addE l [x]
theorem mul_l1 (d : PyData) : binD .Mult (.list [d]) (.int 1) = some (.list [d]) := by simp [binD]
theorem mul_l0 (d : PyData) : binD .Mult (.list [d]) (.int 0) = some (.list []) := by simp [binD]
theorem mul_t1 (d : PyData) : binD .Mult (.tuple [d]) (.int 1) = some (.tuple [d]) := by simp [binD]
theorem mul_t0 (d : PyData) : binD .Mult (.tuple [d]) (.int 0) = some (.tuple []) := by simp [binD]
theorem flat_rep {α : Type} (n : Nat) (x : α) : (List.replicate n [x]).flatten = List.replicate n x := by
  induction n with
  | zero => rfl
  | succ n ih => simp [List.replicate_succ, ih]
theorem mul_tn (x n : Nat) (h : n ≤ 1000) : binD .Mult (.tuple [.int x]) (.int n) = some (enc (List.replicate n x)) := by
  simp only [binD, List.length_cons, List.length_nil]
  rw [if_pos ⟨by omega, by decide⟩]
  simp [flat_rep, enc_tup, enc_nat]
theorem mul_ln (x n : Nat) (h : n ≤ 1000) : binD .Mult (.list [.int x]) (.int n) = some (encL (List.replicate n x)) := by
  simp only [binD, List.length_cons, List.length_nil]
  rw [if_pos ⟨by omega, by decide⟩]
  simp [flat_rep, encL, enc_nat]
theorem mul_tn0 (n : Nat) (h : n ≤ 1000) : binD .Mult (.tuple [.int 0]) (.int n) = some (enc (List.replicate n 0)) := mul_tn 0 n h
theorem mul_ln0 (n : Nat) (h : n ≤ 1000) : binD .Mult (.list [.int 0]) (.int n) = some (encL (List.replicate n 0)) := mul_ln 0 n h
theorem bin_addL1 (l : List Nat) (x : Nat) : binD .Add (encL l) (.list [.int x]) = if l.length + 1 ≤ lineN then some (encL (l ++ [x])) else none := bin_addEL l [x]
theorem bin_addL0 {α : Type} [Enc α] (l : List α) : binD .Add (encL l) (.list []) = if l.length + 0 ≤ lineN then some (encL l) else none := by
  have := bin_addEL l ([] : List α)
  rw [List.append_nil] at this
  exact this
theorem bin_addN0 {α : Type} [Enc α] (l : List α) : binD .Add (enc l) (.tuple []) = if l.length + 0 ≤ lineN then some (enc l) else none := by
  have := bin_addE l ([] : List α)
  rw [List.append_nil] at this
  exact this
theorem isin_enc {α : Type} [Enc α] (l : List α) : isinD "tuple" (enc l) = some true := isin_tuple_tuple
theorem isin_encL {α : Type} [Enc α] (l : List α) : isinD "list" (encL l) = some true := isin_list_list
theorem count_nat (x : Nat) (l : List Nat) : meD .count (enc l) (.int x) = some (.int (l.count x : Nat)) := count_enc x l
theorem count_natL (x : Nat) (l : List Nat) : meD .count (encL l) (.int x) = some (.int (l.count x : Nat)) := count_encL x l
theorem index_nat (x : Nat) (l : List Nat) (h : x ∈ l) : meD .index (enc l) (.int x) = some (.int (l.idxOf x : Nat)) := index_enc x l h
theorem index_natL (x : Nat) (l : List Nat) (h : x ∈ l) : meD .index (encL l) (.int x) = some (.int (l.idxOf x : Nat)) := index_encL x l h
theorem in_nat (x : Nat) (l : List Nat) : inD (.int x) (enc l) = some (decide (x ∈ l)) := inD_enc x l
theorem in_natL (x : Nat) (l : List Nat) : inD (.int x) (encL l) = some (decide (x ∈ l)) := inD_encL x l
theorem Int_nat_add (m n : Nat) : PyData.int ((m : Int) + n) = .int ((m + n : Nat) : Int) := rfl
theorem Int_nat_add1 (m : Nat) : PyData.int ((m : Int) + 1) = .int ((m + 1 : Nat) : Int) := rfl
theorem freeS_un : freeS .un = true := rfl
theorem freeS_shr {d : PyData} : freeS (.shr d) = true := rfl
theorem freeS_own {o : OV} : freeS (.own o) = true := rfl
theorem lineN_lt {n : Nat} (h : n ≤ 1000) : (n < lineN) = True := by
  simp only [lineN, eq_iff_iff, iff_true]; omega
theorem lineN_lt' {n : Nat} (h : n ≤ 1000) : n < lineN := by simp only [lineN]; omega
theorem cast_eq0 (m : Nat) : ((m : Int) = 0) ↔ m = 0 := by omega
theorem cast_eq1 (m : Nat) : ((m : Int) = 1) ↔ m = 1 := by omega
theorem cast_eq2 (m : Nat) : ((m : Int) = 2) ↔ m = 2 := by omega
theorem cast_eq3 (m : Nat) : ((m : Int) = 3) ↔ m = 3 := by omega
theorem toNat_succ (n k : Nat) : ((n + k : Nat) : Int) = (n : Int) + k := rfl
end VL.VE

set_option Elab.async false
set_option linter.all false
set_option maxRecDepth 100000
/-! the program's functions as VL terms (printed by pld.py) -/
namespace PL
open PySem VL
def b_is_whole_0 : VL.Ss := .cons (.ret (.and (.cons false (.isin "int" (.var 0)) (.cons false (.not (.isin "bool" (.var 0))) .nil)))) .nil
def D_is_whole : VL.Def := ⟨1, [.sh], b_is_whole_0, .val⟩
def b_is_below_0 : VL.Ss := .cons (.ret (.and (.cons false (.call "is_whole" (.sh (.var 0) .nil)) (.cons false (.chain .LtE .Lt (.lit (.int (0))) (.var 0) (.var 1)) .nil)))) .nil
def D_is_below : VL.Def := ⟨2, [.sh, .sh], b_is_below_0, .val⟩
def b_is_number_of_items_0 : VL.Ss := .cons (.ret (.and (.cons false (.call "is_whole" (.sh (.var 0) .nil)) (.cons false (.chain .LtE .LtE (.glb "LEAST_ITEMS" (.int (2))) (.var 0) (.glb "MOST_ITEMS" (.int (4)))) .nil)))) .nil
def D_is_number_of_items : VL.Def := ⟨1, [.sh], b_is_number_of_items_0, .val⟩
def b_is_order_of_0 : VL.Ss := .cons (.ret (.bi .all (.cons false (.comp (.and (.cons false (.call "is_below" (.sh (.var 2) (.sh (.var 0) .nil))) (.cons false (.op2 (.cmp .Eq) (.me .count (.var 1) (.var 2)) (.lit (.int (1)))) .nil))) (.nm 2) (.ex (.var 1)) .no [2]) .nil))) .nil
def b_is_order_of_1 : VL.Ss := .cons (.ret (.lit (.bool false))) .nil
def b_is_order_of_2 : VL.Ss := .cons (.ite (.or (.cons false (.not (.isin "tuple" (.var 1))) (.cons false (.op2 (.cmp .NotEq) (.bi .len (.cons false (.var 1) .nil)) (.var 0)) .nil))) b_is_order_of_1 .nil) b_is_order_of_0
def D_is_order_of : VL.Def := ⟨3, [.sh, .sh], b_is_order_of_2, .val⟩
def b_need_items_0 : VL.Ss := .cons .never .nil
def b_need_items_1 : VL.Ss := .cons (.ite (.not (.call "is_number_of_items" (.sh (.var 0) .nil))) b_need_items_0 .nil) .nil
def D_need_items : VL.Def := ⟨1, [.sh], b_need_items_1, .val⟩
def b_need_order_0 : VL.Ss := .cons .never .nil
def b_need_order_1 : VL.Ss := .cons (.ite (.or (.cons false (.not (.isin "tuple" (.var 0))) (.cons false (.not (.call "is_number_of_items" (.sh (.bi .len (.cons false (.var 0) .nil)) .nil))) (.cons false (.not (.call "is_order_of" (.sh (.bi .len (.cons false (.var 0) .nil)) (.sh (.var 0) .nil)))) .nil)))) b_need_order_0 .nil) .nil
def D_need_order : VL.Def := ⟨1, [.sh], b_need_order_1, .val⟩
def b_need_item_0 : VL.Ss := .cons .never .nil
def b_need_item_1 : VL.Ss := .cons (.ite (.not (.call "is_below" (.sh (.var 1) (.sh (.var 0) .nil)))) b_need_item_0 .nil) .nil
def D_need_item : VL.Def := ⟨2, [.sh, .sh], b_need_item_1, .val⟩
def b_make_orders_0 : VL.Ss := .cons (.ret (.var 1)) .nil
def b_make_orders_1 : VL.Ss := .cons (.set 1 (.v (.var 3))) .nil
def b_make_orders_2 : VL.Ss := .cons (.ext 3 (.comp (.tup (.cons true (.var 4) (.cons false (.var 5) .nil))) (.nm 5) (.range (.var 0)) (.so (.op2 (.cmp .NotIn) (.var 5) (.var 4))) [5])) .nil
def b_make_orders_3 : VL.Ss := .cons (.for_ (.nm 4) (.ex (.var 1)) b_make_orders_2) b_make_orders_1
def b_make_orders_4 : VL.Ss := .cons (.set 3 (.o (.lst .nil))) b_make_orders_3
def b_make_orders_5 : VL.Ss := .cons (.for_ (.nm 2) (.range (.var 0)) b_make_orders_4) b_make_orders_0
def b_make_orders_6 : VL.Ss := .cons (.set 1 (.v (.lst (.cons false (.tup .nil) .nil)))) b_make_orders_5
def D_make_orders : VL.Def := ⟨6, [.sh], b_make_orders_6, .val⟩
def b_make_moved_0 : VL.Ss := .cons (.ret (.tup (.cons true (.slc (.var 3) .no (.so (.var 2))) (.cons false (.var 1) (.cons true (.slc (.var 3) (.so (.var 2)) .no) .nil))))) .nil
def b_make_moved_1 : VL.Ss := .cons (.set 3 (.v (.comp (.var 4) (.nm 4) (.ex (.var 0)) (.so (.op2 (.cmp .NotEq) (.var 4) (.var 1))) [4]))) b_make_moved_0
def D_make_moved : VL.Def := ⟨5, [.sh, .sh, .sh], b_make_moved_1, .val⟩
def b_is_order_0 : VL.Ss := .cons (.ret (.call "is_order_of" (.sh (.var 0) (.sh (.var 1) .nil)))) .nil
def b_is_order_1 : VL.Ss := .cons (.ex (.call "need_items" (.sh (.var 0) .nil))) b_is_order_0
def D_is_order : VL.Def := ⟨2, [.sh, .sh], b_is_order_1, .val⟩
def b_all_orders_0 : VL.Ss := .cons (.retO (.call "make_orders" (.sh (.var 0) .nil))) .nil
def b_all_orders_1 : VL.Ss := .cons (.ex (.call "need_items" (.sh (.var 0) .nil))) b_all_orders_0
def D_all_orders : VL.Def := ⟨1, [.sh], b_all_orders_1, .own⟩
def b_place_of_0 : VL.Ss := .cons (.ret (.me .index (.var 0) (.var 1))) .nil
def b_place_of_1 : VL.Ss := .cons (.ex (.call "need_item" (.sh (.bi .len (.cons false (.var 0) .nil)) (.sh (.var 1) .nil)))) b_place_of_0
def b_place_of_2 : VL.Ss := .cons (.ex (.call "need_order" (.sh (.var 0) .nil))) b_place_of_1
def D_place_of : VL.Def := ⟨2, [.sh, .sh], b_place_of_2, .val⟩
def b_moved_0 : VL.Ss := .cons (.ret (.call "make_moved" (.sh (.var 0) (.sh (.var 1) (.sh (.var 2) .nil))))) .nil
def b_moved_1 : VL.Ss := .cons .never .nil
def b_moved_2 : VL.Ss := .cons (.ite (.not (.call "is_below" (.sh (.var 2) (.sh (.op2 (.bin .Add) (.me .index (.var 0) (.var 1)) (.lit (.int (1)))) .nil)))) b_moved_1 .nil) b_moved_0
def b_moved_3 : VL.Ss := .cons (.ex (.call "need_item" (.sh (.bi .len (.cons false (.var 0) .nil)) (.sh (.var 1) .nil)))) b_moved_2
def b_moved_4 : VL.Ss := .cons (.ex (.call "need_order" (.sh (.var 0) .nil))) b_moved_3
def D_moved : VL.Def := ⟨3, [.sh, .sh, .sh], b_moved_4, .val⟩
def b__law_spread_0 : VL.Ss := .cons (.ret (.op2 (.bin .Add) (.op2 (.bin .Mult) (.op2 (.bin .Add) (.op2 (.bin .Mult) (.var 4) (.lit (.int (2147483647)))) (.var 6)) (.lit (.int (2147483647)))) (.var 7))) .nil
def b__law_spread_1 : VL.Ss := .cons (.set 7 (.v (.op2 (.bin .Mod) (.bi .int (.cons false (.op2 (.bin .Pow) (.op2 (.bin .Add) (.op2 (.bin .Add) (.var 6) (.op2 (.bin .Mod) (.bi .int (.cons false (.var 4) .nil)) (.lit (.int (1009))))) (.var 1)) (.lit (.int (3)))) .nil)) (.idx (.var 2) (.op2 (.bin .Mod) (.bi .int (.cons false (.op2 (.bin .Add) (.var 1) (.lit (.int (7)))) .nil)) (.lit (.int (13)))))))) b__law_spread_0
def b__law_spread_2 : VL.Ss := .cons (.set 6 (.v (.op2 (.bin .Mod) (.bi .int (.cons false (.op2 (.bin .Pow) (.op2 (.bin .Add) (.op2 (.bin .Mult) (.var 4) (.op2 (.bin .Add) (.var 1) (.lit (.int (3))))) (.var 5)) (.lit (.int (5)))) .nil)) (.idx (.var 2) (.op2 (.bin .Mod) (.bi .int (.cons false (.op2 (.bin .Add) (.var 1) (.lit (.int (5)))) .nil)) (.lit (.int (13)))))))) b__law_spread_1
def b__law_spread_3 : VL.Ss := .cons (.set 5 (.v (.op2 (.bin .Add) (.op2 (.bin .Mod) (.bi .int (.cons false (.var 0) .nil)) (.lit (.int (65537)))) (.lit (.int (5)))))) b__law_spread_2
def b__law_spread_4 : VL.Ss := .cons (.set 4 (.v (.op2 (.bin .Mod) (.bi .int (.cons false (.op2 (.bin .Pow) (.var 3) (.lit (.int (3)))) .nil)) (.idx (.var 2) (.op2 (.bin .Mod) (.bi .int (.cons false (.var 1) .nil)) (.lit (.int (13)))))))) b__law_spread_3
def b__law_spread_5 : VL.Ss := .cons (.set 3 (.v (.op2 (.bin .Add) (.op2 (.bin .Add) (.op2 (.bin .Mult) (.op2 (.bin .Mod) (.bi .int (.cons false (.var 0) .nil)) (.lit (.int (1000000007)))) (.op2 (.bin .Add) (.op2 (.bin .Mult) (.lit (.int (2))) (.var 1)) (.lit (.int (69069))))) (.op2 (.bin .Mult) (.var 1) (.lit (.int (40503))))) (.lit (.int (977)))))) b__law_spread_4
def b__law_spread_6 : VL.Ss := .cons (.set 2 (.v (.op2 (.bin .Add) (.var 2) (.lst (.cons false (.lit (.int (2147483489))) (.cons false (.lit (.int (2147483477))) (.cons false (.lit (.int (2147483423))) (.cons false (.lit (.int (2147483399))) (.cons false (.lit (.int (2147483353))) (.cons false (.lit (.int (2147483323))) .nil)))))))))) b__law_spread_5
def b__law_spread_7 : VL.Ss := .cons (.set 2 (.v (.lst (.cons false (.lit (.int (2147483629))) (.cons false (.lit (.int (2147483587))) (.cons false (.lit (.int (2147483579))) (.cons false (.lit (.int (2147483563))) (.cons false (.lit (.int (2147483549))) (.cons false (.lit (.int (2147483543))) (.cons false (.lit (.int (2147483497))) .nil)))))))))) b__law_spread_6
def b__law_spread_8 : VL.Ss := .cons (.ret (.var 0)) .nil
def b__law_spread_9 : VL.Ss := .cons (.ite (.op2 (.cmp .GtE) (.var 0) (.op2 (.bin .Pow) (.lit (.int (10))) (.lit (.int (18))))) b__law_spread_8 .nil) b__law_spread_7
def D__law_spread : VL.Def := ⟨8, [.sh, .sh], b__law_spread_9, .val⟩
def b__law_open_0 : VL.Ss := .cons (.retO (.lst (.cons false (.var 1) (.cons false (.lit (.int (0))) (.cons false (.lit (.int (0))) .nil))))) .nil
def b__law_open_1 : VL.Ss := .cons (.seti 1 (.op2 (.bin .Mod) (.bi .int (.cons false (.var 2) .nil)) (.lit (.int (12)))) (.op2 (.bin .Add) (.idx (.var 1) (.op2 (.bin .Mod) (.bi .int (.cons false (.var 2) .nil)) (.lit (.int (12))))) (.var 3))) .nil
def b__law_open_2 : VL.Ss := .cons (.for_ (.tp [(.nm 2), (.nm 3)]) (.enum (.scut 0 (.so (.lit (.int (12)))) (.so (.lit (.int (63)))))) b__law_open_1) b__law_open_0
def b__law_open_3 : VL.Ss := .cons (.set 1 (.o (.bi .list (.cons false (.scut 0 .no (.so (.lit (.int (12))))) .nil)))) b__law_open_2
def D__law_open : VL.Def := ⟨4, [.scr], b__law_open_3, .own⟩
def b__law_take_0 : VL.Ss := .cons (.ret (.var 2)) .nil
def b__law_take_1 : VL.Ss := .cons (.seti 0 (.lit (.int (2))) (.op2 (.bin .FloorDiv) (.idx (.var 0) (.lit (.int (2)))) (.var 1))) b__law_take_0
def b__law_take_2 : VL.Ss := .cons (.set 2 (.v (.op2 (.bin .Mod) (.bi .int (.cons false (.idx (.var 0) (.lit (.int (2)))) .nil)) (.var 1)))) b__law_take_1
def b__law_take_3 : VL.Ss := .cons (.seti 0 (.lit (.int (2))) (.call "_law_spread" (.sh (.var 4) (.sh (.var 3) .nil)))) .nil
def b__law_take_4 : VL.Ss := .cons (.seti 0 (.lit (.int (1))) (.op2 (.bin .Add) (.var 3) (.lit (.int (1))))) b__law_take_3
def b__law_take_5 : VL.Ss := .cons (.set 4 (.v (.idx (.idx (.var 0) (.lit (.int (0)))) (.var 3)))) .nil
def b__law_take_6 : VL.Ss := .cons (.set 4 (.v (.op2 (.bin .Mod) (.bi .int (.cons false (.idx (.idx (.var 0) (.lit (.int (0)))) (.op2 (.bin .Mod) (.bi .int (.cons false (.op2 (.bin .Add) (.op2 (.bin .Mult) (.var 3) (.lit (.int (5)))) (.lit (.int (3)))) .nil)) (.bi .len (.cons false (.idx (.var 0) (.lit (.int (0)))) .nil)))) .nil)) (.op2 (.bin .Add) (.op2 (.bin .Pow) (.lit (.int (10))) (.lit (.int (17)))) (.var 3))))) .nil
def b__law_take_7 : VL.Ss := .cons (.ite (.op2 (.cmp .Gt) (.bi .len (.cons false (.idx (.var 0) (.lit (.int (0)))) .nil)) (.lit (.int (0)))) b__law_take_6 .nil) .nil
def b__law_take_8 : VL.Ss := .cons (.ite (.op2 (.cmp .Lt) (.var 3) (.bi .len (.cons false (.idx (.var 0) (.lit (.int (0)))) .nil))) b__law_take_5 b__law_take_7) b__law_take_4
def b__law_take_9 : VL.Ss := .cons (.set 4 (.v (.lit (.int (0))))) b__law_take_8
def b__law_take_10 : VL.Ss := .cons (.set 3 (.v (.idx (.var 0) (.lit (.int (1)))))) b__law_take_9
def b__law_take_11 : VL.Ss := .cons (.ite (.op2 (.cmp .Lt) (.idx (.var 0) (.lit (.int (2)))) (.var 1)) b__law_take_10 .nil) b__law_take_2
def D__law_take : VL.Def := ⟨5, [.io, .sh], b__law_take_11, .val⟩
def b__law_anew_0 : VL.Ss := .cons (.retSelf 0) .nil
def b__law_anew_1 : VL.Ss := .cons (.seti 0 (.lit (.int (2))) (.lit (.int (0)))) b__law_anew_0
def D__law_anew : VL.Def := ⟨1, [.io], b__law_anew_1, .self⟩
def b__law_one_0 : VL.Ss := .cons (.ret (.idx (.var 1) (.call "_law_take" (.io 0 (.sh (.bi .len (.cons false (.var 1) .nil)) .nil))))) .nil
def D__law_one : VL.Def := ⟨2, [.io, .sh], b__law_one_0, .val⟩
def b__law_is_whole_0 : VL.Ss := .cons (.ret (.and (.cons false (.isin "int" (.var 0)) (.cons false (.not (.isin "bool" (.var 0))) .nil)))) .nil
def D__law_is_whole : VL.Def := ⟨1, [.sh], b__law_is_whole_0, .val⟩
def b__law_orders_0 : VL.Ss := .cons (.ret (.var 1)) .nil
def b__law_orders_1 : VL.Ss := .cons (.set 1 (.v (.var 3))) .nil
def b__law_orders_2 : VL.Ss := .cons (.set 3 (.v (.op2 (.bin .Add) (.var 3) (.comp (.op2 (.bin .Add) (.var 4) (.tup (.cons false (.var 5) .nil))) (.nm 5) (.range (.var 0)) (.so (.op2 (.cmp .NotIn) (.var 5) (.var 4))) [5])))) .nil
def b__law_orders_3 : VL.Ss := .cons (.for_ (.nm 4) (.ex (.var 1)) b__law_orders_2) b__law_orders_1
def b__law_orders_4 : VL.Ss := .cons (.set 3 (.v (.lst .nil))) b__law_orders_3
def b__law_orders_5 : VL.Ss := .cons (.for_ (.nm 2) (.range (.var 0)) b__law_orders_4) b__law_orders_0
def b__law_orders_6 : VL.Ss := .cons (.set 1 (.v (.lst (.cons false (.tup .nil) .nil)))) b__law_orders_5
def D__law_orders : VL.Def := ⟨6, [.sh], b__law_orders_6, .val⟩
def b__law_drawn_order_0 : VL.Ss := .cons (.ret (.var 4)) .nil
def b__law_drawn_order_1 : VL.Ss := .cons (.set 4 (.v (.op2 (.bin .Add) (.var 4) (.tup (.cons false (.pop 3 (.call "_law_take" (.io 0 (.sh (.bi .len (.cons false (.var 3) .nil)) .nil)))) .nil))))) .nil
def b__law_drawn_order_2 : VL.Ss := .cons (.for_ (.nm 2) (.range (.var 1)) b__law_drawn_order_1) b__law_drawn_order_0
def b__law_drawn_order_3 : VL.Ss := .cons (.par [3, 4] [(.o (.lrange false (.var 1))), (.v (.tup .nil))]) b__law_drawn_order_2
def D__law_drawn_order : VL.Def := ⟨5, [.io, .sh], b__law_drawn_order_3, .val⟩
def b__law_below_0 : VL.Ss := .cons (.ret (.and (.cons false (.call "_law_is_whole" (.sh (.var 0) .nil)) (.cons false (.chain .LtE .Lt (.lit (.int (0))) (.var 0) (.var 1)) .nil)))) .nil
def D__law_below : VL.Def := ⟨2, [.sh, .sh], b__law_below_0, .val⟩
def b__law_is_order_0 : VL.Ss := .cons (.ret (.op2 (.cmp .Eq) (.bi .len (.cons false (.var 2) .nil)) (.var 0))) .nil
def b__law_is_order_1 : VL.Ss := .cons (.set 2 (.v (.comp (.var 3) (.nm 3) (.ex (.var 1)) (.so (.and (.cons false (.call "_law_below" (.sh (.var 3) (.sh (.var 0) .nil))) (.cons false (.op2 (.cmp .Eq) (.me .count (.var 1) (.var 3)) (.lit (.int (1)))) .nil)))) [3]))) b__law_is_order_0
def b__law_is_order_2 : VL.Ss := .cons (.ret (.lit (.bool false))) .nil
def b__law_is_order_3 : VL.Ss := .cons (.ite (.or (.cons false (.not (.isin "tuple" (.var 1))) (.cons false (.op2 (.cmp .NotEq) (.bi .len (.cons false (.var 1) .nil)) (.var 0)) .nil))) b__law_is_order_2 .nil) b__law_is_order_1
def D__law_is_order : VL.Def := ⟨4, [.sh, .sh], b__law_is_order_3, .val⟩
def b__law_bent_0 : VL.Ss := .cons (.ret (.op2 (.bin .Add) (.op2 (.bin .Add) (.slc (.var 1) .no (.so (.var 4))) (.ite (.isin "list" (.var 1)) (.lst (.cons false (.var 2) .nil)) (.tup (.cons false (.var 2) .nil)))) (.slc (.var 1) (.so (.op2 (.bin .Add) (.var 4) (.lit (.int (1))))) .no))) .nil
def b__law_bent_1 : VL.Ss := .cons (.set 2 (.v (.op2 (.bin .Add) (.idx (.var 1) (.var 4)) (.call "_law_one" (.io 0 (.sh (.lst (.cons false (.lit (.int (1))) (.cons false (.neg (.lit (.int (1)))) (.cons false (.lit (.int (2))) (.cons false (.neg (.idx (.var 1) (.var 4))) .nil))))) .nil)))))) .nil
def b__law_bent_2 : VL.Ss := .cons (.ite (.and (.cons false (.call "_law_is_whole" (.sh (.idx (.var 1) (.var 4)) .nil)) (.cons false (.op2 (.cmp .Lt) (.var 5) (.lit (.int (9)))) .nil))) b__law_bent_1 .nil) b__law_bent_0
def b__law_bent_3 : VL.Ss := .cons (.set 2 (.v (.call "_law_bent" (.io 0 (.sh (.idx (.var 1) (.var 4)) .nil))))) b__law_bent_2
def b__law_bent_4 : VL.Ss := .cons (.ret (.call "_law_one" (.io 0 (.sh (.lst (.cons false (.bi .list (.cons false (.var 1) .nil)) (.cons false (.bi .tuple (.cons false (.var 1) .nil)) (.cons false (.rev (.var 1)) (.cons false (.op2 (.bin .Add) (.slc (.var 1) (.so (.lit (.int (1)))) .no) (.slc (.var 1) .no (.so (.lit (.int (1)))))) .nil))))) .nil)))) .nil
def b__law_bent_5 : VL.Ss := .cons (.ite (.op2 (.cmp .Eq) (.var 5) (.lit (.int (2)))) b__law_bent_4 .nil) b__law_bent_3
def b__law_bent_6 : VL.Ss := .cons (.ret (.op2 (.bin .Add) (.var 1) (.slc (.var 1) (.so (.var 4)) (.so (.op2 (.bin .Add) (.var 4) (.lit (.int (1)))))))) .nil
def b__law_bent_7 : VL.Ss := .cons (.ite (.op2 (.cmp .Eq) (.var 5) (.lit (.int (1)))) b__law_bent_6 .nil) b__law_bent_5
def b__law_bent_8 : VL.Ss := .cons (.ret (.op2 (.bin .Add) (.slc (.var 1) .no (.so (.var 4))) (.slc (.var 1) (.so (.op2 (.bin .Add) (.var 4) (.lit (.int (1))))) .no))) .nil
def b__law_bent_9 : VL.Ss := .cons (.ite (.op2 (.cmp .Eq) (.var 5) (.lit (.int (0)))) b__law_bent_8 .nil) b__law_bent_7
def b__law_bent_10 : VL.Ss := .cons (.par [4, 5] [(.v (.call "_law_take" (.io 0 (.sh (.bi .len (.cons false (.var 1) .nil)) .nil)))), (.v (.call "_law_take" (.io 0 (.sh (.lit (.int (10))) .nil))))]) b__law_bent_9
def b__law_bent_11 : VL.Ss := .cons (.ret (.call "_law_one" (.io 0 (.sh (.var 3) .nil)))) .nil
def b__law_bent_12 : VL.Ss := .cons (.set 3 (.v (.lst (.cons false (.lit .none) (.cons false (.lit (.int (0))) (.cons false (.lit (.int (1))) (.cons false (.lit (.int (2))) (.cons false (.lit (.int (3))) (.cons false (.neg (.lit (.int (1)))) (.cons false (.lit (.bool true)) (.cons false (.lit (.bool false)) (.cons false (.lit (.str "")) (.cons false (.lit (.str "order")) (.cons false (.tup .nil) (.cons false (.lst .nil) (.cons false (.tup (.cons false (.lit (.int (0))) .nil)) (.cons false (.tup (.cons false (.lit (.int (0))) (.cons false (.lit (.int (1))) .nil))) (.cons false (.tup (.cons false (.lit (.int (1))) (.cons false (.lit (.int (0))) .nil))) (.cons false (.tup (.cons false (.tup (.cons false (.lit (.int (0))) .nil)) .nil)) (.cons false (.op2 (.bin .Pow) (.lit (.int (10))) (.lit (.int (20)))) .nil)))))))))))))))))))) b__law_bent_11
def b__law_bent_13 : VL.Ss := .cons (.ite (.or (.cons false (.and (.cons false (.not (.isin "list" (.var 1))) (.cons false (.not (.isin "tuple" (.var 1))) .nil))) (.cons false (.op2 (.cmp .Eq) (.bi .len (.cons false (.var 1) .nil)) (.lit (.int (0)))) (.cons false (.op2 (.cmp .Eq) (.call "_law_take" (.io 0 (.sh (.lit (.int (9))) .nil))) (.lit (.int (0)))) .nil)))) b__law_bent_12 .nil) b__law_bent_10
def D__law_bent : VL.Def := ⟨6, [.io, .sh], b__law_bent_13, .val⟩
def b_is_entry_0 : VL.Ss := .cons (.ret (.and (.cons false (.call "is_below" (.sh (.idx (.var 2) (.lit (.int (0)))) (.sh (.op2 (.bin .Add) (.var 0) (.lit (.int (1)))) .nil))) (.cons false (.call "is_below" (.sh (.idx (.var 2) (.lit (.int (1)))) (.sh (.var 1) .nil))) .nil)))) .nil
def b_is_entry_1 : VL.Ss := .cons (.ret (.lit (.bool false))) .nil
def b_is_entry_2 : VL.Ss := .cons (.ite (.or (.cons false (.not (.isin "tuple" (.var 2))) (.cons false (.op2 (.cmp .NotEq) (.bi .len (.cons false (.var 2) .nil)) (.lit (.int (2)))) .nil))) b_is_entry_1 .nil) b_is_entry_0
def D_is_entry : VL.Def := ⟨3, [.sh, .sh, .sh], b_is_entry_2, .val⟩
def b_is_row_0 : VL.Ss := .cons (.ret (.bi .all (.cons false (.comp (.call "is_entry" (.sh (.var 0) (.sh (.var 1) (.sh (.var 3) .nil)))) (.nm 3) (.ex (.var 2)) .no [3]) .nil))) .nil
def b_is_row_1 : VL.Ss := .cons (.ret (.lit (.bool false))) .nil
def b_is_row_2 : VL.Ss := .cons (.ite (.or (.cons false (.not (.isin "tuple" (.var 2))) (.cons false (.op2 (.cmp .NotEq) (.bi .len (.cons false (.var 2) .nil)) (.var 1)) .nil))) b_is_row_1 .nil) b_is_row_0
def D_is_row : VL.Def := ⟨4, [.sh, .sh, .sh], b_is_row_2, .val⟩
def b_is_rule_0 : VL.Ss := .cons (.ret (.bi .all (.cons false (.comp (.call "is_row" (.sh (.var 4) (.sh (.var 2) (.sh (.var 5) .nil)))) (.tp [(.nm 4), (.nm 5)]) (.enum (.var 3)) .no [4, 5]) .nil))) .nil
def b_is_rule_1 : VL.Ss := .cons (.ret (.lit (.bool false))) .nil
def b_is_rule_2 : VL.Ss := .cons (.ite (.or (.cons false (.not (.isin "tuple" (.var 3))) (.cons false (.op2 (.cmp .NotEq) (.bi .len (.cons false (.var 3) .nil)) (.var 1)) .nil))) b_is_rule_1 .nil) b_is_rule_0
def b_is_rule_3 : VL.Ss := .cons (.ret (.lit (.bool false))) .nil
def b_is_rule_4 : VL.Ss := .cons (.ite (.or (.cons false (.not (.call "is_below" (.sh (.var 2) (.sh (.op2 (.bin .Add) (.glb "MOST_KINDS" (.int (2))) (.lit (.int (1)))) .nil)))) (.cons false (.op2 (.cmp .Eq) (.var 2) (.lit (.int (0)))) .nil))) b_is_rule_3 .nil) b_is_rule_2
def b_is_rule_5 : VL.Ss := .cons (.asg (.tp [(.nm 1), (.nm 2), (.nm 3)]) (.var 0)) b_is_rule_4
def b_is_rule_6 : VL.Ss := .cons (.ret (.lit (.bool false))) .nil
def b_is_rule_7 : VL.Ss := .cons (.ite (.or (.cons false (.not (.isin "tuple" (.var 0))) (.cons false (.op2 (.cmp .NotEq) (.bi .len (.cons false (.var 0) .nil)) (.lit (.int (3)))) (.cons false (.not (.call "is_number_of_items" (.sh (.idx (.var 0) (.lit (.int (0)))) .nil))) .nil)))) b_is_rule_6 .nil) b_is_rule_5
def D_is_rule : VL.Def := ⟨6, [.sh], b_is_rule_7, .val⟩
def b_named_row_0 : VL.Ss := .cons (.ret (.tup (.cons false (.tup (.cons false (.dsel ["front", "ahead", "still", "half"] (.cons false (.lit (.int (0))) (.cons false (.bi .max (.cons false (.lit (.int (0))) (.cons false (.op2 (.bin .Sub) (.var 1) (.lit (.int (1)))) .nil))) (.cons false (.var 1) (.cons false (.op2 (.bin .FloorDiv) (.var 1) (.lit (.int (2)))) .nil)))) (.var 0)) (.cons false (.lit (.int (0))) .nil))) .nil))) .nil
def b_named_row_1 : VL.Ss := .cons (.ret (.tup (.cons false (.tup (.cons false (.var 1) (.cons false (.lit (.int (1))) .nil))) (.cons false (.tup (.cons false (.lit (.int (0))) (.cons false (.lit (.int (0))) .nil))) .nil)))) .nil
def b_named_row_2 : VL.Ss := .cons (.ite (.op2 (.cmp .Eq) (.var 0) (.lit (.str "second"))) b_named_row_1 .nil) b_named_row_0
def D_named_row : VL.Def := ⟨2, [.sh, .sh], b_named_row_2, .val⟩
def b_named_rule_0 : VL.Ss := .cons (.ret (.tup (.cons false (.var 0) (.cons false (.ite (.op2 (.cmp .Eq) (.var 1) (.lit (.str "second"))) (.lit (.int (2))) (.lit (.int (1)))) (.cons false (.bi .tuple (.cons false (.comp (.call "named_row" (.sh (.var 1) (.sh (.var 2) .nil))) (.nm 2) (.range (.var 0)) .no [2]) .nil)) .nil))))) .nil
def b_named_rule_1 : VL.Ss := .cons .never .nil
def b_named_rule_2 : VL.Ss := .cons (.ite (.or (.cons false (.not (.isin "str" (.var 1))) (.cons false (.op2 (.cmp .NotIn) (.var 1) (.glb "NAMES" (.tuple [(.str "front"), (.str "ahead"), (.str "still"), (.str "half"), (.str "second")]))) .nil))) b_named_rule_1 .nil) b_named_rule_0
def b_named_rule_3 : VL.Ss := .cons (.ex (.call "need_items" (.sh (.var 0) .nil))) b_named_rule_2
def D_named_rule : VL.Def := ⟨3, [.sh, .sh], b_named_rule_3, .val⟩
def b__law_named_0 : VL.Ss := .cons (.ret (.tup (.cons false (.var 1) (.cons false (.ite (.op2 (.cmp .Eq) (.var 0) (.lit (.str "second"))) (.lit (.int (2))) (.lit (.int (1)))) (.cons false (.bi .tuple (.cons false (.var 2) .nil)) .nil))))) .nil
def b__law_named_1 : VL.Ss := .cons (.app 2 (.ite (.op2 (.cmp .Eq) (.var 0) (.lit (.str "second"))) (.tup (.cons false (.tup (.cons false (.var 3) (.cons false (.lit (.int (1))) .nil))) (.cons false (.tup (.cons false (.lit (.int (0))) (.cons false (.lit (.int (0))) .nil))) .nil))) (.tup (.cons false (.tup (.cons false (.var 4) (.cons false (.lit (.int (0))) .nil))) .nil)))) .nil
def b__law_named_2 : VL.Ss := .cons (.set 4 (.v (.dsor ["front", "ahead", "half"] (.cons false (.lit (.int (0))) (.cons false (.bi .max (.cons false (.lit (.int (0))) (.cons false (.op2 (.bin .Sub) (.var 3) (.lit (.int (1)))) .nil))) (.cons false (.op2 (.bin .FloorDiv) (.var 3) (.lit (.int (2)))) .nil))) (.var 0) (.var 3)))) b__law_named_1
def b__law_named_3 : VL.Ss := .cons (.for_ (.nm 3) (.range (.var 1)) b__law_named_2) b__law_named_0
def b__law_named_4 : VL.Ss := .cons (.set 2 (.o (.lst .nil))) b__law_named_3
def D__law_named : VL.Def := ⟨5, [.sh, .sh], b__law_named_4, .val⟩
def b__law_drawn_rule_0 : VL.Ss := .cons (.ret (.tup (.cons false (.var 1) (.cons false (.var 3) (.cons false (.bi .tuple (.cons false (.var 4) .nil)) .nil))))) .nil
def b__law_drawn_rule_1 : VL.Ss := .cons (.app 4 (.bi .tuple (.cons false (.comp (.tup (.cons false (.call "_law_take" (.io 0 (.sh (.op2 (.bin .Add) (.var 2) (.lit (.int (1)))) .nil))) (.cons false (.call "_law_take" (.io 0 (.sh (.var 3) .nil))) .nil))) (.nm 5) (.range (.var 3)) .no [5]) .nil))) .nil
def b__law_drawn_rule_2 : VL.Ss := .cons (.for_ (.nm 2) (.range (.var 1)) b__law_drawn_rule_1) b__law_drawn_rule_0
def b__law_drawn_rule_3 : VL.Ss := .cons (.par [3, 4] [(.v (.call "_law_one" (.io 0 (.sh (.lst (.cons false (.lit (.int (1))) (.cons false (.lit (.int (2))) (.cons false (.lit (.int (2))) .nil)))) .nil)))), (.o (.lst .nil))]) b__law_drawn_rule_2
def b__law_drawn_rule_4 : VL.Ss := .cons (.ret (.call "_law_named" (.sh (.call "_law_one" (.io 0 (.sh (.lst (.cons false (.lit (.str "front")) (.cons false (.lit (.str "ahead")) (.cons false (.lit (.str "still")) (.cons false (.lit (.str "half")) (.cons false (.lit (.str "second")) .nil)))))) .nil))) (.sh (.var 1) .nil)))) .nil
def b__law_drawn_rule_5 : VL.Ss := .cons (.ite (.op2 (.cmp .Eq) (.call "_law_take" (.io 0 (.sh (.lit (.int (2))) .nil))) (.lit (.int (0)))) b__law_drawn_rule_4 .nil) b__law_drawn_rule_3
def D__law_drawn_rule : VL.Def := ⟨6, [.io, .sh], b__law_drawn_rule_5, .val⟩
def b__law_is_entry_0 : VL.Ss := .cons (.ret (.and (.cons false (.call "_law_below" (.sh (.idx (.var 2) (.lit (.int (0)))) (.sh (.op2 (.bin .Add) (.var 0) (.lit (.int (1)))) .nil))) (.cons false (.call "_law_below" (.sh (.idx (.var 2) (.lit (.int (1)))) (.sh (.var 1) .nil))) .nil)))) .nil
def b__law_is_entry_1 : VL.Ss := .cons (.ret (.lit (.bool false))) .nil
def b__law_is_entry_2 : VL.Ss := .cons (.ite (.or (.cons false (.not (.isin "tuple" (.var 2))) (.cons false (.op2 (.cmp .NotEq) (.bi .len (.cons false (.var 2) .nil)) (.lit (.int (2)))) .nil))) b__law_is_entry_1 .nil) b__law_is_entry_0
def D__law_is_entry : VL.Def := ⟨3, [.sh, .sh, .sh], b__law_is_entry_2, .val⟩
def b__law_is_rule_0 : VL.Ss := .cons (.ret (.lit (.bool true))) .nil
def b__law_is_rule_1 : VL.Ss := .cons (.ret (.lit (.bool false))) .nil
def b__law_is_rule_2 : VL.Ss := .cons (.ite (.op2 (.cmp .NotEq) (.comp (.var 3) (.nm 3) (.ex (.var 2)) (.so (.not (.call "_law_is_entry" (.sh (.var 1) (.sh (.idx (.var 0) (.lit (.int (1)))) (.sh (.var 3) .nil)))))) [3]) (.lst .nil)) b__law_is_rule_1 .nil) .nil
def b__law_is_rule_3 : VL.Ss := .cons (.ret (.lit (.bool false))) .nil
def b__law_is_rule_4 : VL.Ss := .cons (.ite (.or (.cons false (.not (.isin "tuple" (.var 2))) (.cons false (.op2 (.cmp .NotEq) (.bi .len (.cons false (.var 2) .nil)) (.idx (.var 0) (.lit (.int (1))))) .nil))) b__law_is_rule_3 .nil) b__law_is_rule_2
def b__law_is_rule_5 : VL.Ss := .cons (.for_ (.tp [(.nm 1), (.nm 2)]) (.enum (.idx (.var 0) (.lit (.int (2))))) b__law_is_rule_4) b__law_is_rule_0
def b__law_is_rule_6 : VL.Ss := .cons (.ret (.lit (.bool false))) .nil
def b__law_is_rule_7 : VL.Ss := .cons (.ite (.or (.cons false (.not (.isin "tuple" (.idx (.var 0) (.lit (.int (2)))))) (.cons false (.op2 (.cmp .NotEq) (.bi .len (.cons false (.idx (.var 0) (.lit (.int (2)))) .nil)) (.idx (.var 0) (.lit (.int (0))))) .nil))) b__law_is_rule_6 .nil) b__law_is_rule_5
def b__law_is_rule_8 : VL.Ss := .cons (.ret (.lit (.bool false))) .nil
def b__law_is_rule_9 : VL.Ss := .cons (.ite (.or (.cons false (.not (.call "_law_is_whole" (.sh (.idx (.var 0) (.lit (.int (0)))) .nil))) (.cons false (.not (.chain .LtE .LtE (.lit (.int (2))) (.idx (.var 0) (.lit (.int (0)))) (.lit (.int (4))))) (.cons false (.not (.call "_law_is_whole" (.sh (.idx (.var 0) (.lit (.int (1)))) .nil))) (.cons false (.not (.chain .LtE .LtE (.lit (.int (1))) (.idx (.var 0) (.lit (.int (1)))) (.lit (.int (2))))) .nil))))) b__law_is_rule_8 .nil) b__law_is_rule_7
def b__law_is_rule_10 : VL.Ss := .cons (.ret (.lit (.bool false))) .nil
def b__law_is_rule_11 : VL.Ss := .cons (.ite (.or (.cons false (.not (.isin "tuple" (.var 0))) (.cons false (.op2 (.cmp .NotEq) (.bi .len (.cons false (.var 0) .nil)) (.lit (.int (3)))) .nil))) b__law_is_rule_10 .nil) b__law_is_rule_9
def D__law_is_rule : VL.Def := ⟨4, [.sh], b__law_is_rule_11, .val⟩
def b_need_rule_0 : VL.Ss := .cons .never .nil
def b_need_rule_1 : VL.Ss := .cons (.ite (.not (.call "is_rule" (.sh (.var 0) .nil))) b_need_rule_0 .nil) .nil
def D_need_rule : VL.Def := ⟨1, [.sh], b_need_rule_1, .val⟩
def b_is_standing_of_0 : VL.Ss := .cons (.ret (.bi .all (.cons false (.comp (.call "is_below" (.sh (.var 2) (.sh (.idx (.var 0) (.lit (.int (1)))) .nil))) (.nm 2) (.ex (.idx (.var 1) (.lit (.int (1))))) .no [2]) .nil))) .nil
def b_is_standing_of_1 : VL.Ss := .cons (.ret (.lit (.bool false))) .nil
def b_is_standing_of_2 : VL.Ss := .cons (.ite (.or (.cons false (.not (.isin "tuple" (.idx (.var 1) (.lit (.int (1)))))) (.cons false (.op2 (.cmp .NotEq) (.bi .len (.cons false (.idx (.var 1) (.lit (.int (1)))) .nil)) (.idx (.var 0) (.lit (.int (0))))) .nil))) b_is_standing_of_1 .nil) b_is_standing_of_0
def b_is_standing_of_3 : VL.Ss := .cons (.ret (.lit (.bool false))) .nil
def b_is_standing_of_4 : VL.Ss := .cons (.ite (.or (.cons false (.not (.isin "tuple" (.var 1))) (.cons false (.op2 (.cmp .NotEq) (.bi .len (.cons false (.var 1) .nil)) (.lit (.int (2)))) (.cons false (.not (.call "is_order_of" (.sh (.idx (.var 0) (.lit (.int (0)))) (.sh (.idx (.var 1) (.lit (.int (0)))) .nil)))) .nil)))) b_is_standing_of_3 .nil) b_is_standing_of_2
def D_is_standing_of : VL.Def := ⟨3, [.sh, .sh], b_is_standing_of_4, .val⟩
def b_need_standing_0 : VL.Ss := .cons .never .nil
def b_need_standing_1 : VL.Ss := .cons (.ite (.not (.call "is_standing_of" (.sh (.var 0) (.sh (.var 1) .nil)))) b_need_standing_0 .nil) .nil
def D_need_standing : VL.Def := ⟨2, [.sh, .sh], b_need_standing_1, .val⟩
def b_are_asks_of_0 : VL.Ss := .cons (.ret (.and (.cons false (.isin "tuple" (.var 1)) (.cons false (.bi .all (.cons false (.comp (.call "is_below" (.sh (.var 2) (.sh (.var 0) .nil))) (.nm 2) (.ex (.var 1)) .no [2]) .nil)) .nil)))) .nil
def D_are_asks_of : VL.Def := ⟨3, [.sh, .sh], b_are_asks_of_0, .val⟩
def b_need_asks_0 : VL.Ss := .cons .never .nil
def b_need_asks_1 : VL.Ss := .cons (.ite (.not (.call "are_asks_of" (.sh (.var 0) (.sh (.var 1) .nil)))) b_need_asks_0 .nil) .nil
def D_need_asks : VL.Def := ⟨2, [.sh, .sh], b_need_asks_1, .val⟩
def b_make_ask_0 : VL.Ss := .cons (.ret (.tup (.cons false (.var 3) (.cons false (.tup (.cons false (.call "make_moved" (.sh (.var 4) (.sh (.var 2) (.sh (.var 6) .nil)))) (.cons false (.tup (.cons true (.slc (.var 5) .no (.so (.var 2))) (.cons false (.var 7) (.cons true (.slc (.var 5) (.so (.op2 (.bin .Add) (.var 2) (.lit (.int (1))))) .no) .nil)))) .nil))) .nil)))) .nil
def b_make_ask_1 : VL.Ss := .cons (.asg (.tp [(.nm 6), (.nm 7)]) (.idx (.idx (.idx (.var 0) (.lit (.int (2)))) (.var 3)) (.idx (.var 5) (.var 2)))) b_make_ask_0
def b_make_ask_2 : VL.Ss := .cons (.set 3 (.v (.me .index (.var 4) (.var 2)))) b_make_ask_1
def b_make_ask_3 : VL.Ss := .cons (.asg (.tp [(.nm 4), (.nm 5)]) (.var 1)) b_make_ask_2
def D_make_ask : VL.Def := ⟨8, [.sh, .sh, .sh], b_make_ask_3, .val⟩
def b_make_run_0 : VL.Ss := .cons (.ret (.tup (.cons false (.var 3) (.cons false (.var 1) .nil)))) .nil
def b_make_run_1 : VL.Ss := .cons (.app 3 (.var 5)) .nil
def b_make_run_2 : VL.Ss := .cons (.asg (.tp [(.nm 5), (.nm 1)]) (.call "make_ask" (.sh (.var 0) (.sh (.var 1) (.sh (.var 4) .nil))))) b_make_run_1
def b_make_run_3 : VL.Ss := .cons (.for_ (.nm 4) (.ex (.var 2)) b_make_run_2) b_make_run_0
def b_make_run_4 : VL.Ss := .cons (.set 3 (.o (.lst .nil))) b_make_run_3
def D_make_run : VL.Def := ⟨6, [.sh, .sh, .sh], b_make_run_4, .val⟩
def b_make_standings_0 : VL.Ss := .cons (.ret (.var 3)) .nil
def b_make_standings_1 : VL.Ss := .cons (.ext 3 (.comp (.tup (.cons false (.var 4) (.cons false (.var 6) .nil))) (.nm 6) (.ex (.var 1)) .no [6])) .nil
def b_make_standings_2 : VL.Ss := .cons (.for_ (.nm 4) (.ex (.call "make_orders" (.sh (.idx (.var 0) (.lit (.int (0)))) .nil))) b_make_standings_1) b_make_standings_0
def b_make_standings_3 : VL.Ss := .cons (.set 3 (.o (.lst .nil))) b_make_standings_2
def b_make_standings_4 : VL.Ss := .cons (.set 1 (.v (.var 5))) .nil
def b_make_standings_5 : VL.Ss := .cons (.ext 5 (.comp (.tup (.cons true (.var 6) (.cons false (.var 7) .nil))) (.nm 7) (.range (.idx (.var 0) (.lit (.int (1))))) .no [7])) .nil
def b_make_standings_6 : VL.Ss := .cons (.for_ (.nm 6) (.ex (.var 1)) b_make_standings_5) b_make_standings_4
def b_make_standings_7 : VL.Ss := .cons (.set 5 (.o (.lst .nil))) b_make_standings_6
def b_make_standings_8 : VL.Ss := .cons (.for_ (.nm 2) (.range (.idx (.var 0) (.lit (.int (0))))) b_make_standings_7) b_make_standings_3
def b_make_standings_9 : VL.Ss := .cons (.set 1 (.v (.lst (.cons false (.tup .nil) .nil)))) b_make_standings_8
def D_make_standings : VL.Def := ⟨8, [.sh], b_make_standings_9, .val⟩
def b_is_standing_0 : VL.Ss := .cons (.ret (.call "is_standing_of" (.sh (.var 0) (.sh (.var 1) .nil)))) .nil
def b_is_standing_1 : VL.Ss := .cons (.ex (.call "need_rule" (.sh (.var 0) .nil))) b_is_standing_0
def D_is_standing : VL.Def := ⟨2, [.sh, .sh], b_is_standing_1, .val⟩
def b_all_standings_0 : VL.Ss := .cons (.ret (.call "make_standings" (.sh (.var 0) .nil))) .nil
def b_all_standings_1 : VL.Ss := .cons (.ex (.call "need_rule" (.sh (.var 0) .nil))) b_all_standings_0
def D_all_standings : VL.Def := ⟨1, [.sh], b_all_standings_1, .val⟩
def b_ask_0 : VL.Ss := .cons (.ret (.call "make_ask" (.sh (.var 0) (.sh (.var 1) (.sh (.var 2) .nil))))) .nil
def b_ask_1 : VL.Ss := .cons (.ex (.call "need_item" (.sh (.idx (.var 0) (.lit (.int (0)))) (.sh (.var 2) .nil)))) b_ask_0
def b_ask_2 : VL.Ss := .cons (.ex (.call "need_standing" (.sh (.var 0) (.sh (.var 1) .nil)))) b_ask_1
def b_ask_3 : VL.Ss := .cons (.ex (.call "need_rule" (.sh (.var 0) .nil))) b_ask_2
def D_ask : VL.Def := ⟨3, [.sh, .sh, .sh], b_ask_3, .val⟩
def b_run_0 : VL.Ss := .cons (.ret (.call "make_run" (.sh (.var 0) (.sh (.var 1) (.sh (.var 2) .nil))))) .nil
def b_run_1 : VL.Ss := .cons (.ex (.call "need_asks" (.sh (.idx (.var 0) (.lit (.int (0)))) (.sh (.var 2) .nil)))) b_run_0
def b_run_2 : VL.Ss := .cons (.ex (.call "need_standing" (.sh (.var 0) (.sh (.var 1) .nil)))) b_run_1
def b_run_3 : VL.Ss := .cons (.ex (.call "need_rule" (.sh (.var 0) .nil))) b_run_2
def D_run : VL.Def := ⟨3, [.sh, .sh, .sh], b_run_3, .val⟩
def b_Store_u_init_u_0 : VL.Ss := .cons (.sfldO 0 "past") .nil
def b_Store_u_init_u_1 : VL.Ss := .cons (.sfld 0 "now" (.var 2)) b_Store_u_init_u_0
def b_Store_u_init_u_2 : VL.Ss := .cons (.sfld 0 "held" (.var 1)) b_Store_u_init_u_1
def b_Store_u_init_u_3 : VL.Ss := .cons (.ex (.call "need_standing" (.sh (.var 1) (.sh (.var 2) .nil)))) b_Store_u_init_u_2
def b_Store_u_init_u_4 : VL.Ss := .cons (.ex (.call "need_rule" (.sh (.var 1) .nil))) b_Store_u_init_u_3
def D_Store_u_init_u : VL.Def := ⟨3, [.io, .sh, .sh], b_Store_u_init_u_4, .val⟩
def b_Store_ask_0 : VL.Ss := .cons (.ret (.var 2)) .nil
def b_Store_ask_1 : VL.Ss := .cons (.appf 0 "past" [1, 2]) b_Store_ask_0
def b_Store_ask_2 : VL.Ss := .cons (.asg (.tp [(.nm 2), (.fl 0 "now")]) (.call "make_ask" (.sh (.fld 0 "held") (.sh (.fld 0 "now") (.sh (.var 1) .nil))))) b_Store_ask_1
def b_Store_ask_3 : VL.Ss := .cons (.ex (.call "need_item" (.sh (.idx (.fld 0 "held") (.lit (.int (0)))) (.sh (.var 1) .nil)))) b_Store_ask_2
def D_Store_ask : VL.Def := ⟨3, [.io, .sh], b_Store_ask_3, .val⟩
def b_Store_rule_0 : VL.Ss := .cons (.ret (.fld 0 "held")) .nil
def D_Store_rule : VL.Def := ⟨1, [.io], b_Store_rule_0, .val⟩
def b_Store_standing_0 : VL.Ss := .cons (.ret (.fld 0 "now")) .nil
def D_Store_standing : VL.Def := ⟨1, [.io], b_Store_standing_0, .val⟩
def b_Store_asked_0 : VL.Ss := .cons (.ret (.lfld 0 "past")) .nil
def D_Store_asked : VL.Def := ⟨1, [.io], b_Store_asked_0, .val⟩
def b__law_drawn_standing_0 : VL.Ss := .cons (.ret (.tup (.cons false (.call "_law_drawn_order" (.io 0 (.sh (.idx (.var 1) (.lit (.int (0)))) .nil))) (.cons false (.bi .tuple (.cons false (.comp (.call "_law_take" (.io 0 (.sh (.idx (.var 1) (.lit (.int (1)))) .nil))) (.nm 2) (.range (.idx (.var 1) (.lit (.int (0))))) .no [2]) .nil)) .nil)))) .nil
def D__law_drawn_standing : VL.Def := ⟨3, [.io, .sh], b__law_drawn_standing_0, .val⟩
def b__law_is_standing_0 : VL.Ss := .cons (.ret (.op2 (.cmp .Eq) (.comp (.var 2) (.nm 2) (.ex (.idx (.var 1) (.lit (.int (1))))) (.so (.not (.call "_law_below" (.sh (.var 2) (.sh (.idx (.var 0) (.lit (.int (1)))) .nil))))) [2]) (.lst .nil))) .nil
def b__law_is_standing_1 : VL.Ss := .cons (.ret (.lit (.bool false))) .nil
def b__law_is_standing_2 : VL.Ss := .cons (.ite (.or (.cons false (.not (.isin "tuple" (.idx (.var 1) (.lit (.int (1)))))) (.cons false (.op2 (.cmp .NotEq) (.bi .len (.cons false (.idx (.var 1) (.lit (.int (1)))) .nil)) (.idx (.var 0) (.lit (.int (0))))) .nil))) b__law_is_standing_1 .nil) b__law_is_standing_0
def b__law_is_standing_3 : VL.Ss := .cons (.ret (.lit (.bool false))) .nil
def b__law_is_standing_4 : VL.Ss := .cons (.ite (.or (.cons false (.not (.isin "tuple" (.var 1))) (.cons false (.op2 (.cmp .NotEq) (.bi .len (.cons false (.var 1) .nil)) (.lit (.int (2)))) (.cons false (.not (.call "_law_is_order" (.sh (.idx (.var 0) (.lit (.int (0)))) (.sh (.idx (.var 1) (.lit (.int (0)))) .nil)))) .nil)))) b__law_is_standing_3 .nil) b__law_is_standing_2
def D__law_is_standing : VL.Def := ⟨3, [.sh, .sh], b__law_is_standing_4, .val⟩
def b__law_ask_0 : VL.Ss := .cons (.ret (.tup (.cons false (.var 3) (.cons false (.tup (.cons false (.bi .tuple (.cons false (.var 4) .nil)) (.cons false (.bi .tuple (.cons false (.var 5) .nil)) .nil))) .nil)))) .nil
def b__law_ask_1 : VL.Ss := .cons (.seti 5 (.var 2) (.var 7)) b__law_ask_0
def b__law_ask_2 : VL.Ss := .cons (.ins 4 (.var 6) (.var 2)) b__law_ask_1
def b__law_ask_3 : VL.Ss := .cons (.ex (.pop 4 (.var 3))) b__law_ask_2
def b__law_ask_4 : VL.Ss := .cons (.asg (.tp [(.nm 6), (.nm 7)]) (.idx (.idx (.idx (.var 0) (.lit (.int (2)))) (.var 3)) (.idx (.var 5) (.var 2)))) b__law_ask_3
def b__law_ask_5 : VL.Ss := .cons (.set 3 (.v (.me .index (.var 4) (.var 2)))) b__law_ask_4
def b__law_ask_6 : VL.Ss := .cons (.par [4, 5] [(.o (.bi .list (.cons false (.idx (.var 1) (.lit (.int (0)))) .nil))), (.o (.bi .list (.cons false (.idx (.var 1) (.lit (.int (1)))) .nil)))]) b__law_ask_5
def D__law_ask : VL.Def := ⟨8, [.sh, .sh, .sh], b__law_ask_6, .val⟩
def b__law_run_0 : VL.Ss := .cons (.ret (.tup (.cons false (.var 3) (.cons false (.var 1) .nil)))) .nil
def b__law_run_1 : VL.Ss := .cons (.app 3 (.var 5)) .nil
def b__law_run_2 : VL.Ss := .cons (.asg (.tp [(.nm 5), (.nm 1)]) (.call "_law_ask" (.sh (.var 0) (.sh (.var 1) (.sh (.var 4) .nil))))) b__law_run_1
def b__law_run_3 : VL.Ss := .cons (.for_ (.nm 4) (.ex (.var 2)) b__law_run_2) b__law_run_0
def b__law_run_4 : VL.Ss := .cons (.set 3 (.o (.lst .nil))) b__law_run_3
def D__law_run : VL.Def := ⟨6, [.sh, .sh, .sh], b__law_run_4, .val⟩
def b__law_standings_0 : VL.Ss := .cons (.ret (.var 1)) .nil
def b__law_standings_1 : VL.Ss := .cons (.set 1 (.v (.op2 (.bin .Add) (.var 1) (.comp (.tup (.cons false (.var 2) (.cons false (.var 5) .nil))) (.nm 5) (.ex (.bi .sorted (.cons false (.var 3) .nil))) .no [5])))) .nil
def b__law_standings_2 : VL.Ss := .cons (.set 3 (.v (.op2 (.bin .Add) (.comp (.op2 (.bin .Add) (.var 5) (.tup (.cons false (.lit (.int (0))) .nil))) (.nm 5) (.ex (.var 3)) .no [5]) (.comp (.op2 (.bin .Add) (.var 5) (.tup (.cons false (.lit (.int (1))) .nil))) (.nm 5) (.ex (.var 3)) (.so (.op2 (.cmp .Eq) (.idx (.var 0) (.lit (.int (1)))) (.lit (.int (2))))) [5])))) .nil
def b__law_standings_3 : VL.Ss := .cons (.for_ (.nm 4) (.range (.idx (.var 0) (.lit (.int (0))))) b__law_standings_2) b__law_standings_1
def b__law_standings_4 : VL.Ss := .cons (.set 3 (.v (.lst (.cons false (.tup .nil) .nil)))) b__law_standings_3
def b__law_standings_5 : VL.Ss := .cons (.for_ (.nm 2) (.ex (.call "_law_orders" (.sh (.idx (.var 0) (.lit (.int (0)))) .nil))) b__law_standings_4) b__law_standings_0
def b__law_standings_6 : VL.Ss := .cons (.set 1 (.v (.lst .nil))) b__law_standings_5
def D__law_standings : VL.Def := ⟨6, [.sh], b__law_standings_6, .val⟩
def b_is_closed_without_0 : VL.Ss := .cons (.ret (.lit (.bool true))) .nil
def b_is_closed_without_1 : VL.Ss := .cons (.ret (.lit (.bool false))) .nil
def b_is_closed_without_2 : VL.Ss := .cons (.ite (.not (.bi .all (.cons false (.comp (.op2 (.cmp .In) (.idx (.call "make_ask" (.sh (.var 0) (.sh (.var 4) (.sh (.var 5) .nil)))) (.lit (.int (1)))) (.var 3)) (.nm 5) (.range (.idx (.var 0) (.lit (.int (0))))) .no [5]) .nil))) b_is_closed_without_1 .nil) .nil
def b_is_closed_without_3 : VL.Ss := .cons (.for_ (.nm 4) (.ex (.var 3)) b_is_closed_without_2) b_is_closed_without_0
def b_is_closed_without_4 : VL.Ss := .cons (.ret (.lit (.bool false))) .nil
def b_is_closed_without_5 : VL.Ss := .cons (.ite (.op2 (.cmp .NotIn) (.var 1) (.var 3)) b_is_closed_without_4 .nil) b_is_closed_without_3
def b_is_closed_without_6 : VL.Ss := .cons (.ret (.lit (.bool false))) .nil
def b_is_closed_without_7 : VL.Ss := .cons (.ite (.or (.cons false (.not (.isin "list" (.var 3))) (.cons false (.not (.bi .all (.cons false (.comp (.and (.cons false (.call "is_standing_of" (.sh (.var 0) (.sh (.var 4) .nil))) (.cons false (.op2 (.cmp .NotEq) (.idx (.var 4) (.lit (.int (0)))) (.var 2)) .nil))) (.nm 4) (.ex (.var 3)) .no [4]) .nil))) .nil))) b_is_closed_without_6 .nil) b_is_closed_without_5
def D_is_closed_without : VL.Def := ⟨6, [.sh, .sh, .sh, .sh], b_is_closed_without_7, .val⟩
def b_need_order_of_0 : VL.Ss := .cons .never .nil
def b_need_order_of_1 : VL.Ss := .cons (.ite (.not (.call "is_order_of" (.sh (.var 0) (.sh (.var 1) .nil)))) b_need_order_of_0 .nil) .nil
def D_need_order_of : VL.Def := ⟨2, [.sh, .sh], b_need_order_of_1, .val⟩
def b_need_way_0 : VL.Ss := .cons (.ex (.call "need_order_of" (.sh (.idx (.var 0) (.lit (.int (0)))) (.sh (.var 2) .nil)))) .nil
def b_need_way_1 : VL.Ss := .cons (.ex (.call "need_standing" (.sh (.var 0) (.sh (.var 1) .nil)))) b_need_way_0
def b_need_way_2 : VL.Ss := .cons (.ex (.call "need_rule" (.sh (.var 0) .nil))) b_need_way_1
def D_need_way : VL.Def := ⟨3, [.sh, .sh, .sh], b_need_way_2, .val⟩
def b_reached_0 : VL.Ss := .cons (.ret (.bi .sorted (.cons false (.bi .list (.cons false (.call "find_ways" (.sh (.var 0) (.sh (.var 1) .nil))) .nil)) .nil))) .nil
def b_reached_1 : VL.Ss := .cons (.ex (.call "need_standing" (.sh (.var 0) (.sh (.var 1) .nil)))) b_reached_0
def b_reached_2 : VL.Ss := .cons (.ex (.call "need_rule" (.sh (.var 0) .nil))) b_reached_1
def D_reached : VL.Def := ⟨2, [.sh, .sh], b_reached_2, .val⟩
def b_least_way_0 : VL.Ss := .cons (.ret (.call "find_least_way" (.sh (.var 0) (.sh (.var 1) (.sh (.var 2) .nil))))) .nil
def b_least_way_1 : VL.Ss := .cons (.ex (.call "need_way" (.sh (.var 0) (.sh (.var 1) (.sh (.var 2) .nil))))) b_least_way_0
def D_least_way : VL.Def := ⟨3, [.sh, .sh, .sh], b_least_way_1, .val⟩
def b_no_way_0 : VL.Ss := .cons (.ret (.ite (.bi .any (.cons false (.comp (.op2 (.cmp .Eq) (.idx (.var 4) (.lit (.int (0)))) (.var 2)) (.nm 4) (.ex (.var 3)) .no [4]) .nil)) (.lit .none) (.var 3))) .nil
def b_no_way_1 : VL.Ss := .cons (.set 3 (.v (.bi .sorted (.cons false (.bi .list (.cons false (.call "find_ways" (.sh (.var 0) (.sh (.var 1) .nil))) .nil)) .nil)))) b_no_way_0
def b_no_way_2 : VL.Ss := .cons (.ex (.call "need_way" (.sh (.var 0) (.sh (.var 1) (.sh (.var 2) .nil))))) b_no_way_1
def D_no_way : VL.Def := ⟨5, [.sh, .sh, .sh], b_no_way_2, .val⟩
def b_is_no_way_0 : VL.Ss := .cons (.ret (.call "is_closed_without" (.sh (.var 0) (.sh (.var 1) (.sh (.var 2) (.sh (.var 3) .nil)))))) .nil
def b_is_no_way_1 : VL.Ss := .cons (.ex (.call "need_way" (.sh (.var 0) (.sh (.var 1) (.sh (.var 2) .nil))))) b_is_no_way_0
def D_is_no_way : VL.Def := ⟨4, [.sh, .sh, .sh, .sh], b_is_no_way_1, .val⟩
def b_are_rules_of_0 : VL.Ss := .cons (.ret (.bi .all (.cons false (.comp (.op2 (.cmp .Eq) (.idx (.var 1) (.lit (.int (0)))) (.idx (.idx (.var 0) (.lit (.int (0)))) (.lit (.int (0))))) (.nm 1) (.ex (.var 0)) .no [1]) .nil))) .nil
def b_are_rules_of_1 : VL.Ss := .cons (.ret (.lit (.bool false))) .nil
def b_are_rules_of_2 : VL.Ss := .cons (.ite (.not (.bi .all (.cons false (.comp (.call "is_rule" (.sh (.var 1) .nil)) (.nm 1) (.ex (.var 0)) .no [1]) .nil))) b_are_rules_of_1 .nil) b_are_rules_of_0
def b_are_rules_of_3 : VL.Ss := .cons (.ret (.lit (.bool false))) .nil
def b_are_rules_of_4 : VL.Ss := .cons (.ite (.or (.cons false (.not (.isin "tuple" (.var 0))) (.cons false (.not (.chain .LtE .LtE (.lit (.int (1))) (.bi .len (.cons false (.var 0) .nil)) (.glb "MOST_RULES" (.int (3))))) .nil))) b_are_rules_of_3 .nil) b_are_rules_of_2
def D_are_rules_of : VL.Def := ⟨2, [.sh], b_are_rules_of_4, .val⟩
def b_is_case_of_0 : VL.Ss := .cons (.ret (.call "is_standing_of" (.sh (.idx (.var 0) (.idx (.var 1) (.lit (.int (0))))) (.sh (.idx (.var 1) (.lit (.int (1)))) .nil)))) .nil
def b_is_case_of_1 : VL.Ss := .cons (.ret (.lit (.bool false))) .nil
def b_is_case_of_2 : VL.Ss := .cons (.ite (.or (.cons false (.not (.isin "tuple" (.var 1))) (.cons false (.op2 (.cmp .NotEq) (.bi .len (.cons false (.var 1) .nil)) (.lit (.int (2)))) (.cons false (.not (.call "is_below" (.sh (.idx (.var 1) (.lit (.int (0)))) (.sh (.bi .len (.cons false (.var 0) .nil)) .nil)))) .nil)))) b_is_case_of_1 .nil) b_is_case_of_0
def D_is_case_of : VL.Def := ⟨2, [.sh, .sh], b_is_case_of_2, .val⟩
def b_need_rules_0 : VL.Ss := .cons .never .nil
def b_need_rules_1 : VL.Ss := .cons (.ite (.not (.call "are_rules_of" (.sh (.var 0) .nil))) b_need_rules_0 .nil) .nil
def D_need_rules : VL.Def := ⟨1, [.sh], b_need_rules_1, .val⟩
def b_need_case_0 : VL.Ss := .cons .never .nil
def b_need_case_1 : VL.Ss := .cons (.ite (.not (.call "is_case_of" (.sh (.var 0) (.sh (.var 1) .nil)))) b_need_case_0 .nil) .nil
def D_need_case : VL.Def := ⟨2, [.sh, .sh], b_need_case_1, .val⟩
def b_ask_case_0 : VL.Ss := .cons (.ret (.tup (.cons false (.var 3) (.cons false (.tup (.cons false (.idx (.var 1) (.lit (.int (0)))) (.cons false (.var 4) .nil))) .nil)))) .nil
def b_ask_case_1 : VL.Ss := .cons (.asg (.tp [(.nm 3), (.nm 4)]) (.call "make_ask" (.sh (.idx (.var 0) (.idx (.var 1) (.lit (.int (0))))) (.sh (.idx (.var 1) (.lit (.int (1)))) (.sh (.var 2) .nil))))) b_ask_case_0
def D_ask_case : VL.Def := ⟨5, [.sh, .sh, .sh], b_ask_case_1, .val⟩
def b_do_part_0 : VL.Ss := .cons (.ret (.lit (.bool false))) .nil
def b_do_part_1 : VL.Ss := .cons (.par [1, 2] [(.v (.idx (.var 5) (.lit (.int (1))))), (.v (.idx (.var 6) (.lit (.int (1)))))]) .nil
def b_do_part_2 : VL.Ss := .cons (.ret (.lit (.bool true))) .nil
def b_do_part_3 : VL.Ss := .cons (.ite (.op2 (.cmp .NotEq) (.idx (.var 5) (.lit (.int (0)))) (.idx (.var 6) (.lit (.int (0))))) b_do_part_2 .nil) b_do_part_1
def b_do_part_4 : VL.Ss := .cons (.par [5, 6] [(.v (.call "ask_case" (.sh (.var 0) (.sh (.var 1) (.sh (.var 4) .nil))))), (.v (.call "ask_case" (.sh (.var 0) (.sh (.var 2) (.sh (.var 4) .nil)))))]) b_do_part_3
def b_do_part_5 : VL.Ss := .cons (.for_ (.nm 4) (.ex (.var 3)) b_do_part_4) b_do_part_0
def D_do_part : VL.Def := ⟨7, [.sh, .sh, .sh, .sh], b_do_part_5, .val⟩
def b_need_cases_0 : VL.Ss := .cons (.ex (.call "need_case" (.sh (.var 0) (.sh (.var 2) .nil)))) .nil
def b_need_cases_1 : VL.Ss := .cons (.ex (.call "need_case" (.sh (.var 0) (.sh (.var 1) .nil)))) b_need_cases_0
def b_need_cases_2 : VL.Ss := .cons (.ex (.call "need_rules" (.sh (.var 0) .nil))) b_need_cases_1
def D_need_cases : VL.Def := ⟨3, [.sh, .sh, .sh], b_need_cases_2, .val⟩
def b_parting_asks_0 : VL.Ss := .cons (.ret (.call "find_parting" (.sh (.var 0) (.sh (.var 1) (.sh (.var 2) .nil))))) .nil
def b_parting_asks_1 : VL.Ss := .cons (.ex (.call "need_cases" (.sh (.var 0) (.sh (.var 1) (.sh (.var 2) .nil))))) b_parting_asks_0
def D_parting_asks : VL.Def := ⟨3, [.sh, .sh, .sh], b_parting_asks_1, .val⟩
def b_parted_by_0 : VL.Ss := .cons (.ret (.call "do_part" (.sh (.var 0) (.sh (.var 1) (.sh (.var 2) (.sh (.var 3) .nil)))))) .nil
def b_parted_by_1 : VL.Ss := .cons (.ex (.call "need_asks" (.sh (.idx (.idx (.var 0) (.lit (.int (0)))) (.lit (.int (0)))) (.sh (.var 3) .nil)))) b_parted_by_0
def b_parted_by_2 : VL.Ss := .cons (.ex (.call "need_cases" (.sh (.var 0) (.sh (.var 1) (.sh (.var 2) .nil))))) b_parted_by_1
def D_parted_by : VL.Def := ⟨4, [.sh, .sh, .sh, .sh], b_parted_by_2, .val⟩
def b__law_drawn_rules_0 : VL.Ss := .cons (.ret (.bi .tuple (.cons false (.var 2) .nil))) .nil
def b__law_drawn_rules_1 : VL.Ss := .cons (.app 2 (.call "_law_one" (.io 0 (.sh (.var 4) .nil)))) .nil
def b__law_drawn_rules_2 : VL.Ss := .cons (.set 4 (.v (.lst (.cons false (.idx (.var 2) (.lit (.int (0)))) (.cons false (.call "_law_drawn_rule" (.ioc "_law_anew" 0 (.sh (.var 1) .nil))) (.cons false (.call "_law_drawn_rule" (.io 0 (.sh (.var 1) .nil))) .nil)))))) b__law_drawn_rules_1
def b__law_drawn_rules_3 : VL.Ss := .cons (.for_ (.nm 3) (.range (.call "_law_one" (.io 0 (.sh (.lst (.cons false (.lit (.int (0))) (.cons false (.lit (.int (0))) (.cons false (.lit (.int (1))) (.cons false (.lit (.int (1))) (.cons false (.lit (.int (2))) .nil)))))) .nil)))) b__law_drawn_rules_2) b__law_drawn_rules_0
def b__law_drawn_rules_4 : VL.Ss := .cons (.set 2 (.o (.lst (.cons false (.call "_law_drawn_rule" (.ioc "_law_anew" 0 (.sh (.var 1) .nil))) .nil)))) b__law_drawn_rules_3
def D__law_drawn_rules : VL.Def := ⟨5, [.io, .sh], b__law_drawn_rules_4, .val⟩
def b__law_ask_case_0 : VL.Ss := .cons (.ret (.tup (.cons false (.var 3) (.cons false (.tup (.cons false (.idx (.var 1) (.lit (.int (0)))) (.cons false (.var 4) .nil))) .nil)))) .nil
def b__law_ask_case_1 : VL.Ss := .cons (.asg (.tp [(.nm 3), (.nm 4)]) (.call "_law_ask" (.sh (.idx (.var 0) (.idx (.var 1) (.lit (.int (0))))) (.sh (.idx (.var 1) (.lit (.int (1)))) (.sh (.var 2) .nil))))) b__law_ask_case_0
def D__law_ask_case : VL.Def := ⟨5, [.sh, .sh, .sh], b__law_ask_case_1, .val⟩
def b_is_lot_of_0 : VL.Ss := .cons (.ret (.bi .all (.cons false (.comp (.op2 (.cmp .Lt) (.var 3) (.var 4)) (.tp [(.nm 3), (.nm 4)]) (.zip (.var 1) (.slc (.var 1) (.so (.lit (.int (1)))) .no)) .no [3, 4]) .nil))) .nil
def b_is_lot_of_1 : VL.Ss := .cons (.ret (.lit (.bool false))) .nil
def b_is_lot_of_2 : VL.Ss := .cons (.ite (.not (.bi .all (.cons false (.comp (.call "is_case_of" (.sh (.var 0) (.sh (.var 2) .nil))) (.nm 2) (.ex (.var 1)) .no [2]) .nil))) b_is_lot_of_1 .nil) b_is_lot_of_0
def b_is_lot_of_3 : VL.Ss := .cons (.ret (.lit (.bool false))) .nil
def b_is_lot_of_4 : VL.Ss := .cons (.ite (.or (.cons false (.not (.isin "tuple" (.var 1))) (.cons false (.not (.chain .LtE .LtE (.lit (.int (1))) (.bi .len (.cons false (.var 1) .nil)) (.glb "MOST_CASES" (.int (48))))) .nil))) b_is_lot_of_3 .nil) b_is_lot_of_2
def D_is_lot_of : VL.Def := ⟨5, [.sh, .sh], b_is_lot_of_4, .val⟩
def b_is_log_of_0 : VL.Ss := .cons (.ret (.bi .all (.cons false (.comp (.and (.cons false (.call "is_below" (.sh (.var 2) (.sh (.var 0) .nil))) (.cons false (.call "is_below" (.sh (.var 3) (.sh (.var 0) .nil))) .nil))) (.tp [(.nm 2), (.nm 3)]) (.ex (.var 1)) .no [2, 3]) .nil))) .nil
def b_is_log_of_1 : VL.Ss := .cons (.ret (.lit (.bool false))) .nil
def b_is_log_of_2 : VL.Ss := .cons (.ite (.or (.cons false (.not (.isin "tuple" (.var 1))) (.cons false (.not (.bi .all (.cons false (.comp (.and (.cons false (.isin "tuple" (.var 4)) (.cons false (.op2 (.cmp .Eq) (.bi .len (.cons false (.var 4) .nil)) (.lit (.int (2)))) .nil))) (.nm 4) (.ex (.var 1)) .no [4]) .nil))) .nil))) b_is_log_of_1 .nil) b_is_log_of_0
def D_is_log_of : VL.Def := ⟨5, [.sh, .sh], b_is_log_of_2, .val⟩
def b_need_lot_0 : VL.Ss := .cons .never .nil
def b_need_lot_1 : VL.Ss := .cons (.ite (.not (.call "is_lot_of" (.sh (.var 0) (.sh (.var 1) .nil)))) b_need_lot_0 .nil) .nil
def b_need_lot_2 : VL.Ss := .cons (.ex (.call "need_rules" (.sh (.var 0) .nil))) b_need_lot_1
def D_need_lot : VL.Def := ⟨2, [.sh, .sh], b_need_lot_2, .val⟩
def b_does_fit_0 : VL.Ss := .cons (.ret (.lit (.bool true))) .nil
def b_does_fit_1 : VL.Ss := .cons (.ret (.lit (.bool false))) .nil
def b_does_fit_2 : VL.Ss := .cons (.ite (.op2 (.cmp .NotEq) (.var 5) (.var 4)) b_does_fit_1 .nil) .nil
def b_does_fit_3 : VL.Ss := .cons (.asg (.tp [(.nm 5), (.nm 1)]) (.call "ask_case" (.sh (.var 0) (.sh (.var 1) (.sh (.var 3) .nil))))) b_does_fit_2
def b_does_fit_4 : VL.Ss := .cons (.for_ (.tp [(.nm 3), (.nm 4)]) (.ex (.var 2)) b_does_fit_3) b_does_fit_0
def D_does_fit : VL.Def := ⟨6, [.sh, .sh, .sh], b_does_fit_4, .val⟩
def b_answers_0 : VL.Ss := .cons (.ret (.bi .list (.cons false (.call "find_behind" (.sh (.var 0) (.sh (.var 1) (.sh (.var 2) .nil)))) .nil))) .nil
def b_answers_1 : VL.Ss := .cons (.ex (.call "need_item" (.sh (.idx (.idx (.var 0) (.lit (.int (0)))) (.lit (.int (0)))) (.sh (.var 2) .nil)))) b_answers_0
def b_answers_2 : VL.Ss := .cons (.ex (.call "need_lot" (.sh (.var 0) (.sh (.var 1) .nil)))) b_answers_1
def D_answers : VL.Def := ⟨3, [.sh, .sh, .sh], b_answers_2, .val⟩
def b_behind_0 : VL.Ss := .cons (.ret (.idx (.var 4) (.var 3))) .nil
def b_behind_1 : VL.Ss := .cons .never .nil
def b_behind_2 : VL.Ss := .cons (.ite (.or (.cons false (.not (.call "is_below" (.sh (.var 3) (.sh (.idx (.idx (.var 0) (.lit (.int (0)))) (.lit (.int (0)))) .nil)))) (.cons false (.op2 (.cmp .NotIn) (.var 3) (.var 4)) .nil))) b_behind_1 .nil) b_behind_0
def b_behind_3 : VL.Ss := .cons (.set 4 (.v (.call "find_behind" (.sh (.var 0) (.sh (.var 1) (.sh (.var 2) .nil)))))) b_behind_2
def b_behind_4 : VL.Ss := .cons (.ex (.call "need_item" (.sh (.idx (.idx (.var 0) (.lit (.int (0)))) (.lit (.int (0)))) (.sh (.var 2) .nil)))) b_behind_3
def b_behind_5 : VL.Ss := .cons (.ex (.call "need_lot" (.sh (.var 0) (.sh (.var 1) .nil)))) b_behind_4
def D_behind : VL.Def := ⟨5, [.sh, .sh, .sh, .sh], b_behind_5, .val⟩
def b_fitting_0 : VL.Ss := .cons (.ret (.comp (.var 3) (.nm 3) (.ex (.var 1)) (.so (.call "does_fit" (.sh (.var 0) (.sh (.var 3) (.sh (.var 2) .nil))))) [3])) .nil
def b_fitting_1 : VL.Ss := .cons .never .nil
def b_fitting_2 : VL.Ss := .cons (.ite (.not (.call "is_log_of" (.sh (.idx (.idx (.var 0) (.lit (.int (0)))) (.lit (.int (0)))) (.sh (.var 2) .nil)))) b_fitting_1 .nil) b_fitting_0
def b_fitting_3 : VL.Ss := .cons (.ex (.call "need_lot" (.sh (.var 0) (.sh (.var 1) .nil)))) b_fitting_2
def D_fitting : VL.Def := ⟨4, [.sh, .sh, .sh], b_fitting_3, .val⟩
def b_coming_0 : VL.Ss := .cons (.ret (.bi .sorted (.cons false (.call "find_coming" (.sh (.var 0) (.sh (.var 1) .nil))) .nil))) .nil
def b_coming_1 : VL.Ss := .cons (.ex (.call "need_lot" (.sh (.var 0) (.sh (.var 1) .nil)))) b_coming_0
def D_coming : VL.Def := ⟨2, [.sh, .sh], b_coming_1, .val⟩
def b__law_first_0 : VL.Ss := .cons (.ret (.bi .tuple (.cons false (.var 1) .nil))) .nil
def b__law_first_1 : VL.Ss := .cons (.set 1 (.v (.op2 (.bin .Add) (.var 1) (.comp (.tup (.cons false (.var 2) (.cons false (.tup (.cons false (.var 3) (.cons false (.op2 (.bin .Mult) (.tup (.cons false (.lit (.int (0))) .nil)) (.idx (.idx (.var 0) (.lit (.int (0)))) (.lit (.int (0))))) .nil))) .nil))) (.nm 3) (.ex (.call "_law_orders" (.sh (.idx (.idx (.var 0) (.lit (.int (0)))) (.lit (.int (0)))) .nil))) .no [3])))) .nil
def b__law_first_2 : VL.Ss := .cons (.for_ (.nm 2) (.range (.bi .len (.cons false (.var 0) .nil))) b__law_first_1) b__law_first_0
def b__law_first_3 : VL.Ss := .cons (.set 1 (.v (.lst .nil))) b__law_first_2
def D__law_first : VL.Def := ⟨4, [.sh], b__law_first_3, .val⟩
def b_is_goal_of_0 : VL.Ss := .cons (.ret (.and (.cons false (.op2 (.cmp .Eq) (.idx (.var 1) (.lit (.int (0)))) (.lit (.str "front"))) (.cons false (.call "is_below" (.sh (.idx (.var 1) (.lit (.int (1)))) (.sh (.idx (.idx (.var 0) (.lit (.int (0)))) (.lit (.int (0)))) .nil))) .nil)))) .nil
def b_is_goal_of_1 : VL.Ss := .cons (.ret (.call "is_order_of" (.sh (.idx (.idx (.var 0) (.lit (.int (0)))) (.lit (.int (0)))) (.sh (.idx (.var 1) (.lit (.int (1)))) .nil)))) .nil
def b_is_goal_of_2 : VL.Ss := .cons (.ite (.op2 (.cmp .Eq) (.idx (.var 1) (.lit (.int (0)))) (.lit (.str "sorted"))) b_is_goal_of_1 .nil) b_is_goal_of_0
def b_is_goal_of_3 : VL.Ss := .cons (.ret (.lit (.bool false))) .nil
def b_is_goal_of_4 : VL.Ss := .cons (.ite (.op2 (.cmp .NotEq) (.bi .len (.cons false (.var 1) .nil)) (.lit (.int (2)))) b_is_goal_of_3 .nil) b_is_goal_of_2
def b_is_goal_of_5 : VL.Ss := .cons (.ret (.op2 (.cmp .Eq) (.bi .len (.cons false (.var 1) .nil)) (.lit (.int (1))))) .nil
def b_is_goal_of_6 : VL.Ss := .cons (.ite (.op2 (.cmp .In) (.idx (.var 1) (.lit (.int (0)))) (.glb "PLAIN" (.tuple [(.str "order"), (.str "rule"), (.str "case")]))) b_is_goal_of_5 .nil) b_is_goal_of_4
def b_is_goal_of_7 : VL.Ss := .cons (.ret (.lit (.bool false))) .nil
def b_is_goal_of_8 : VL.Ss := .cons (.ite (.or (.cons false (.not (.isin "tuple" (.var 1))) (.cons false (.op2 (.cmp .Eq) (.var 1) (.tup .nil)) (.cons false (.not (.isin "str" (.idx (.var 1) (.lit (.int (0)))))) .nil)))) b_is_goal_of_7 .nil) b_is_goal_of_6
def D_is_goal_of : VL.Def := ⟨2, [.sh, .sh], b_is_goal_of_8, .val⟩
def b_does_reach_0 : VL.Ss := .cons (.ret (.bi .all (.cons false (.comp (.op2 (.cmp .Eq) (.idx (.idx (.var 3) (.lit (.int (1)))) (.lit (.int (0)))) (.var 2)) (.nm 3) (.ex (.var 0)) .no [3]) .nil))) .nil
def b_does_reach_1 : VL.Ss := .cons (.set 2 (.v (.ite (.op2 (.cmp .Eq) (.idx (.var 1) (.lit (.int (0)))) (.lit (.str "sorted"))) (.idx (.var 1) (.lit (.int (1)))) (.idx (.idx (.idx (.var 0) (.lit (.int (0)))) (.lit (.int (1)))) (.lit (.int (0))))))) b_does_reach_0
def b_does_reach_2 : VL.Ss := .cons (.ret (.bi .all (.cons false (.comp (.op2 (.cmp .Eq) (.idx (.idx (.idx (.var 3) (.lit (.int (1)))) (.lit (.int (0)))) (.lit (.int (0)))) (.idx (.var 1) (.lit (.int (1))))) (.nm 3) (.ex (.var 0)) .no [3]) .nil))) .nil
def b_does_reach_3 : VL.Ss := .cons (.ite (.op2 (.cmp .Eq) (.idx (.var 1) (.lit (.int (0)))) (.lit (.str "front"))) b_does_reach_2 .nil) b_does_reach_1
def b_does_reach_4 : VL.Ss := .cons (.ret (.bi .all (.cons false (.comp (.op2 (.cmp .Eq) (.idx (.var 3) (.lit (.int (0)))) (.idx (.idx (.var 0) (.lit (.int (0)))) (.lit (.int (0))))) (.nm 3) (.ex (.var 0)) .no [3]) .nil))) .nil
def b_does_reach_5 : VL.Ss := .cons (.ite (.op2 (.cmp .Eq) (.idx (.var 1) (.lit (.int (0)))) (.lit (.str "rule"))) b_does_reach_4 .nil) b_does_reach_3
def b_does_reach_6 : VL.Ss := .cons (.ret (.op2 (.cmp .Eq) (.bi .len (.cons false (.var 0) .nil)) (.lit (.int (1))))) .nil
def b_does_reach_7 : VL.Ss := .cons (.ite (.op2 (.cmp .Eq) (.idx (.var 1) (.lit (.int (0)))) (.lit (.str "case"))) b_does_reach_6 .nil) b_does_reach_5
def D_does_reach : VL.Def := ⟨4, [.sh, .sh], b_does_reach_7, .val⟩
def b_need_goal_0 : VL.Ss := .cons .never .nil
def b_need_goal_1 : VL.Ss := .cons (.ite (.not (.call "is_goal_of" (.sh (.var 0) (.sh (.var 2) .nil)))) b_need_goal_0 .nil) .nil
def b_need_goal_2 : VL.Ss := .cons (.ex (.call "need_lot" (.sh (.var 0) (.sh (.var 1) .nil)))) b_need_goal_1
def D_need_goal : VL.Def := ⟨3, [.sh, .sh, .sh], b_need_goal_2, .val⟩
def b_is_goal_0 : VL.Ss := .cons (.ret (.call "is_goal_of" (.sh (.var 0) (.sh (.var 1) .nil)))) .nil
def b_is_goal_1 : VL.Ss := .cons (.ex (.call "need_rules" (.sh (.var 0) .nil))) b_is_goal_0
def D_is_goal : VL.Def := ⟨2, [.sh, .sh], b_is_goal_1, .val⟩
def b_reaches_0 : VL.Ss := .cons (.ret (.call "does_reach" (.sh (.var 1) (.sh (.var 2) .nil)))) .nil
def b_reaches_1 : VL.Ss := .cons (.ex (.call "need_goal" (.sh (.var 0) (.sh (.var 1) (.sh (.var 2) .nil))))) b_reaches_0
def D_reaches : VL.Def := ⟨3, [.sh, .sh, .sh], b_reaches_1, .val⟩
def b__law_is_goal_0 : VL.Ss := .cons (.ret (.ite (.op2 (.cmp .Eq) (.idx (.var 1) (.lit (.int (0)))) (.lit (.str "sorted"))) (.call "_law_is_order" (.sh (.var 0) (.sh (.idx (.var 1) (.lit (.int (1)))) .nil))) (.call "_law_below" (.sh (.idx (.var 1) (.lit (.int (1)))) (.sh (.var 0) .nil))))) .nil
def b__law_is_goal_1 : VL.Ss := .cons (.ret (.lit (.bool false))) .nil
def b__law_is_goal_2 : VL.Ss := .cons (.ite (.or (.cons false (.op2 (.cmp .NotEq) (.bi .len (.cons false (.var 1) .nil)) (.lit (.int (2)))) (.cons false (.op2 (.cmp .NotIn) (.idx (.var 1) (.lit (.int (0)))) (.tup (.cons false (.lit (.str "sorted")) (.cons false (.lit (.str "front")) .nil)))) .nil))) b__law_is_goal_1 .nil) b__law_is_goal_0
def b__law_is_goal_3 : VL.Ss := .cons (.ret (.op2 (.cmp .Eq) (.bi .len (.cons false (.var 1) .nil)) (.lit (.int (1))))) .nil
def b__law_is_goal_4 : VL.Ss := .cons (.ite (.op2 (.cmp .In) (.idx (.var 1) (.lit (.int (0)))) (.tup (.cons false (.lit (.str "order")) (.cons false (.lit (.str "rule")) (.cons false (.lit (.str "case")) .nil))))) b__law_is_goal_3 .nil) b__law_is_goal_2
def b__law_is_goal_5 : VL.Ss := .cons (.ret (.lit (.bool false))) .nil
def b__law_is_goal_6 : VL.Ss := .cons (.ite (.or (.cons false (.not (.isin "tuple" (.var 1))) (.cons false (.op2 (.cmp .Eq) (.var 1) (.tup .nil)) (.cons false (.not (.isin "str" (.idx (.var 1) (.lit (.int (0)))))) .nil)))) b__law_is_goal_5 .nil) b__law_is_goal_4
def D__law_is_goal : VL.Def := ⟨2, [.sh, .sh], b__law_is_goal_6, .val⟩
def b_are_rules_0 : VL.Ss := .cons (.ret (.call "are_rules_of" (.sh (.var 0) .nil))) .nil
def D_are_rules : VL.Def := ⟨1, [.sh], b_are_rules_0, .val⟩
def b_is_lot_0 : VL.Ss := .cons (.ret (.call "is_lot_of" (.sh (.var 0) (.sh (.var 1) .nil)))) .nil
def b_is_lot_1 : VL.Ss := .cons (.ex (.call "need_rules" (.sh (.var 0) .nil))) b_is_lot_0
def D_is_lot : VL.Def := ⟨2, [.sh, .sh], b_is_lot_1, .val⟩
def b__law_is_case_0 : VL.Ss := .cons (.ret (.call "_law_is_standing" (.sh (.idx (.var 0) (.idx (.var 1) (.lit (.int (0))))) (.sh (.idx (.var 1) (.lit (.int (1)))) .nil)))) .nil
def b__law_is_case_1 : VL.Ss := .cons (.ret (.lit (.bool false))) .nil
def b__law_is_case_2 : VL.Ss := .cons (.ite (.or (.cons false (.not (.isin "tuple" (.var 1))) (.cons false (.op2 (.cmp .NotEq) (.bi .len (.cons false (.var 1) .nil)) (.lit (.int (2)))) (.cons false (.not (.call "_law_below" (.sh (.idx (.var 1) (.lit (.int (0)))) (.sh (.bi .len (.cons false (.var 0) .nil)) .nil)))) .nil)))) b__law_is_case_1 .nil) b__law_is_case_0
def D__law_is_case : VL.Def := ⟨2, [.sh, .sh], b__law_is_case_2, .val⟩
def b__law_is_lot_0 : VL.Ss := .cons (.ret (.op2 (.cmp .Eq) (.comp (.lit (.int (1))) (.tp [(.nm 3), (.nm 4)]) (.zip (.var 1) (.slc (.var 1) (.so (.lit (.int (1)))) .no)) (.so (.op2 (.cmp .GtE) (.var 3) (.var 4))) [3, 4]) (.lst .nil))) .nil
def b__law_is_lot_1 : VL.Ss := .cons (.ret (.lit (.bool false))) .nil
def b__law_is_lot_2 : VL.Ss := .cons (.ite (.op2 (.cmp .NotEq) (.comp (.var 2) (.nm 2) (.ex (.var 1)) (.so (.not (.call "_law_is_case" (.sh (.var 0) (.sh (.var 2) .nil))))) [2]) (.lst .nil)) b__law_is_lot_1 .nil) b__law_is_lot_0
def b__law_is_lot_3 : VL.Ss := .cons (.ret (.lit (.bool false))) .nil
def b__law_is_lot_4 : VL.Ss := .cons (.ite (.or (.cons false (.not (.isin "tuple" (.var 1))) (.cons false (.not (.chain .LtE .LtE (.lit (.int (1))) (.bi .len (.cons false (.var 1) .nil)) (.lit (.int (48))))) .nil))) b__law_is_lot_3 .nil) b__law_is_lot_2
def D__law_is_lot : VL.Def := ⟨5, [.sh, .sh], b__law_is_lot_4, .val⟩
def b_find_first_0 : VL.Ss := .cons (.ret (.lit .none)) .nil
def b_find_first_1 : VL.Ss := .cons (.ret (.var 4)) .nil
def b_find_first_2 : VL.Ss := .cons (.ite (.op2 (.cmp .Eq) (.call "price_of" (.sh (.var 2) (.sh (.call "find_behind" (.sh (.var 0) (.sh (.var 1) (.sh (.var 4) .nil)))) (.sh (.var 3) .nil)))) (.idx (.var 2) (.var 1))) b_find_first_1 .nil) .nil
def b_find_first_3 : VL.Ss := .cons (.for_ (.nm 4) (.range (.idx (.idx (.var 0) (.lit (.int (0)))) (.lit (.int (0))))) b_find_first_2) b_find_first_0
def D_find_first : VL.Def := ⟨5, [.sh, .sh, .sh, .sh], b_find_first_3, .val⟩
def b_make_tree_0 : VL.Ss := .cons (.ret (.tup (.cons false (.var 4) (.cons false (.bi .tuple (.cons false (.comp (.tup (.cons false (.var 6) (.cons false (.call "make_tree" (.sh (.var 0) (.sh (.idx (.var 5) (.var 6)) (.sh (.var 2) (.sh (.var 3) .nil))))) .nil))) (.nm 6) (.ex (.bi .sorted (.cons false (.var 5) .nil))) .no [6]) .nil)) .nil)))) .nil
def b_make_tree_1 : VL.Ss := .cons (.set 5 (.v (.call "find_behind" (.sh (.var 0) (.sh (.var 1) (.sh (.var 4) .nil)))))) b_make_tree_0
def b_make_tree_2 : VL.Ss := .cons (.set 4 (.v (.call "find_first" (.sh (.var 0) (.sh (.var 1) (.sh (.var 2) (.sh (.var 3) .nil))))))) b_make_tree_1
def b_make_tree_3 : VL.Ss := .cons (.ret (.tup .nil)) .nil
def b_make_tree_4 : VL.Ss := .cons (.ite (.op2 (.cmp .Eq) (.idx (.var 2) (.var 1)) (.lit (.int (0)))) b_make_tree_3 .nil) b_make_tree_2
def D_make_tree : VL.Def := ⟨7, [.sh, .sh, .sh, .sh], b_make_tree_4, .val⟩
def b_find_price_0 : VL.Ss := .cons (.ret (.bi .max (.cons false (.var 6) .nil))) .nil
def b_find_price_1 : VL.Ss := .cons (.app 6 (.op2 (.bin .Add) (.op2 (.bin .Add) (.var 9) (.op2 (.bin .Mult) (.var 4) (.var 7))) (.lit (.int (1))))) .nil
def b_find_price_2 : VL.Ss := .cons (.ret (.lit .none)) .nil
def b_find_price_3 : VL.Ss := .cons (.ite (.op2 (.cmp .Is) (.var 9) (.lit .none)) b_find_price_2 .nil) b_find_price_1
def b_find_price_4 : VL.Ss := .cons (.set 9 (.v (.call "find_price" (.sh (.var 0) (.sh (.idx (.var 5) (.var 7)) (.sh (.var 2) (.sh (.idx (.var 8) (.lit (.int (1)))) (.sh (.var 4) .nil)))))))) b_find_price_3
def b_find_price_5 : VL.Ss := .cons (.ret (.lit .none)) .nil
def b_find_price_6 : VL.Ss := .cons (.ite (.or (.cons false (.not (.isin "tuple" (.var 8))) (.cons false (.op2 (.cmp .NotEq) (.bi .len (.cons false (.var 8) .nil)) (.lit (.int (2)))) (.cons false (.not (.call "is_below" (.sh (.idx (.var 8) (.lit (.int (0)))) (.sh (.idx (.idx (.var 0) (.lit (.int (0)))) (.lit (.int (0)))) .nil)))) (.cons false (.op2 (.cmp .NotEq) (.idx (.var 8) (.lit (.int (0)))) (.var 7)) .nil))))) b_find_price_5 .nil) b_find_price_4
def b_find_price_7 : VL.Ss := .cons (.for_ (.tp [(.nm 7), (.nm 8)]) (.zip (.bi .sorted (.cons false (.var 5) .nil)) (.idx (.var 3) (.lit (.int (1))))) b_find_price_6) b_find_price_0
def b_find_price_8 : VL.Ss := .cons (.set 6 (.o (.lst .nil))) b_find_price_7
def b_find_price_9 : VL.Ss := .cons (.ret (.lit .none)) .nil
def b_find_price_10 : VL.Ss := .cons (.ite (.or (.cons false (.not (.isin "tuple" (.idx (.var 3) (.lit (.int (1)))))) (.cons false (.op2 (.cmp .NotEq) (.bi .len (.cons false (.idx (.var 3) (.lit (.int (1)))) .nil)) (.bi .len (.cons false (.var 5) .nil))) .nil))) b_find_price_9 .nil) b_find_price_8
def b_find_price_11 : VL.Ss := .cons (.set 5 (.v (.call "find_behind" (.sh (.var 0) (.sh (.var 1) (.sh (.idx (.var 3) (.lit (.int (0)))) .nil)))))) b_find_price_10
def b_find_price_12 : VL.Ss := .cons (.ret (.lit .none)) .nil
def b_find_price_13 : VL.Ss := .cons (.ite (.or (.cons false (.not (.isin "tuple" (.var 3))) (.cons false (.op2 (.cmp .NotEq) (.bi .len (.cons false (.var 3) .nil)) (.lit (.int (2)))) (.cons false (.not (.call "is_below" (.sh (.idx (.var 3) (.lit (.int (0)))) (.sh (.idx (.idx (.var 0) (.lit (.int (0)))) (.lit (.int (0)))) .nil)))) .nil)))) b_find_price_12 .nil) b_find_price_11
def b_find_price_14 : VL.Ss := .cons (.ret (.ite (.call "does_reach" (.sh (.var 1) (.sh (.var 2) .nil))) (.lit (.int (0))) (.lit .none))) .nil
def b_find_price_15 : VL.Ss := .cons (.ite (.and (.cons false (.op2 (.cmp .Eq) (.var 3) (.tup .nil)) (.cons false (.isin "tuple" (.var 3)) .nil))) b_find_price_14 .nil) b_find_price_13
def D_find_price : VL.Def := ⟨10, [.sh, .sh, .sh, .sh, .sh], b_find_price_15, .val⟩
def b_least_asks_0 : VL.Ss := .cons (.ret (.idx (.call "find_values" (.sh (.var 0) (.sh (.var 1) (.sh (.var 2) (.sh (.lit (.int (0))) .nil))))) (.var 1))) .nil
def b_least_asks_1 : VL.Ss := .cons (.ex (.call "need_goal" (.sh (.var 0) (.sh (.var 1) (.sh (.var 2) .nil))))) b_least_asks_0
def D_least_asks : VL.Def := ⟨3, [.sh, .sh, .sh], b_least_asks_1, .val⟩
def b_best_tree_0 : VL.Ss := .cons (.ret (.ite (.op2 (.cmp .Is) (.idx (.var 3) (.var 1)) (.lit .none)) (.lit .none) (.call "make_tree" (.sh (.var 0) (.sh (.var 1) (.sh (.var 3) (.sh (.lit (.int (0))) .nil))))))) .nil
def b_best_tree_1 : VL.Ss := .cons (.set 3 (.v (.call "find_values" (.sh (.var 0) (.sh (.var 1) (.sh (.var 2) (.sh (.lit (.int (0))) .nil))))))) b_best_tree_0
def b_best_tree_2 : VL.Ss := .cons (.ex (.call "need_goal" (.sh (.var 0) (.sh (.var 1) (.sh (.var 2) .nil))))) b_best_tree_1
def D_best_tree : VL.Def := ⟨4, [.sh, .sh, .sh], b_best_tree_2, .val⟩
def b_is_tree_0 : VL.Ss := .cons (.ret (.op2 (.cmp .IsNot) (.call "find_price" (.sh (.var 0) (.sh (.var 1) (.sh (.var 2) (.sh (.var 3) (.sh (.lit (.int (0))) .nil)))))) (.lit .none))) .nil
def b_is_tree_1 : VL.Ss := .cons (.ex (.call "need_goal" (.sh (.var 0) (.sh (.var 1) (.sh (.var 2) .nil))))) b_is_tree_0
def D_is_tree : VL.Def := ⟨4, [.sh, .sh, .sh, .sh], b_is_tree_1, .val⟩
def b_height_of_0 : VL.Ss := .cons (.ret (.call "find_price" (.sh (.var 0) (.sh (.var 1) (.sh (.var 2) (.sh (.var 3) (.sh (.lit (.int (0))) .nil))))))) .nil
def b_height_of_1 : VL.Ss := .cons (.ex (.call "need_goal" (.sh (.var 0) (.sh (.var 1) (.sh (.var 2) .nil))))) b_height_of_0
def D_height_of : VL.Def := ⟨4, [.sh, .sh, .sh, .sh], b_height_of_1, .val⟩
def b__law_drawn_goal_0 : VL.Ss := .cons (.ret (.ite (.op2 (.cmp .Eq) (.var 2) (.lit (.int (4)))) (.tup (.cons false (.lit (.str "front")) (.cons false (.call "_law_take" (.io 0 (.sh (.var 1) .nil))) .nil))) (.tup (.cons false (.lit (.str "sorted")) (.cons false (.call "_law_drawn_order" (.io 0 (.sh (.var 1) .nil))) .nil))))) .nil
def b__law_drawn_goal_1 : VL.Ss := .cons (.ret (.idx (.lst (.cons false (.tup (.cons false (.lit (.str "order")) .nil)) (.cons false (.tup (.cons false (.lit (.str "order")) .nil)) (.cons false (.tup (.cons false (.lit (.str "rule")) .nil)) (.cons false (.tup (.cons false (.lit (.str "case")) .nil)) .nil))))) (.var 2))) .nil
def b__law_drawn_goal_2 : VL.Ss := .cons (.ite (.op2 (.cmp .Lt) (.var 2) (.lit (.int (4)))) b__law_drawn_goal_1 .nil) b__law_drawn_goal_0
def b__law_drawn_goal_3 : VL.Ss := .cons (.set 2 (.v (.call "_law_take" (.io 0 (.sh (.lit (.int (7))) .nil))))) b__law_drawn_goal_2
def D__law_drawn_goal : VL.Def := ⟨3, [.io, .sh], b__law_drawn_goal_3, .val⟩
def b__law_price_0 : VL.Ss := .cons (.ret (.bi .max (.cons false (.var 6) .nil))) .nil
def b__law_price_1 : VL.Ss := .cons (.app 6 (.op2 (.bin .Add) (.op2 (.bin .Add) (.var 8) (.lit (.int (1)))) (.op2 (.bin .Mult) (.var 4) (.var 9)))) .nil
def b__law_price_2 : VL.Ss := .cons (.ret (.lit .none)) .nil
def b__law_price_3 : VL.Ss := .cons (.ite (.op2 (.cmp .Is) (.var 8) (.lit .none)) b__law_price_2 .nil) b__law_price_1
def b__law_price_4 : VL.Ss := .cons (.set 8 (.v (.call "_law_price" (.sh (.var 0) (.sh (.var 10) (.sh (.var 2) (.sh (.idx (.var 7) (.lit (.int (1)))) (.sh (.var 4) .nil)))))))) b__law_price_3
def b__law_price_5 : VL.Ss := .cons (.ret (.lit .none)) .nil
def b__law_price_6 : VL.Ss := .cons (.ite (.or (.cons false (.not (.isin "tuple" (.var 7))) (.cons false (.op2 (.cmp .NotEq) (.bi .len (.cons false (.var 7) .nil)) (.lit (.int (2)))) (.cons false (.op2 (.cmp .NotEq) (.bi .repr (.cons false (.idx (.var 7) (.lit (.int (0)))) .nil)) (.bi .repr (.cons false (.var 9) .nil))) .nil)))) b__law_price_5 .nil) b__law_price_4
def b__law_price_7 : VL.Ss := .cons (.for_ (.tp [(.nm 7), (.tp [(.nm 9), (.nm 10)])]) (.zip (.idx (.var 3) (.lit (.int (1)))) (.var 5)) b__law_price_6) b__law_price_0
def b__law_price_8 : VL.Ss := .cons (.set 6 (.o (.lst .nil))) b__law_price_7
def b__law_price_9 : VL.Ss := .cons (.ret (.lit .none)) .nil
def b__law_price_10 : VL.Ss := .cons (.ite (.or (.cons false (.not (.isin "tuple" (.idx (.var 3) (.lit (.int (1)))))) (.cons false (.op2 (.cmp .NotEq) (.bi .len (.cons false (.idx (.var 3) (.lit (.int (1)))) .nil)) (.bi .len (.cons false (.var 5) .nil))) .nil))) b__law_price_9 .nil) b__law_price_8
def b__law_price_11 : VL.Ss := .cons (.set 5 (.v (.call "_law_behind" (.sh (.var 0) (.sh (.var 1) (.sh (.idx (.var 3) (.lit (.int (0)))) .nil)))))) b__law_price_10
def b__law_price_12 : VL.Ss := .cons (.ret (.lit .none)) .nil
def b__law_price_13 : VL.Ss := .cons (.ite (.or (.cons false (.not (.isin "tuple" (.var 3))) (.cons false (.op2 (.cmp .NotEq) (.bi .len (.cons false (.var 3) .nil)) (.lit (.int (2)))) (.cons false (.not (.call "_law_below" (.sh (.idx (.var 3) (.lit (.int (0)))) (.sh (.idx (.idx (.var 0) (.lit (.int (0)))) (.lit (.int (0)))) .nil)))) .nil)))) b__law_price_12 .nil) b__law_price_11
def b__law_price_14 : VL.Ss := .cons (.ret (.ite (.and (.cons false (.isin "tuple" (.var 3)) (.cons false (.call "_law_reaches" (.sh (.var 1) (.sh (.var 2) .nil))) .nil))) (.lit (.int (0))) (.lit .none))) .nil
def b__law_price_15 : VL.Ss := .cons (.ite (.op2 (.cmp .Eq) (.var 3) (.tup .nil)) b__law_price_14 .nil) b__law_price_13
def D__law_price : VL.Def := ⟨11, [.sh, .sh, .sh, .sh, .sh], b__law_price_15, .val⟩
def b__law_small_0 : VL.Ss := .cons (.ret (.tup (.cons false (.var 1) (.cons false (.var 2) (.cons false (.call "_law_drawn_goal" (.io 0 (.sh (.idx (.idx (.var 1) (.lit (.int (0)))) (.lit (.int (0)))) .nil))) .nil))))) .nil
def b__law_small_1 : VL.Ss := .cons (.set 2 (.v (.slc (.call "_law_first" (.sh (.var 1) .nil)) .no (.so (.lit (.int (2))))))) .nil
def b__law_small_2 : VL.Ss := .cons (.set 1 (.v (.tup (.cons false (.call "_law_named" (.sh (.lit (.str "front")) (.sh (.idx (.idx (.var 1) (.lit (.int (0)))) (.lit (.int (0)))) .nil))) .nil)))) b__law_small_1
def b__law_small_3 : VL.Ss := .cons (.ite (.not (.call "_law_are_few" (.sh (.var 1) (.sh (.var 2) .nil)))) b__law_small_2 .nil) b__law_small_0
def b__law_small_4 : VL.Ss := .cons (.set 2 (.v (.slc (.var 2) .no (.so (.var 3))))) .nil
def b__law_small_5 : VL.Ss := .cons (.ite (.not (.call "_law_are_few" (.sh (.var 1) (.sh (.var 2) .nil)))) b__law_small_4 .nil) .nil
def b__law_small_6 : VL.Ss := .cons (.for_ (.nm 3) (.ex (.tup (.cons false (.lit (.int (4))) (.cons false (.lit (.int (2))) (.cons false (.lit (.int (1))) .nil))))) b__law_small_5) b__law_small_3
def b__law_small_7 : VL.Ss := .cons (.set 2 (.v (.call "_law_drawn_lot" (.ioc "_law_anew" 0 (.sh (.var 1) (.sh (.lit (.int (4))) .nil)))))) .nil
def b__law_small_8 : VL.Ss := .cons (.set 1 (.v (.tup (.cons false (.call "_law_drawn_rule" (.ioc "_law_anew" 0 (.sh (.lit (.int (4))) .nil))) .nil)))) b__law_small_7
def b__law_small_9 : VL.Ss := .cons (.ite (.op2 (.cmp .Eq) (.call "_law_take" (.io 0 (.sh (.lit (.int (4))) .nil))) (.lit (.int (0)))) b__law_small_8 .nil) b__law_small_6
def b__law_small_10 : VL.Ss := .cons (.set 2 (.v (.call "_law_one" (.io 0 (.sh (.lst (.cons false (.call "_law_drawn_lot" (.ioc "_law_anew" 0 (.sh (.var 1) (.sh (.lit (.int (7))) .nil)))) (.cons false (.call "_law_first" (.sh (.var 1) .nil)) .nil))) .nil))))) b__law_small_9
def b__law_small_11 : VL.Ss := .cons (.set 1 (.v (.call "_law_drawn_rules" (.ioc "_law_anew" 0 (.sh (.call "_law_one" (.io 0 (.sh (.lst (.cons false (.lit (.int (2))) (.cons false (.lit (.int (3))) (.cons false (.lit (.int (3))) .nil)))) .nil))) .nil))))) b__law_small_10
def D__law_small : VL.Def := ⟨4, [.io], b__law_small_11, .val⟩
def b__law_drawn_tree_0 : VL.Ss := .cons (.ret (.tup (.cons false (.var 5) (.cons false (.bi .tuple (.cons false (.var 6) .nil)) .nil)))) .nil
def b__law_drawn_tree_1 : VL.Ss := .cons (.app 6 (.tup (.cons false (.var 7) (.cons false (.call "_law_drawn_tree" (.io 0 (.sh (.var 1) (.sh (.var 8) (.sh (.var 3) (.sh (.op2 (.bin .Sub) (.var 4) (.lit (.int (1)))) .nil)))))) .nil)))) .nil
def b__law_drawn_tree_2 : VL.Ss := .cons (.for_ (.tp [(.nm 7), (.nm 8)]) (.ex (.call "_law_behind" (.sh (.var 1) (.sh (.var 2) (.sh (.var 5) .nil))))) b__law_drawn_tree_1) b__law_drawn_tree_0
def b__law_drawn_tree_3 : VL.Ss := .cons (.par [5, 6] [(.v (.call "_law_take" (.io 0 (.sh (.idx (.idx (.var 1) (.lit (.int (0)))) (.lit (.int (0)))) .nil)))), (.o (.lst .nil))]) b__law_drawn_tree_2
def b__law_drawn_tree_4 : VL.Ss := .cons (.ret (.tup .nil)) .nil
def b__law_drawn_tree_5 : VL.Ss := .cons (.ite (.or (.cons false (.op2 (.cmp .Eq) (.var 4) (.lit (.int (0)))) (.cons false (.and (.cons false (.call "_law_reaches" (.sh (.var 2) (.sh (.var 3) .nil))) (.cons false (.op2 (.cmp .Gt) (.call "_law_take" (.io 0 (.sh (.lit (.int (4))) .nil))) (.lit (.int (0)))) .nil))) .nil))) b__law_drawn_tree_4 .nil) b__law_drawn_tree_3
def D__law_drawn_tree : VL.Def := ⟨9, [.io, .sh, .sh, .sh, .sh], b__law_drawn_tree_5, .val⟩
def b_need_number_0 : VL.Ss := .cons .never .nil
def b_need_number_1 : VL.Ss := .cons (.ite (.not (.call "is_below" (.sh (.var 0) (.sh (.op2 (.bin .Add) (.glb "MOST_ASKS" (.int (100))) (.lit (.int (1)))) .nil)))) b_need_number_0 .nil) .nil
def D_need_number : VL.Def := ⟨1, [.sh], b_need_number_1, .val⟩
def b_pick_answer_0 : VL.Ss := .cons (.ret (.lit .none)) .nil
def b_pick_answer_1 : VL.Ss := .cons (.ret (.var 4)) .nil
def b_pick_answer_2 : VL.Ss := .cons (.ite (.or (.cons false (.op2 (.cmp .Is) (.var 5) (.lit .none)) (.cons false (.op2 (.cmp .Gt) (.op2 (.bin .Add) (.op2 (.bin .Add) (.var 5) (.op2 (.bin .Mult) (.var 3) (.var 4))) (.lit (.int (1)))) (.var 2)) .nil))) b_pick_answer_1 .nil) .nil
def b_pick_answer_3 : VL.Ss := .cons (.set 5 (.v (.idx (.var 0) (.idx (.var 1) (.var 4))))) b_pick_answer_2
def b_pick_answer_4 : VL.Ss := .cons (.for_ (.nm 4) (.ex (.bi .sorted (.cons false (.var 1) .nil))) b_pick_answer_3) b_pick_answer_0
def D_pick_answer : VL.Def := ⟨6, [.sh, .sh, .sh, .sh], b_pick_answer_4, .val⟩
def b_is_hard_row_0 : VL.Ss := .cons (.ret (.and (.cons false (.call "is_lot_of" (.sh (.var 0) (.sh (.idx (.var 2) (.lit (.int (1)))) .nil))) (.cons false (.not (.call "does_reach" (.sh (.idx (.var 2) (.lit (.int (1)))) (.sh (.var 1) .nil)))) .nil)))) .nil
def b_is_hard_row_1 : VL.Ss := .cons (.ret (.lit (.bool false))) .nil
def b_is_hard_row_2 : VL.Ss := .cons (.ite (.or (.cons false (.not (.isin "tuple" (.var 2))) (.cons false (.op2 (.cmp .NotEq) (.bi .len (.cons false (.var 2) .nil)) (.lit (.int (2)))) (.cons false (.not (.call "is_whole" (.sh (.idx (.var 2) (.lit (.int (0)))) .nil))) (.cons false (.op2 (.cmp .Lt) (.idx (.var 2) (.lit (.int (0)))) (.lit (.int (0)))) .nil))))) b_is_hard_row_1 .nil) b_is_hard_row_0
def D_is_hard_row : VL.Def := ⟨3, [.sh, .sh, .sh], b_is_hard_row_2, .val⟩
def b_are_hard_rows_0 : VL.Ss := .cons (.ret (.lit (.bool true))) .nil
def b_are_hard_rows_1 : VL.Ss := .cons (.ret (.lit (.bool false))) .nil
def b_are_hard_rows_2 : VL.Ss := .cons (.ite (.not (.bi .all (.cons false (.comp (.call "has_answer" (.sh (.var 0) (.sh (.var 4) (.sh (.var 6) (.sh (.var 7) (.sh (.var 9) (.sh (.var 5) .nil))))))) (.nm 9) (.range (.idx (.idx (.var 0) (.lit (.int (0)))) (.lit (.int (0))))) .no [9]) .nil))) b_are_hard_rows_1 .nil) .nil
def b_are_hard_rows_3 : VL.Ss := .cons (.for_ (.tp [(.nm 6), (.nm 7)]) (.ex (.var 4)) b_are_hard_rows_2) b_are_hard_rows_0
def b_are_hard_rows_4 : VL.Ss := .cons (.ret (.lit (.bool false))) .nil
def b_are_hard_rows_5 : VL.Ss := .cons (.ite (.op2 (.cmp .NotIn) (.tup (.cons false (.var 3) (.cons false (.var 1) .nil))) (.var 4)) b_are_hard_rows_4 .nil) b_are_hard_rows_3
def b_are_hard_rows_6 : VL.Ss := .cons (.ret (.lit (.bool false))) .nil
def b_are_hard_rows_7 : VL.Ss := .cons (.ite (.or (.cons false (.not (.isin "list" (.var 4))) (.cons false (.not (.bi .all (.cons false (.comp (.call "is_hard_row" (.sh (.var 0) (.sh (.var 2) (.sh (.var 8) .nil)))) (.nm 8) (.ex (.var 4)) .no [8]) .nil))) .nil))) b_are_hard_rows_6 .nil) b_are_hard_rows_5
def D_are_hard_rows : VL.Def := ⟨10, [.sh, .sh, .sh, .sh, .sh, .sh], b_are_hard_rows_7, .val⟩
def b_find_hard_0 : VL.Ss := .cons (.ret (.call "make_hard" (.sh (.var 0) (.sh (.var 1) (.sh (.var 5) (.sh (.var 3) (.sh (.var 4) .nil))))))) .nil
def b_find_hard_1 : VL.Ss := .cons (.ret (.lit .none)) .nil
def b_find_hard_2 : VL.Ss := .cons (.ite (.and (.cons false (.op2 (.cmp .IsNot) (.idx (.var 5) (.var 1)) (.lit .none)) (.cons false (.op2 (.cmp .LtE) (.idx (.var 5) (.var 1)) (.var 3)) .nil))) b_find_hard_1 .nil) b_find_hard_0
def b_find_hard_3 : VL.Ss := .cons (.set 5 (.v (.call "find_values" (.sh (.var 0) (.sh (.var 1) (.sh (.var 2) (.sh (.var 4) .nil))))))) b_find_hard_2
def D_find_hard : VL.Def := ⟨6, [.sh, .sh, .sh, .sh, .sh], b_find_hard_3, .val⟩
def b_hard_paper_0 : VL.Ss := .cons (.ret (.call "find_hard" (.sh (.var 0) (.sh (.var 1) (.sh (.var 2) (.sh (.var 3) (.sh (.lit (.int (0))) .nil))))))) .nil
def b_hard_paper_1 : VL.Ss := .cons (.ex (.call "need_number" (.sh (.var 3) .nil))) b_hard_paper_0
def b_hard_paper_2 : VL.Ss := .cons (.ex (.call "need_goal" (.sh (.var 0) (.sh (.var 1) (.sh (.var 2) .nil))))) b_hard_paper_1
def D_hard_paper : VL.Def := ⟨4, [.sh, .sh, .sh, .sh], b_hard_paper_2, .val⟩
def b_is_hard_0 : VL.Ss := .cons (.ret (.call "are_hard_rows" (.sh (.var 0) (.sh (.var 1) (.sh (.var 2) (.sh (.var 3) (.sh (.var 4) (.sh (.lit (.int (0))) .nil)))))))) .nil
def b_is_hard_1 : VL.Ss := .cons (.ex (.call "need_number" (.sh (.var 3) .nil))) b_is_hard_0
def b_is_hard_2 : VL.Ss := .cons (.ex (.call "need_goal" (.sh (.var 0) (.sh (.var 1) (.sh (.var 2) .nil))))) b_is_hard_1
def D_is_hard : VL.Def := ⟨5, [.sh, .sh, .sh, .sh, .sh], b_is_hard_2, .val⟩
def b_endless_paper_0 : VL.Ss := .cons (.ret (.ite (.op2 (.cmp .Is) (.idx (.var 3) (.var 1)) (.lit .none)) (.comp (.var 4) (.nm 4) (.ex (.bi .sorted (.cons false (.var 3) .nil))) (.so (.op2 (.cmp .Is) (.idx (.var 3) (.var 4)) (.lit .none))) [4]) (.lit .none))) .nil
def b_endless_paper_1 : VL.Ss := .cons (.set 3 (.v (.call "find_values" (.sh (.var 0) (.sh (.var 1) (.sh (.var 2) (.sh (.lit (.int (0))) .nil))))))) b_endless_paper_0
def b_endless_paper_2 : VL.Ss := .cons (.ex (.call "need_goal" (.sh (.var 0) (.sh (.var 1) (.sh (.var 2) .nil))))) b_endless_paper_1
def D_endless_paper : VL.Def := ⟨5, [.sh, .sh, .sh], b_endless_paper_2, .val⟩
def b_is_endless_0 : VL.Ss := .cons (.ret (.call "is_endless_list" (.sh (.var 0) (.sh (.var 1) (.sh (.var 2) (.sh (.var 3) .nil)))))) .nil
def b_is_endless_1 : VL.Ss := .cons (.ex (.call "need_goal" (.sh (.var 0) (.sh (.var 1) (.sh (.var 2) .nil))))) b_is_endless_0
def D_is_endless : VL.Def := ⟨4, [.sh, .sh, .sh, .sh], b_is_endless_1, .val⟩
def b__law_is_hard_0 : VL.Ss := .cons (.ret (.lit (.bool true))) .nil
def b__law_is_hard_1 : VL.Ss := .cons (.ret (.lit (.bool false))) .nil
def b__law_is_hard_2 : VL.Ss := .cons (.ite (.not (.var 10)) b__law_is_hard_1 .nil) .nil
def b__law_is_hard_3 : VL.Ss := .cons (.set 10 (.v (.or (.cons false (.var 10) (.cons false (.op2 (.cmp .Lt) (.var 13) (.lit (.int (0)))) (.cons false (.op2 (.cmp .In) (.tup (.cons false (.var 13) (.cons false (.var 12) .nil))) (.var 4)) .nil)))))) .nil
def b__law_is_hard_4 : VL.Ss := .cons (.set 13 (.v (.op2 (.bin .Sub) (.op2 (.bin .Sub) (.var 7) (.lit (.int (1)))) (.op2 (.bin .Mult) (.var 5) (.var 11))))) b__law_is_hard_3
def b__law_is_hard_5 : VL.Ss := .cons (.for_ (.tp [(.nm 11), (.nm 12)]) (.ex (.call "_law_behind" (.sh (.var 0) (.sh (.var 8) (.sh (.var 9) .nil))))) b__law_is_hard_4) b__law_is_hard_2
def b__law_is_hard_6 : VL.Ss := .cons (.set 10 (.v (.lit (.bool false)))) b__law_is_hard_5
def b__law_is_hard_7 : VL.Ss := .cons (.for_ (.nm 9) (.range (.idx (.idx (.var 0) (.lit (.int (0)))) (.lit (.int (0))))) b__law_is_hard_6) .nil
def b__law_is_hard_8 : VL.Ss := .cons (.for_ (.tp [(.nm 7), (.nm 8)]) (.ex (.var 4)) b__law_is_hard_7) b__law_is_hard_0
def b__law_is_hard_9 : VL.Ss := .cons (.ret (.lit (.bool false))) .nil
def b__law_is_hard_10 : VL.Ss := .cons (.ite (.op2 (.cmp .NotIn) (.tup (.cons false (.var 3) (.cons false (.var 1) .nil))) (.var 4)) b__law_is_hard_9 .nil) b__law_is_hard_8
def b__law_is_hard_11 : VL.Ss := .cons (.ret (.lit (.bool false))) .nil
def b__law_is_hard_12 : VL.Ss := .cons (.ite (.or (.cons false (.not (.call "_law_is_lot" (.sh (.var 0) (.sh (.idx (.var 6) (.lit (.int (1)))) .nil)))) (.cons false (.call "_law_reaches" (.sh (.idx (.var 6) (.lit (.int (1)))) (.sh (.var 2) .nil))) .nil))) b__law_is_hard_11 .nil) .nil
def b__law_is_hard_13 : VL.Ss := .cons (.ret (.lit (.bool false))) .nil
def b__law_is_hard_14 : VL.Ss := .cons (.ite (.or (.cons false (.not (.isin "tuple" (.var 6))) (.cons false (.op2 (.cmp .NotEq) (.bi .len (.cons false (.var 6) .nil)) (.lit (.int (2)))) (.cons false (.not (.call "_law_is_whole" (.sh (.idx (.var 6) (.lit (.int (0)))) .nil))) (.cons false (.op2 (.cmp .Lt) (.idx (.var 6) (.lit (.int (0)))) (.lit (.int (0)))) .nil))))) b__law_is_hard_13 .nil) b__law_is_hard_12
def b__law_is_hard_15 : VL.Ss := .cons (.for_ (.nm 6) (.ex (.var 4)) b__law_is_hard_14) b__law_is_hard_10
def b__law_is_hard_16 : VL.Ss := .cons (.ret (.lit (.bool false))) .nil
def b__law_is_hard_17 : VL.Ss := .cons (.ite (.not (.isin "list" (.var 4))) b__law_is_hard_16 .nil) b__law_is_hard_15
def D__law_is_hard : VL.Def := ⟨14, [.sh, .sh, .sh, .sh, .sh, .sh], b__law_is_hard_17, .val⟩
def b_behind_blind_0 : VL.Ss := .cons (.ret (.call "find_behind_blind" (.sh (.var 0) (.sh (.var 1) (.sh (.var 2) .nil))))) .nil
def b_behind_blind_1 : VL.Ss := .cons (.ex (.call "need_item" (.sh (.idx (.idx (.var 0) (.lit (.int (0)))) (.lit (.int (0)))) (.sh (.var 2) .nil)))) b_behind_blind_0
def b_behind_blind_2 : VL.Ss := .cons (.ex (.call "need_lot" (.sh (.var 0) (.sh (.var 1) .nil)))) b_behind_blind_1
def D_behind_blind : VL.Def := ⟨3, [.sh, .sh, .sh], b_behind_blind_2, .val⟩
def b_blind_row_0 : VL.Ss := .cons (.ret (.call "find_blind_row" (.sh (.var 0) (.sh (.var 1) (.sh (.var 2) .nil))))) .nil
def b_blind_row_1 : VL.Ss := .cons (.ex (.call "need_goal" (.sh (.var 0) (.sh (.var 1) (.sh (.var 2) .nil))))) b_blind_row_0
def D_blind_row : VL.Def := ⟨3, [.sh, .sh, .sh], b_blind_row_1, .val⟩
def b_blind_paper_0 : VL.Ss := .cons (.ret (.ite (.bi .any (.cons false (.comp (.call "does_reach" (.sh (.var 4) (.sh (.var 2) .nil))) (.nm 4) (.ex (.var 3)) .no [4]) .nil)) (.lit .none) (.var 3))) .nil
def b_blind_paper_1 : VL.Ss := .cons (.set 3 (.v (.bi .sorted (.cons false (.bi .list (.cons false (.call "find_blind" (.sh (.var 0) (.sh (.var 1) .nil))) .nil)) .nil)))) b_blind_paper_0
def b_blind_paper_2 : VL.Ss := .cons (.ex (.call "need_goal" (.sh (.var 0) (.sh (.var 1) (.sh (.var 2) .nil))))) b_blind_paper_1
def D_blind_paper : VL.Def := ⟨5, [.sh, .sh, .sh], b_blind_paper_2, .val⟩
def b_is_blind_paper_0 : VL.Ss := .cons (.ret (.lit (.bool true))) .nil
def b_is_blind_paper_1 : VL.Ss := .cons (.ret (.lit (.bool false))) .nil
def b_is_blind_paper_2 : VL.Ss := .cons (.ite (.not (.bi .all (.cons false (.comp (.op2 (.cmp .In) (.call "find_behind_blind" (.sh (.var 0) (.sh (.var 4) (.sh (.var 5) .nil)))) (.var 3)) (.nm 5) (.range (.idx (.idx (.var 0) (.lit (.int (0)))) (.lit (.int (0))))) .no [5]) .nil))) b_is_blind_paper_1 .nil) .nil
def b_is_blind_paper_3 : VL.Ss := .cons (.ret (.lit (.bool false))) .nil
def b_is_blind_paper_4 : VL.Ss := .cons (.ite (.call "does_reach" (.sh (.var 4) (.sh (.var 2) .nil))) b_is_blind_paper_3 .nil) b_is_blind_paper_2
def b_is_blind_paper_5 : VL.Ss := .cons (.for_ (.nm 4) (.ex (.var 3)) b_is_blind_paper_4) b_is_blind_paper_0
def b_is_blind_paper_6 : VL.Ss := .cons (.ret (.lit (.bool false))) .nil
def b_is_blind_paper_7 : VL.Ss := .cons (.ite (.or (.cons false (.not (.isin "list" (.var 3))) (.cons false (.not (.bi .all (.cons false (.comp (.call "is_lot_of" (.sh (.var 0) (.sh (.var 4) .nil))) (.nm 4) (.ex (.var 3)) .no [4]) .nil))) (.cons false (.op2 (.cmp .NotIn) (.var 1) (.var 3)) .nil)))) b_is_blind_paper_6 .nil) b_is_blind_paper_5
def b_is_blind_paper_8 : VL.Ss := .cons (.ex (.call "need_goal" (.sh (.var 0) (.sh (.var 1) (.sh (.var 2) .nil))))) b_is_blind_paper_7
def D_is_blind_paper : VL.Def := ⟨6, [.sh, .sh, .sh, .sh], b_is_blind_paper_8, .val⟩
def b_least_cost_0 : VL.Ss := .cons (.ret (.idx (.call "find_values" (.sh (.var 0) (.sh (.var 1) (.sh (.var 2) (.sh (.lit (.int (1))) .nil))))) (.var 1))) .nil
def b_least_cost_1 : VL.Ss := .cons (.ex (.call "need_goal" (.sh (.var 0) (.sh (.var 1) (.sh (.var 2) .nil))))) b_least_cost_0
def D_least_cost : VL.Def := ⟨3, [.sh, .sh, .sh], b_least_cost_1, .val⟩
def b_cheapest_tree_0 : VL.Ss := .cons (.ret (.ite (.op2 (.cmp .Is) (.idx (.var 3) (.var 1)) (.lit .none)) (.lit .none) (.call "make_tree" (.sh (.var 0) (.sh (.var 1) (.sh (.var 3) (.sh (.lit (.int (1))) .nil))))))) .nil
def b_cheapest_tree_1 : VL.Ss := .cons (.set 3 (.v (.call "find_values" (.sh (.var 0) (.sh (.var 1) (.sh (.var 2) (.sh (.lit (.int (1))) .nil))))))) b_cheapest_tree_0
def b_cheapest_tree_2 : VL.Ss := .cons (.ex (.call "need_goal" (.sh (.var 0) (.sh (.var 1) (.sh (.var 2) .nil))))) b_cheapest_tree_1
def D_cheapest_tree : VL.Def := ⟨4, [.sh, .sh, .sh], b_cheapest_tree_2, .val⟩
def b_dear_paper_0 : VL.Ss := .cons (.ret (.call "find_hard" (.sh (.var 0) (.sh (.var 1) (.sh (.var 2) (.sh (.var 3) (.sh (.lit (.int (1))) .nil))))))) .nil
def b_dear_paper_1 : VL.Ss := .cons (.ex (.call "need_number" (.sh (.var 3) .nil))) b_dear_paper_0
def b_dear_paper_2 : VL.Ss := .cons (.ex (.call "need_goal" (.sh (.var 0) (.sh (.var 1) (.sh (.var 2) .nil))))) b_dear_paper_1
def D_dear_paper : VL.Def := ⟨4, [.sh, .sh, .sh, .sh], b_dear_paper_2, .val⟩
def b_cost_of_0 : VL.Ss := .cons (.ret (.call "find_price" (.sh (.var 0) (.sh (.var 1) (.sh (.var 2) (.sh (.var 3) (.sh (.lit (.int (1))) .nil))))))) .nil
def b_cost_of_1 : VL.Ss := .cons (.ex (.call "need_goal" (.sh (.var 0) (.sh (.var 1) (.sh (.var 2) .nil))))) b_cost_of_0
def D_cost_of : VL.Def := ⟨4, [.sh, .sh, .sh, .sh], b_cost_of_1, .val⟩
def b_is_dear_0 : VL.Ss := .cons (.ret (.call "are_hard_rows" (.sh (.var 0) (.sh (.var 1) (.sh (.var 2) (.sh (.var 3) (.sh (.var 4) (.sh (.lit (.int (1))) .nil)))))))) .nil
def b_is_dear_1 : VL.Ss := .cons (.ex (.call "need_number" (.sh (.var 3) .nil))) b_is_dear_0
def b_is_dear_2 : VL.Ss := .cons (.ex (.call "need_goal" (.sh (.var 0) (.sh (.var 1) (.sh (.var 2) .nil))))) b_is_dear_1
def D_is_dear : VL.Def := ⟨5, [.sh, .sh, .sh, .sh, .sh], b_is_dear_2, .val⟩
def b_sure_pairs_0 : VL.Ss := .cons (.ret (.var 2)) .nil
def b_sure_pairs_1 : VL.Ss := .cons (.app 2 (.tup (.cons false (.var 3) (.cons false (.var 6) .nil)))) .nil
def b_sure_pairs_2 : VL.Ss := .cons (.ite (.bi .all (.cons false (.comp (.op2 (.cmp .Lt) (.me .index (.var 8) (.var 3)) (.me .index (.var 8) (.var 6))) (.nm 8) (.ex (.var 5)) .no [8]) .nil)) b_sure_pairs_1 .nil) .nil
def b_sure_pairs_3 : VL.Ss := .cons (.for_ (.nm 6) (.ex (.comp (.var 6) (.nm 6) (.range (.var 4)) (.so (.op2 (.cmp .NotEq) (.var 6) (.var 3))) [6])) b_sure_pairs_2) .nil
def b_sure_pairs_4 : VL.Ss := .cons (.for_ (.nm 3) (.range (.var 4)) b_sure_pairs_3) b_sure_pairs_0
def b_sure_pairs_5 : VL.Ss := .cons (.set 2 (.o (.lst .nil))) b_sure_pairs_4
def b_sure_pairs_6 : VL.Ss := .cons (.par [4, 5] [(.v (.idx (.idx (.var 0) (.lit (.int (0)))) (.lit (.int (0))))), (.v (.comp (.idx (.idx (.var 7) (.lit (.int (1)))) (.lit (.int (0)))) (.nm 7) (.ex (.var 1)) .no [7]))]) b_sure_pairs_5
def b_sure_pairs_7 : VL.Ss := .cons (.ex (.call "need_lot" (.sh (.var 0) (.sh (.var 1) .nil)))) b_sure_pairs_6
def D_sure_pairs : VL.Def := ⟨9, [.sh, .sh], b_sure_pairs_7, .val⟩
def b_sure_places_0 : VL.Ss := .cons (.ret (.var 4)) .nil
def b_sure_places_1 : VL.Ss := .cons (.app 4 (.ite (.bi .all (.cons false (.comp (.op2 (.cmp .Eq) (.me .index (.var 7) (.var 2)) (.var 5)) (.nm 7) (.ex (.var 3)) .no [7]) .nil)) (.var 5) (.lit .none))) .nil
def b_sure_places_2 : VL.Ss := .cons (.set 5 (.v (.me .index (.idx (.var 3) (.lit (.int (0)))) (.var 2)))) b_sure_places_1
def b_sure_places_3 : VL.Ss := .cons (.for_ (.nm 2) (.range (.idx (.idx (.var 0) (.lit (.int (0)))) (.lit (.int (0))))) b_sure_places_2) b_sure_places_0
def b_sure_places_4 : VL.Ss := .cons (.par [3, 4] [(.v (.comp (.idx (.idx (.var 6) (.lit (.int (1)))) (.lit (.int (0)))) (.nm 6) (.ex (.var 1)) .no [6])), (.o (.lst .nil))]) b_sure_places_3
def b_sure_places_5 : VL.Ss := .cons (.ex (.call "need_lot" (.sh (.var 0) (.sh (.var 1) .nil)))) b_sure_places_4
def D_sure_places : VL.Def := ⟨8, [.sh, .sh], b_sure_places_5, .val⟩
def b__wall_0 : VL.Ss := .cons .pass .nil
def b__wall_1 : VL.Ss := .cons (.while_ (.lit (.bool true)) b__wall_0) .nil
def D__wall : VL.Def := ⟨1, [.sh], b__wall_1, .val⟩
def b_Seeker_u_init_u_0 : VL.Ss := .cons (.sfld 0 "saved" (.tup .nil)) .nil
def b_Seeker_u_init_u_1 : VL.Ss := .cons (.sfld 0 "past" (.tup .nil)) b_Seeker_u_init_u_0
def b_Seeker_u_init_u_2 : VL.Ss := .cons (.sfld 0 "now" (.var 2)) b_Seeker_u_init_u_1
def b_Seeker_u_init_u_3 : VL.Ss := .cons (.sfld 0 "given" (.var 1)) b_Seeker_u_init_u_2
def b_Seeker_u_init_u_4 : VL.Ss := .cons (.ex (.call "need_lot" (.sh (.var 1) (.sh (.var 2) .nil)))) b_Seeker_u_init_u_3
def D_Seeker_u_init_u : VL.Def := ⟨3, [.io, .sh, .sh], b_Seeker_u_init_u_4, .val⟩
def b_Seeker_told_0 : VL.Ss := .cons (.sfld 0 "past" (.tup (.cons true (.fld 0 "past") (.cons false (.tup (.cons false (.var 1) (.cons false (.var 2) .nil))) .nil)))) .nil
def b_Seeker_told_1 : VL.Ss := .cons (.sfld 0 "now" (.meth 0 "Seeker" "would" (.sh (.var 1) (.sh (.var 2) .nil)))) b_Seeker_told_0
def D_Seeker_told : VL.Def := ⟨3, [.io, .sh, .sh], b_Seeker_told_1, .val⟩
def b_Seeker_would_0 : VL.Ss := .cons (.ret (.idx (.var 3) (.var 2))) .nil
def b_Seeker_would_1 : VL.Ss := .cons .never .nil
def b_Seeker_would_2 : VL.Ss := .cons (.ite (.or (.cons false (.not (.call "is_below" (.sh (.var 2) (.sh (.idx (.idx (.fld 0 "given") (.lit (.int (0)))) (.lit (.int (0)))) .nil)))) (.cons false (.op2 (.cmp .NotIn) (.var 2) (.var 3)) .nil))) b_Seeker_would_1 .nil) b_Seeker_would_0
def b_Seeker_would_3 : VL.Ss := .cons (.set 3 (.v (.call "find_behind" (.sh (.fld 0 "given") (.sh (.fld 0 "now") (.sh (.var 1) .nil)))))) b_Seeker_would_2
def b_Seeker_would_4 : VL.Ss := .cons (.ex (.call "need_item" (.sh (.idx (.idx (.fld 0 "given") (.lit (.int (0)))) (.lit (.int (0)))) (.sh (.var 1) .nil)))) b_Seeker_would_3
def D_Seeker_would : VL.Def := ⟨4, [.io, .sh, .sh], b_Seeker_would_4, .val⟩
def b_Seeker_lot_0 : VL.Ss := .cons (.ret (.fld 0 "now")) .nil
def D_Seeker_lot : VL.Def := ⟨1, [.io], b_Seeker_lot_0, .val⟩
def b_Seeker_log_0 : VL.Ss := .cons (.ret (.fld 0 "past")) .nil
def D_Seeker_log : VL.Def := ⟨1, [.io], b_Seeker_log_0, .val⟩
def b_Seeker_heights_0 : VL.Ss := .cons (.ret (.call "find_values" (.sh (.fld 0 "given") (.sh (.fld 0 "now") (.sh (.var 1) (.sh (.lit (.int (0))) .nil)))))) .nil
def b_Seeker_heights_1 : VL.Ss := .cons .never .nil
def b_Seeker_heights_2 : VL.Ss := .cons (.ite (.not (.call "is_goal_of" (.sh (.fld 0 "given") (.sh (.var 1) .nil)))) b_Seeker_heights_1 .nil) b_Seeker_heights_0
def D_Seeker_heights : VL.Def := ⟨2, [.io, .sh], b_Seeker_heights_2, .val⟩
def b_Seeker_left_0 : VL.Ss := .cons (.ret (.idx (.meth 0 "Seeker" "heights" (.sh (.var 1) .nil)) (.fld 0 "now"))) .nil
def D_Seeker_left : VL.Def := ⟨2, [.io, .sh], b_Seeker_left_0, .val⟩
def b_Seeker_next_item_0 : VL.Ss := .cons (.ex (.call "_wall" (.sh (.lit (.int (0))) .nil))) .nil
def D_Seeker_next_item : VL.Def := ⟨2, [.io, .sh], b_Seeker_next_item_0, .val⟩
def b_Seeker_mark_0 : VL.Ss := .cons (.ret (.op2 (.bin .Sub) (.bi .len (.cons false (.fld 0 "saved") .nil)) (.lit (.int (1))))) .nil
def b_Seeker_mark_1 : VL.Ss := .cons (.sfld 0 "saved" (.tup (.cons true (.fld 0 "saved") (.cons false (.tup (.cons false (.fld 0 "now") (.cons false (.fld 0 "past") .nil))) .nil)))) b_Seeker_mark_0
def b_Seeker_mark_2 : VL.Ss := .cons .never .nil
def b_Seeker_mark_3 : VL.Ss := .cons (.ite (.op2 (.cmp .Eq) (.bi .len (.cons false (.fld 0 "saved") .nil)) (.glb "MOST_MARKS" (.int (6)))) b_Seeker_mark_2 .nil) b_Seeker_mark_1
def D_Seeker_mark : VL.Def := ⟨1, [.io], b_Seeker_mark_3, .val⟩
def b_Seeker_back_0 : VL.Ss := .cons (.asg (.tp [(.fl 0 "now"), (.fl 0 "past")]) (.idx (.fld 0 "saved") (.var 1))) .nil
def b_Seeker_back_1 : VL.Ss := .cons (.sfld 0 "saved" (.slc (.fld 0 "saved") .no (.so (.op2 (.bin .Add) (.var 1) (.lit (.int (1))))))) b_Seeker_back_0
def b_Seeker_back_2 : VL.Ss := .cons .never .nil
def b_Seeker_back_3 : VL.Ss := .cons (.ite (.not (.call "is_below" (.sh (.var 1) (.sh (.bi .len (.cons false (.fld 0 "saved") .nil)) .nil)))) b_Seeker_back_2 .nil) b_Seeker_back_1
def D_Seeker_back : VL.Def := ⟨2, [.io, .sh], b_Seeker_back_3, .val⟩
def b_Seeker_marks_0 : VL.Ss := .cons (.ret (.lrange false (.bi .len (.cons false (.fld 0 "saved") .nil)))) .nil
def D_Seeker_marks : VL.Def := ⟨1, [.io], b_Seeker_marks_0, .val⟩
def b_does_bring_0 : VL.Ss := .cons (.ret (.call "does_reach" (.sh (.var 1) (.sh (.var 2) .nil)))) .nil
def b_does_bring_1 : VL.Ss := .cons (.set 1 (.v (.call "find_behind_blind" (.sh (.var 0) (.sh (.var 1) (.sh (.var 4) .nil)))))) .nil
def b_does_bring_2 : VL.Ss := .cons (.for_ (.nm 4) (.ex (.var 3)) b_does_bring_1) b_does_bring_0
def D_does_bring : VL.Def := ⟨5, [.sh, .sh, .sh, .sh], b_does_bring_2, .val⟩
def b_begun_fault_0 : VL.Ss := .cons (.ret (.ite (.call "is_order_of" (.sh (.idx (.var 0) (.lit (.int (0)))) (.sh (.var 2) .nil))) (.lit .none) (.lit (.int (2))))) .nil
def b_begun_fault_1 : VL.Ss := .cons (.ret (.lit (.int (1)))) .nil
def b_begun_fault_2 : VL.Ss := .cons (.ite (.not (.call "is_standing_of" (.sh (.var 0) (.sh (.var 1) .nil)))) b_begun_fault_1 .nil) b_begun_fault_0
def b_begun_fault_3 : VL.Ss := .cons (.ret (.lit (.int (0)))) .nil
def b_begun_fault_4 : VL.Ss := .cons (.ite (.not (.call "is_rule" (.sh (.var 0) .nil))) b_begun_fault_3 .nil) b_begun_fault_2
def D_begun_fault : VL.Def := ⟨3, [.sh, .sh, .sh], b_begun_fault_4, .val⟩
def b_way_fault_0 : VL.Ss := .cons (.ret (.ite (.op2 (.cmp .Eq) (.idx (.idx (.call "make_run" (.sh (.var 0) (.sh (.var 1) (.sh (.var 3) .nil)))) (.lit (.int (1)))) (.lit (.int (0)))) (.var 2)) (.lit .none) (.lit (.int (4))))) .nil
def b_way_fault_1 : VL.Ss := .cons (.ret (.lit (.int (3)))) .nil
def b_way_fault_2 : VL.Ss := .cons (.ite (.not (.call "are_asks_of" (.sh (.idx (.var 0) (.lit (.int (0)))) (.sh (.var 3) .nil)))) b_way_fault_1 .nil) b_way_fault_0
def b_way_fault_3 : VL.Ss := .cons (.ret (.var 4)) .nil
def b_way_fault_4 : VL.Ss := .cons (.ite (.op2 (.cmp .IsNot) (.var 4) (.lit .none)) b_way_fault_3 .nil) b_way_fault_2
def b_way_fault_5 : VL.Ss := .cons (.set 4 (.v (.call "begun_fault" (.sh (.var 0) (.sh (.var 1) (.sh (.var 2) .nil)))))) b_way_fault_4
def D_way_fault : VL.Def := ⟨5, [.sh, .sh, .sh, .sh], b_way_fault_5, .val⟩
def b_no_way_fault_0 : VL.Ss := .cons (.ret (.ite (.call "is_closed_without" (.sh (.var 0) (.sh (.var 1) (.sh (.var 2) (.sh (.var 3) .nil))))) (.lit .none) (.lit (.int (3))))) .nil
def b_no_way_fault_1 : VL.Ss := .cons (.ret (.var 4)) .nil
def b_no_way_fault_2 : VL.Ss := .cons (.ite (.op2 (.cmp .IsNot) (.var 4) (.lit .none)) b_no_way_fault_1 .nil) b_no_way_fault_0
def b_no_way_fault_3 : VL.Ss := .cons (.set 4 (.v (.call "begun_fault" (.sh (.var 0) (.sh (.var 1) (.sh (.var 2) .nil)))))) b_no_way_fault_2
def D_no_way_fault : VL.Def := ⟨5, [.sh, .sh, .sh, .sh], b_no_way_fault_3, .val⟩
def b_sought_fault_0 : VL.Ss := .cons (.ret (.ite (.call "is_goal_of" (.sh (.var 0) (.sh (.var 2) .nil))) (.lit .none) (.lit (.int (2))))) .nil
def b_sought_fault_1 : VL.Ss := .cons (.ret (.lit (.int (1)))) .nil
def b_sought_fault_2 : VL.Ss := .cons (.ite (.not (.call "is_lot_of" (.sh (.var 0) (.sh (.var 1) .nil)))) b_sought_fault_1 .nil) b_sought_fault_0
def b_sought_fault_3 : VL.Ss := .cons (.ret (.lit (.int (0)))) .nil
def b_sought_fault_4 : VL.Ss := .cons (.ite (.not (.call "are_rules_of" (.sh (.var 0) .nil))) b_sought_fault_3 .nil) b_sought_fault_2
def D_sought_fault : VL.Def := ⟨3, [.sh, .sh, .sh], b_sought_fault_4, .val⟩
def b_hard_fault_0 : VL.Ss := .cons (.ret (.ite (.call "are_hard_rows" (.sh (.var 0) (.sh (.var 1) (.sh (.var 2) (.sh (.var 3) (.sh (.var 4) (.sh (.lit (.int (0))) .nil))))))) (.lit .none) (.lit (.int (4))))) .nil
def b_hard_fault_1 : VL.Ss := .cons (.ret (.lit (.int (3)))) .nil
def b_hard_fault_2 : VL.Ss := .cons (.ite (.not (.call "is_below" (.sh (.var 3) (.sh (.op2 (.bin .Add) (.glb "MOST_ASKS" (.int (100))) (.lit (.int (1)))) .nil)))) b_hard_fault_1 .nil) b_hard_fault_0
def b_hard_fault_3 : VL.Ss := .cons (.ret (.var 5)) .nil
def b_hard_fault_4 : VL.Ss := .cons (.ite (.op2 (.cmp .IsNot) (.var 5) (.lit .none)) b_hard_fault_3 .nil) b_hard_fault_2
def b_hard_fault_5 : VL.Ss := .cons (.set 5 (.v (.call "sought_fault" (.sh (.var 0) (.sh (.var 1) (.sh (.var 2) .nil)))))) b_hard_fault_4
def D_hard_fault : VL.Def := ⟨6, [.sh, .sh, .sh, .sh, .sh], b_hard_fault_5, .val⟩
def b_found_fault_0 : VL.Ss := .cons (.ret (.ite (.call "does_bring" (.sh (.var 1) (.sh (.var 2) (.sh (.var 3) (.sh (.var 4) .nil))))) (.lit .none) (.lit (.int (4))))) .nil
def b_found_fault_1 : VL.Ss := .cons (.ret (.lit (.int (3)))) .nil
def b_found_fault_2 : VL.Ss := .cons (.ite (.not (.call "are_asks_of" (.sh (.idx (.idx (.var 1) (.lit (.int (0)))) (.lit (.int (0)))) (.sh (.var 4) .nil)))) b_found_fault_1 .nil) b_found_fault_0
def b_found_fault_3 : VL.Ss := .cons (.ret (.ite (.call "is_endless_list" (.sh (.var 1) (.sh (.var 2) (.sh (.var 3) (.sh (.var 4) .nil))))) (.lit .none) (.lit (.int (3))))) .nil
def b_found_fault_4 : VL.Ss := .cons (.ite (.op2 (.cmp .Eq) (.var 0) (.lit (.str "endless"))) b_found_fault_3 .nil) b_found_fault_2
def b_found_fault_5 : VL.Ss := .cons (.ret (.ite (.op2 (.cmp .IsNot) (.call "find_price" (.sh (.var 1) (.sh (.var 2) (.sh (.var 3) (.sh (.var 4) (.sh (.lit (.int (0))) .nil)))))) (.lit .none)) (.lit .none) (.lit (.int (3))))) .nil
def b_found_fault_6 : VL.Ss := .cons (.ite (.op2 (.cmp .Eq) (.var 0) (.lit (.str "tree"))) b_found_fault_5 .nil) b_found_fault_4
def b_found_fault_7 : VL.Ss := .cons (.ret (.var 5)) .nil
def b_found_fault_8 : VL.Ss := .cons (.ite (.op2 (.cmp .IsNot) (.var 5) (.lit .none)) b_found_fault_7 .nil) b_found_fault_6
def b_found_fault_9 : VL.Ss := .cons (.set 5 (.v (.call "sought_fault" (.sh (.var 1) (.sh (.var 2) (.sh (.var 3) .nil)))))) b_found_fault_8
def D_found_fault : VL.Def := ⟨6, [.sh, .sh, .sh, .sh, .sh], b_found_fault_9, .val⟩
def b__law_judged_right_0 : VL.Ss := .cons (.ret (.and (.cons false (.op2 (.cmp .Eq) (.bi .repr (.cons false (.var 3) .nil)) (.bi .repr (.cons false (.ite (.op2 (.cmp .Is) (.var 1) (.lit .none)) (.tup (.cons false (.lit (.str "right")) .nil)) (.tup (.cons false (.lit (.str "wrong")) (.cons false (.var 1) .nil)))) .nil))) (.cons false (.op2 (.cmp .Eq) (.bi .repr (.cons false (.var 0) .nil)) (.var 2)) .nil)))) .nil
def b__law_judged_right_1 : VL.Ss := .cons (.set 3 (.v (.call "judge" (.sh (.var 0) .nil)))) b__law_judged_right_0
def b__law_judged_right_2 : VL.Ss := .cons (.set 2 (.v (.bi .repr (.cons false (.var 0) .nil)))) b__law_judged_right_1
def D__law_judged_right : VL.Def := ⟨4, [.sh, .sh], b__law_judged_right_2, .val⟩
def b__law_spoilt_0 : VL.Ss := .cons (.ret (.var 1)) .nil
def b__law_spoilt_1 : VL.Ss := .cons (.set 1 (.v (.op2 (.bin .Add) (.op2 (.bin .Add) (.slc (.var 1) .no (.so (.var 4))) (.tup (.cons false (.call "_law_bent" (.io 0 (.sh (.idx (.var 1) (.var 4)) .nil))) .nil))) (.slc (.var 1) (.so (.op2 (.bin .Add) (.var 4) (.lit (.int (1))))) .no)))) .nil
def b__law_spoilt_2 : VL.Ss := .cons (.set 4 (.v (.pop 2 (.call "_law_take" (.io 0 (.sh (.bi .len (.cons false (.var 2) .nil)) .nil)))))) b__law_spoilt_1
def b__law_spoilt_3 : VL.Ss := .cons (.for_ (.nm 3) (.range (.bi .min (.cons false (.bi .len (.cons false (.var 2) .nil)) (.cons false (.call "_law_one" (.io 0 (.sh (.lst (.cons false (.lit (.int (1))) (.cons false (.lit (.int (1))) (.cons false (.lit (.int (2))) .nil)))) .nil))) .nil)))) b__law_spoilt_2) b__law_spoilt_0
def b__law_spoilt_4 : VL.Ss := .cons (.set 2 (.o (.lrange false (.lit (.int (1)))))) b__law_spoilt_3
def D__law_spoilt : VL.Def := ⟨5, [.io, .sh], b__law_spoilt_4, .val⟩
def b_are_twins_0 : VL.Ss := .cons (.ret (.op2 (.cmp .Eq) (.idx (.var 3) (.var 1)) (.idx (.var 3) (.var 2)))) .nil
def b_are_twins_1 : VL.Ss := .cons (.set 3 (.v (.call "find_signs" (.sh (.var 0) .nil)))) b_are_twins_0
def b_are_twins_2 : VL.Ss := .cons (.ex (.call "need_standing" (.sh (.var 0) (.sh (.var 2) .nil)))) b_are_twins_1
def b_are_twins_3 : VL.Ss := .cons (.ex (.call "need_standing" (.sh (.var 0) (.sh (.var 1) .nil)))) b_are_twins_2
def b_are_twins_4 : VL.Ss := .cons (.ex (.call "need_rule" (.sh (.var 0) .nil))) b_are_twins_3
def D_are_twins : VL.Def := ⟨4, [.sh, .sh, .sh], b_are_twins_4, .val⟩
def b_Crowd_u_init_u_0 : VL.Ss := .cons (.sfld 0 "known" (.op2 (.bin .Mult) (.tup (.cons false (.var 2) .nil)) (.var 3))) .nil
def b_Crowd_u_init_u_1 : VL.Ss := .cons (.sfld 0 "given" (.var 1)) b_Crowd_u_init_u_0
def b_Crowd_u_init_u_2 : VL.Ss := .cons .never .nil
def b_Crowd_u_init_u_3 : VL.Ss := .cons (.ite (.or (.cons false (.not (.call "is_whole" (.sh (.var 3) .nil))) (.cons false (.not (.chain .LtE .LtE (.glb "LEAST_SEEKERS" (.int (2))) (.var 3) (.glb "MOST_SEEKERS" (.int (4))))) .nil))) b_Crowd_u_init_u_2 .nil) b_Crowd_u_init_u_1
def b_Crowd_u_init_u_4 : VL.Ss := .cons (.ex (.call "need_lot" (.sh (.var 1) (.sh (.var 2) .nil)))) b_Crowd_u_init_u_3
def D_Crowd_u_init_u : VL.Def := ⟨4, [.io, .sh, .sh, .sh], b_Crowd_u_init_u_4, .val⟩
def b_Crowd_need_seeker_0 : VL.Ss := .cons .never .nil
def b_Crowd_need_seeker_1 : VL.Ss := .cons (.ite (.not (.call "is_below" (.sh (.var 1) (.sh (.bi .len (.cons false (.fld 0 "known") .nil)) .nil)))) b_Crowd_need_seeker_0 .nil) .nil
def D_Crowd_need_seeker : VL.Def := ⟨2, [.io, .sh], b_Crowd_need_seeker_1, .val⟩
def b_Crowd_told_0 : VL.Ss := .cons (.sfld 0 "known" (.bi .tuple (.cons false (.var 5) .nil))) .nil
def b_Crowd_told_1 : VL.Ss := .cons .never .nil
def b_Crowd_told_2 : VL.Ss := .cons (.ite (.bi .any (.cons false (.comp (.op2 (.cmp .Gt) (.bi .len (.cons false (.var 6) .nil)) (.glb "MOST_CASES" (.int (48)))) (.nm 6) (.ex (.var 5)) .no [6]) .nil)) b_Crowd_told_1 .nil) b_Crowd_told_0
def b_Crowd_told_3 : VL.Ss := .cons (.seti 5 (.var 1) (.idx (.var 4) (.var 3))) b_Crowd_told_2
def b_Crowd_told_4 : VL.Ss := .cons (.set 5 (.o (.comp (.call "find_behind_any" (.sh (.fld 0 "given") (.sh (.var 6) .nil))) (.nm 6) (.ex (.fld 0 "known")) .no [6]))) b_Crowd_told_3
def b_Crowd_told_5 : VL.Ss := .cons .never .nil
def b_Crowd_told_6 : VL.Ss := .cons (.ite (.or (.cons false (.not (.call "is_below" (.sh (.var 3) (.sh (.idx (.idx (.fld 0 "given") (.lit (.int (0)))) (.lit (.int (0)))) .nil)))) (.cons false (.op2 (.cmp .NotIn) (.var 3) (.var 4)) .nil))) b_Crowd_told_5 .nil) b_Crowd_told_4
def b_Crowd_told_7 : VL.Ss := .cons (.set 4 (.v (.call "find_behind" (.sh (.fld 0 "given") (.sh (.idx (.fld 0 "known") (.var 1)) (.sh (.var 2) .nil)))))) b_Crowd_told_6
def b_Crowd_told_8 : VL.Ss := .cons (.ex (.call "need_item" (.sh (.idx (.idx (.fld 0 "given") (.lit (.int (0)))) (.lit (.int (0)))) (.sh (.var 2) .nil)))) b_Crowd_told_7
def b_Crowd_told_9 : VL.Ss := .cons (.ex (.meth 0 "Crowd" "need_seeker" (.sh (.var 1) .nil))) b_Crowd_told_8
def D_Crowd_told : VL.Def := ⟨7, [.io, .sh, .sh, .sh], b_Crowd_told_9, .val⟩
def b_Crowd_called_0 : VL.Ss := .cons (.sfld 0 "known" (.bi .tuple (.cons false (.comp (.call "find_behind_blind" (.sh (.fld 0 "given") (.sh (.var 2) (.sh (.var 1) .nil)))) (.nm 2) (.ex (.fld 0 "known")) .no [2]) .nil))) .nil
def b_Crowd_called_1 : VL.Ss := .cons (.ex (.call "need_item" (.sh (.idx (.idx (.fld 0 "given") (.lit (.int (0)))) (.lit (.int (0)))) (.sh (.var 1) .nil)))) b_Crowd_called_0
def D_Crowd_called : VL.Def := ⟨3, [.io, .sh], b_Crowd_called_1, .val⟩
def b_Crowd_lot_0 : VL.Ss := .cons (.ret (.idx (.fld 0 "known") (.var 1))) .nil
def b_Crowd_lot_1 : VL.Ss := .cons (.ex (.meth 0 "Crowd" "need_seeker" (.sh (.var 1) .nil))) b_Crowd_lot_0
def D_Crowd_lot : VL.Def := ⟨2, [.io, .sh], b_Crowd_lot_1, .val⟩
def b_Crowd_shared_0 : VL.Ss := .cons (.ret (.comp (.var 1) (.nm 1) (.ex (.idx (.fld 0 "known") (.lit (.int (0))))) (.so (.bi .all (.cons false (.comp (.op2 (.cmp .In) (.var 1) (.var 2)) (.nm 2) (.ex (.fld 0 "known")) .no [2]) .nil))) [1])) .nil
def D_Crowd_shared : VL.Def := ⟨3, [.io], b_Crowd_shared_0, .val⟩
structure H_is_whole (T : Str → Option VL.Def) : Prop where
  is_whole : T "is_whole" = some D_is_whole
structure H_is_below (T : Str → Option VL.Def) : Prop extends H_is_whole T where
  is_below : T "is_below" = some D_is_below
structure H_is_number_of_items (T : Str → Option VL.Def) : Prop extends H_is_whole T where
  is_number_of_items : T "is_number_of_items" = some D_is_number_of_items
structure H_is_order_of (T : Str → Option VL.Def) : Prop extends H_is_below T where
  is_order_of : T "is_order_of" = some D_is_order_of
structure H_need_items (T : Str → Option VL.Def) : Prop extends H_is_number_of_items T where
  need_items : T "need_items" = some D_need_items
structure H_need_order (T : Str → Option VL.Def) : Prop extends H_is_number_of_items T, H_is_order_of T where
  need_order : T "need_order" = some D_need_order
structure H_need_item (T : Str → Option VL.Def) : Prop extends H_is_below T where
  need_item : T "need_item" = some D_need_item
structure H_make_orders (T : Str → Option VL.Def) : Prop where
  make_orders : T "make_orders" = some D_make_orders
structure H_make_moved (T : Str → Option VL.Def) : Prop where
  make_moved : T "make_moved" = some D_make_moved
structure H_is_order (T : Str → Option VL.Def) : Prop extends H_need_items T, H_is_order_of T where
  is_order : T "is_order" = some D_is_order
structure H_all_orders (T : Str → Option VL.Def) : Prop extends H_need_items T, H_make_orders T where
  all_orders : T "all_orders" = some D_all_orders
structure H_place_of (T : Str → Option VL.Def) : Prop extends H_need_order T, H_need_item T where
  place_of : T "place_of" = some D_place_of
structure H_moved (T : Str → Option VL.Def) : Prop extends H_need_order T, H_need_item T, H_make_moved T, H_is_below T where
  moved : T "moved" = some D_moved
structure H__law_spread (T : Str → Option VL.Def) : Prop where
  _law_spread : T "_law_spread" = some D__law_spread
structure H__law_open (T : Str → Option VL.Def) : Prop where
  _law_open : T "_law_open" = some D__law_open
structure H__law_take (T : Str → Option VL.Def) : Prop extends H__law_spread T where
  _law_take : T "_law_take" = some D__law_take
structure H__law_anew (T : Str → Option VL.Def) : Prop where
  _law_anew : T "_law_anew" = some D__law_anew
structure H__law_one (T : Str → Option VL.Def) : Prop extends H__law_take T where
  _law_one : T "_law_one" = some D__law_one
structure H__law_is_whole (T : Str → Option VL.Def) : Prop where
  _law_is_whole : T "_law_is_whole" = some D__law_is_whole
structure H__law_orders (T : Str → Option VL.Def) : Prop where
  _law_orders : T "_law_orders" = some D__law_orders
structure H__law_drawn_order (T : Str → Option VL.Def) : Prop extends H__law_take T where
  _law_drawn_order : T "_law_drawn_order" = some D__law_drawn_order
structure H__law_below (T : Str → Option VL.Def) : Prop extends H__law_is_whole T where
  _law_below : T "_law_below" = some D__law_below
structure H__law_is_order (T : Str → Option VL.Def) : Prop extends H__law_below T where
  _law_is_order : T "_law_is_order" = some D__law_is_order
structure H__law_bent (T : Str → Option VL.Def) : Prop extends H__law_one T, H__law_take T, H__law_is_whole T where
  _law_bent : T "_law_bent" = some D__law_bent
structure H_is_entry (T : Str → Option VL.Def) : Prop extends H_is_below T where
  is_entry : T "is_entry" = some D_is_entry
structure H_is_row (T : Str → Option VL.Def) : Prop extends H_is_entry T where
  is_row : T "is_row" = some D_is_row
structure H_is_rule (T : Str → Option VL.Def) : Prop extends H_is_number_of_items T, H_is_below T, H_is_row T where
  is_rule : T "is_rule" = some D_is_rule
structure H_named_row (T : Str → Option VL.Def) : Prop where
  named_row : T "named_row" = some D_named_row
structure H_named_rule (T : Str → Option VL.Def) : Prop extends H_need_items T, H_named_row T where
  named_rule : T "named_rule" = some D_named_rule
structure H__law_named (T : Str → Option VL.Def) : Prop where
  _law_named : T "_law_named" = some D__law_named
structure H__law_drawn_rule (T : Str → Option VL.Def) : Prop extends H__law_take T, H__law_named T, H__law_one T where
  _law_drawn_rule : T "_law_drawn_rule" = some D__law_drawn_rule
structure H__law_is_entry (T : Str → Option VL.Def) : Prop extends H__law_below T where
  _law_is_entry : T "_law_is_entry" = some D__law_is_entry
structure H__law_is_rule (T : Str → Option VL.Def) : Prop extends H__law_is_whole T, H__law_is_entry T where
  _law_is_rule : T "_law_is_rule" = some D__law_is_rule
structure H_need_rule (T : Str → Option VL.Def) : Prop extends H_is_rule T where
  need_rule : T "need_rule" = some D_need_rule
structure H_is_standing_of (T : Str → Option VL.Def) : Prop extends H_is_order_of T, H_is_below T where
  is_standing_of : T "is_standing_of" = some D_is_standing_of
structure H_need_standing (T : Str → Option VL.Def) : Prop extends H_is_standing_of T where
  need_standing : T "need_standing" = some D_need_standing
structure H_are_asks_of (T : Str → Option VL.Def) : Prop extends H_is_below T where
  are_asks_of : T "are_asks_of" = some D_are_asks_of
structure H_need_asks (T : Str → Option VL.Def) : Prop extends H_are_asks_of T where
  need_asks : T "need_asks" = some D_need_asks
structure H_make_ask (T : Str → Option VL.Def) : Prop extends H_make_moved T where
  make_ask : T "make_ask" = some D_make_ask
structure H_make_run (T : Str → Option VL.Def) : Prop extends H_make_ask T where
  make_run : T "make_run" = some D_make_run
structure H_make_standings (T : Str → Option VL.Def) : Prop extends H_make_orders T where
  make_standings : T "make_standings" = some D_make_standings
structure H_is_standing (T : Str → Option VL.Def) : Prop extends H_need_rule T, H_is_standing_of T where
  is_standing : T "is_standing" = some D_is_standing
structure H_all_standings (T : Str → Option VL.Def) : Prop extends H_need_rule T, H_make_standings T where
  all_standings : T "all_standings" = some D_all_standings
structure H_ask (T : Str → Option VL.Def) : Prop extends H_need_rule T, H_need_standing T, H_need_item T, H_make_ask T where
  ask : T "ask" = some D_ask
structure H_run (T : Str → Option VL.Def) : Prop extends H_need_rule T, H_need_standing T, H_need_asks T, H_make_run T where
  run : T "run" = some D_run
structure H_Store_u_init_u (T : Str → Option VL.Def) : Prop extends H_need_rule T, H_need_standing T where
  Store_u_init_u : T "Store.__init__" = some D_Store_u_init_u
structure H_Store_ask (T : Str → Option VL.Def) : Prop extends H_need_item T, H_make_ask T where
  Store_ask : T "Store.ask" = some D_Store_ask
structure H_Store_rule (T : Str → Option VL.Def) : Prop where
  Store_rule : T "Store.rule" = some D_Store_rule
structure H_Store_standing (T : Str → Option VL.Def) : Prop where
  Store_standing : T "Store.standing" = some D_Store_standing
structure H_Store_asked (T : Str → Option VL.Def) : Prop where
  Store_asked : T "Store.asked" = some D_Store_asked
structure H__law_drawn_standing (T : Str → Option VL.Def) : Prop extends H__law_drawn_order T, H__law_take T where
  _law_drawn_standing : T "_law_drawn_standing" = some D__law_drawn_standing
structure H__law_is_standing (T : Str → Option VL.Def) : Prop extends H__law_is_order T, H__law_below T where
  _law_is_standing : T "_law_is_standing" = some D__law_is_standing
structure H__law_ask (T : Str → Option VL.Def) : Prop where
  _law_ask : T "_law_ask" = some D__law_ask
structure H__law_run (T : Str → Option VL.Def) : Prop extends H__law_ask T where
  _law_run : T "_law_run" = some D__law_run
structure H__law_standings (T : Str → Option VL.Def) : Prop extends H__law_orders T where
  _law_standings : T "_law_standings" = some D__law_standings
structure H_is_closed_without (T : Str → Option VL.Def) : Prop extends H_is_standing_of T, H_make_ask T where
  is_closed_without : T "is_closed_without" = some D_is_closed_without
structure H_need_order_of (T : Str → Option VL.Def) : Prop extends H_is_order_of T where
  need_order_of : T "need_order_of" = some D_need_order_of
structure H_need_way (T : Str → Option VL.Def) : Prop extends H_need_rule T, H_need_standing T, H_need_order_of T where
  need_way : T "need_way" = some D_need_way
structure H_is_no_way (T : Str → Option VL.Def) : Prop extends H_need_way T, H_is_closed_without T where
  is_no_way : T "is_no_way" = some D_is_no_way
structure H_are_rules_of (T : Str → Option VL.Def) : Prop extends H_is_rule T where
  are_rules_of : T "are_rules_of" = some D_are_rules_of
structure H_is_case_of (T : Str → Option VL.Def) : Prop extends H_is_standing_of T, H_is_below T where
  is_case_of : T "is_case_of" = some D_is_case_of
structure H_need_rules (T : Str → Option VL.Def) : Prop extends H_are_rules_of T where
  need_rules : T "need_rules" = some D_need_rules
structure H_need_case (T : Str → Option VL.Def) : Prop extends H_is_case_of T where
  need_case : T "need_case" = some D_need_case
structure H_ask_case (T : Str → Option VL.Def) : Prop extends H_make_ask T where
  ask_case : T "ask_case" = some D_ask_case
structure H_do_part (T : Str → Option VL.Def) : Prop extends H_ask_case T where
  do_part : T "do_part" = some D_do_part
structure H_need_cases (T : Str → Option VL.Def) : Prop extends H_need_rules T, H_need_case T where
  need_cases : T "need_cases" = some D_need_cases
structure H_parted_by (T : Str → Option VL.Def) : Prop extends H_need_cases T, H_need_asks T, H_do_part T where
  parted_by : T "parted_by" = some D_parted_by
structure H__law_drawn_rules (T : Str → Option VL.Def) : Prop extends H__law_drawn_rule T, H__law_one T, H__law_anew T where
  _law_drawn_rules : T "_law_drawn_rules" = some D__law_drawn_rules
structure H__law_ask_case (T : Str → Option VL.Def) : Prop extends H__law_ask T where
  _law_ask_case : T "_law_ask_case" = some D__law_ask_case
structure H_is_lot_of (T : Str → Option VL.Def) : Prop extends H_is_case_of T where
  is_lot_of : T "is_lot_of" = some D_is_lot_of
structure H_is_log_of (T : Str → Option VL.Def) : Prop extends H_is_below T where
  is_log_of : T "is_log_of" = some D_is_log_of
structure H_need_lot (T : Str → Option VL.Def) : Prop extends H_need_rules T, H_is_lot_of T where
  need_lot : T "need_lot" = some D_need_lot
structure H_does_fit (T : Str → Option VL.Def) : Prop extends H_ask_case T where
  does_fit : T "does_fit" = some D_does_fit
structure H_fitting (T : Str → Option VL.Def) : Prop extends H_need_lot T, H_is_log_of T, H_does_fit T where
  fitting : T "fitting" = some D_fitting
structure H__law_first (T : Str → Option VL.Def) : Prop extends H__law_orders T where
  _law_first : T "_law_first" = some D__law_first
structure H_is_goal_of (T : Str → Option VL.Def) : Prop extends H_is_order_of T, H_is_below T where
  is_goal_of : T "is_goal_of" = some D_is_goal_of
structure H_does_reach (T : Str → Option VL.Def) : Prop where
  does_reach : T "does_reach" = some D_does_reach
structure H_need_goal (T : Str → Option VL.Def) : Prop extends H_need_lot T, H_is_goal_of T where
  need_goal : T "need_goal" = some D_need_goal
structure H_is_goal (T : Str → Option VL.Def) : Prop extends H_need_rules T, H_is_goal_of T where
  is_goal : T "is_goal" = some D_is_goal
structure H_reaches (T : Str → Option VL.Def) : Prop extends H_need_goal T, H_does_reach T where
  reaches : T "reaches" = some D_reaches
structure H__law_is_goal (T : Str → Option VL.Def) : Prop extends H__law_is_order T, H__law_below T where
  _law_is_goal : T "_law_is_goal" = some D__law_is_goal
structure H_are_rules (T : Str → Option VL.Def) : Prop extends H_are_rules_of T where
  are_rules : T "are_rules" = some D_are_rules
structure H_is_lot (T : Str → Option VL.Def) : Prop extends H_need_rules T, H_is_lot_of T where
  is_lot : T "is_lot" = some D_is_lot
structure H__law_is_case (T : Str → Option VL.Def) : Prop extends H__law_is_standing T, H__law_below T where
  _law_is_case : T "_law_is_case" = some D__law_is_case
structure H__law_is_lot (T : Str → Option VL.Def) : Prop extends H__law_is_case T where
  _law_is_lot : T "_law_is_lot" = some D__law_is_lot
structure H_find_price (T : Str → Option VL.Def) : Prop extends H_does_reach T, H_is_below T where
  find_price : T "find_price" = some D_find_price
structure H_is_tree (T : Str → Option VL.Def) : Prop extends H_need_goal T, H_find_price T where
  is_tree : T "is_tree" = some D_is_tree
structure H_height_of (T : Str → Option VL.Def) : Prop extends H_need_goal T, H_find_price T where
  height_of : T "height_of" = some D_height_of
structure H__law_drawn_goal (T : Str → Option VL.Def) : Prop extends H__law_take T, H__law_drawn_order T where
  _law_drawn_goal : T "_law_drawn_goal" = some D__law_drawn_goal
structure H_need_number (T : Str → Option VL.Def) : Prop extends H_is_below T where
  need_number : T "need_number" = some D_need_number
structure H_pick_answer (T : Str → Option VL.Def) : Prop where
  pick_answer : T "pick_answer" = some D_pick_answer
structure H_is_hard_row (T : Str → Option VL.Def) : Prop extends H_is_lot_of T, H_is_whole T, H_does_reach T where
  is_hard_row : T "is_hard_row" = some D_is_hard_row
structure H_find_hard (T : Str → Option VL.Def) : Prop where
  find_hard : T "find_hard" = some D_find_hard
structure H_hard_paper (T : Str → Option VL.Def) : Prop extends H_need_goal T, H_need_number T, H_find_hard T where
  hard_paper : T "hard_paper" = some D_hard_paper
structure H_are_hard_rows (T : Str → Option VL.Def) : Prop extends H_is_hard_row T where
  are_hard_rows : T "are_hard_rows" = some D_are_hard_rows
structure H_is_hard (T : Str → Option VL.Def) : Prop extends H_need_goal T, H_need_number T, H_are_hard_rows T where
  is_hard : T "is_hard" = some D_is_hard
structure H_dear_paper (T : Str → Option VL.Def) : Prop extends H_need_goal T, H_need_number T, H_find_hard T where
  dear_paper : T "dear_paper" = some D_dear_paper
structure H_cost_of (T : Str → Option VL.Def) : Prop extends H_need_goal T, H_find_price T where
  cost_of : T "cost_of" = some D_cost_of
structure H_is_dear (T : Str → Option VL.Def) : Prop extends H_need_goal T, H_need_number T, H_are_hard_rows T where
  is_dear : T "is_dear" = some D_is_dear
structure H_sure_pairs (T : Str → Option VL.Def) : Prop extends H_need_lot T where
  sure_pairs : T "sure_pairs" = some D_sure_pairs
structure H_sure_places (T : Str → Option VL.Def) : Prop extends H_need_lot T where
  sure_places : T "sure_places" = some D_sure_places
structure H__wall (T : Str → Option VL.Def) : Prop where
  _wall : T "_wall" = some D__wall
structure H_Seeker_u_init_u (T : Str → Option VL.Def) : Prop extends H_need_lot T where
  Seeker_u_init_u : T "Seeker.__init__" = some D_Seeker_u_init_u
structure H_Seeker_would (T : Str → Option VL.Def) : Prop extends H_need_item T, H_is_below T where
  Seeker_would : T "Seeker.would" = some D_Seeker_would
structure H_Seeker_told (T : Str → Option VL.Def) : Prop extends H_Seeker_would T where
  Seeker_told : T "Seeker.told" = some D_Seeker_told
structure H_Seeker_lot (T : Str → Option VL.Def) : Prop where
  Seeker_lot : T "Seeker.lot" = some D_Seeker_lot
structure H_Seeker_log (T : Str → Option VL.Def) : Prop where
  Seeker_log : T "Seeker.log" = some D_Seeker_log
structure H_Seeker_heights (T : Str → Option VL.Def) : Prop extends H_is_goal_of T where
  Seeker_heights : T "Seeker.heights" = some D_Seeker_heights
structure H_Seeker_left (T : Str → Option VL.Def) : Prop extends H_Seeker_heights T where
  Seeker_left : T "Seeker.left" = some D_Seeker_left
structure H_find_first (T : Str → Option VL.Def) : Prop where
  find_first : T "find_first" = some D_find_first
structure H_Seeker_next_item (T : Str → Option VL.Def) : Prop extends H_Seeker_heights T, H_find_first T where
  Seeker_next_item : T "Seeker.next_item" = some D_Seeker_next_item
structure H_Seeker_marks (T : Str → Option VL.Def) : Prop where
  Seeker_marks : T "Seeker.marks" = some D_Seeker_marks
structure H_begun_fault (T : Str → Option VL.Def) : Prop extends H_is_rule T, H_is_standing_of T, H_is_order_of T where
  begun_fault : T "begun_fault" = some D_begun_fault
structure H_way_fault (T : Str → Option VL.Def) : Prop extends H_begun_fault T, H_are_asks_of T, H_make_run T where
  way_fault : T "way_fault" = some D_way_fault
structure H_no_way_fault (T : Str → Option VL.Def) : Prop extends H_begun_fault T, H_is_closed_without T where
  no_way_fault : T "no_way_fault" = some D_no_way_fault
structure H_sought_fault (T : Str → Option VL.Def) : Prop extends H_are_rules_of T, H_is_lot_of T, H_is_goal_of T where
  sought_fault : T "sought_fault" = some D_sought_fault
structure H_hard_fault (T : Str → Option VL.Def) : Prop extends H_sought_fault T, H_is_below T, H_are_hard_rows T where
  hard_fault : T "hard_fault" = some D_hard_fault
structure H__law_spoilt (T : Str → Option VL.Def) : Prop extends H__law_one T, H__law_take T, H__law_bent T where
  _law_spoilt : T "_law_spoilt" = some D__law_spoilt
structure H_Crowd_u_init_u (T : Str → Option VL.Def) : Prop extends H_need_lot T, H_is_whole T where
  Crowd_u_init_u : T "Crowd.__init__" = some D_Crowd_u_init_u
structure H_Crowd_need_seeker (T : Str → Option VL.Def) : Prop extends H_is_below T where
  Crowd_need_seeker : T "Crowd.need_seeker" = some D_Crowd_need_seeker
structure H_Crowd_called (T : Str → Option VL.Def) : Prop extends H__wall T where
  Crowd_called : T "Crowd.called" = some D_Crowd_called
structure H_Crowd_lot (T : Str → Option VL.Def) : Prop extends H_Crowd_need_seeker T where
  Crowd_lot : T "Crowd.lot" = some D_Crowd_lot
structure H_Crowd_shared (T : Str → Option VL.Def) : Prop extends H__wall T where
  Crowd_shared : T "Crowd.shared" = some D_Crowd_shared
end PL

set_option Elab.async false
set_option linter.all false
set_option maxRecDepth 100000
set_option maxHeartbeats 1000000
open PySem VL VL.VE
local macro_rules | `(tactic| simp_arith) => `(tactic| simp -implicitDefEqProofs only [xSs, xS.eq_1, xS.eq_2, xS.eq_3, xS.eq_4, xS.eq_5, xS.eq_6, xS.eq_10, xS.eq_11, xS.eq_12, xS.eq_13, xS.eq_14, xS.eq_17, xS.eq_18, xS.eq_19, xS.eq_20, xS.eq_21, xS.eq_22, xS.eq_23, evE.eq_2, evE.eq_3, evE.eq_4, evE.eq_5, evE.eq_6, evE.eq_7, evE.eq_8, evE.eq_9, evE.eq_10, evE.eq_11, evE.eq_12, evE.eq_13, evE.eq_14, evE.eq_16, evE.eq_17, evE.eq_18, evE.eq_19, evE.eq_20, evE.eq_21, evE.eq_22, evE.eq_28, evE.eq_29, evE.eq_30, evEs, evRs, evAs, evAnd, evOr, evEo, evSrc, evP.eq_1, evP.eq_3, evP_o, ownV_list, ownV_encL, xS_retO, retOV_list, retOV_encL, xS_ext, extS_own, extS_ownL, evPs, putPs, tst, opv.eq_2, resolveAll, getS_z, getS_s, setS_z, setS_s, putTgs_nil, putTgs_cons, putTg_nm, putTg_tp, freeS_un, freeS_shr, freeS_own, putTg_fl, flE_own, flE_io, fldsOf_own, fldsOf_io, lstOf_own, lstOf_io, putO_eq, putOS_own, putOS_io, holdsB_own, holdsB_io, argsN, argsAt_nil, argsAt_sh, argsAt_scr, argsAt_io, arS_own, arS_io, shrs_nil, shrs_cons, shS_shr, iosOf_nil, iosOf_sh, iosOf_scr, iosOf_io, ioS_io, vev_meth, metS_own, metS_io, ev_fld, fldS_own, fldS_io, ev_lfld, lfldS_own, lfldS_io, fdv_d, flv_l, argsBack, ioIx, xS_ins, insS_own, nodupB_nil, nodupB_one, callAt, vev_scut, scutS_scr, evAs_scr, asS_scr, xS_retV, retVS_own, xS_retSelf, retSS_io, ev_var, varE_shr, varE_lst, opv_var, opvV_shr, opvV_own, opvV_io, res_st, res_sl, resS_own, resS_io, seqD_enc, seqD_encL, idx_enc0, idx_encL0, idx_enc, idx_encL, idx_encL1, idx_enc1, slc_to, slc_from, slc_from1, slc_to1, rev_enc, rev_encL, len_enc, len_encL, len_list, len_tuple, list_enc, list_encL, tuple_enc, tuple_encL, bi_tuple, bi_list_l, bi_list_t, bi_tuple_t, bi_int, bi_intb, repr_bool, eqD_strB, spl_t, spl_l, spl_f, idx_t0, idx_t1, idx_t2, idx_l0, idx_l1, idx_l2, idx_ln, idx_tn, seqD_l, seqD_t, spl_tt, tru_b, tru_i, tru_n, op_cmp, op_bin, vcmp_eq, vcmp_ne, cmp_lt, cmp_le, cmp_gt, cmp_ge, vcmp_is, vcmp_isnot, vcmp_in, vcmp_notin, is_bb, is_none_int, is_none_tup, is_none_list, is_none_none, eq_int, eq_bool, vbin_add, vbin_sub, bin_mulC, bin_powC, bin_modC, bin_fdivC, bin_addl, bin_addt, bin_addE, bin_addEL, bin_addN1, mul_l1, mul_l0, mul_t1, mul_t0, bin_addL1, bin_addL0, bin_addN0, Nat.add_zero, Int.toNat_natCast, bind_ite, map_ite, set_t1, set_t2, isin_int_int, isin_bool_int, isin_tuple_tuple, isin_list_list, isin_enc, isin_encL, Int_nat_add, Int_nat_add1, Int.natCast_inj, Int.ofNat_lt, Int.ofNat_le, Option.bind_eq_bind, Option.bind_some, Option.bind_none, Option.map_some, Option.map_none, Wp_some, Wp_bind, Wp_map, Wp_none, if_true, if_false, ite_true, ite_false, decide_true, decide_false, Bool.and_true, Bool.true_and, Bool.and_false, Bool.false_and, Bool.not_true, Bool.not_false, Bool.and_self, List.length_cons, List.length_nil, List.cons_append, List.nil_append, List.append_nil, List.append_assoc, List.map_cons, List.map_nil, Nat.zero_add, Nat.reduceAdd, Nat.reduceLT, Nat.reduceLeDiff, Nat.lt_add_one, Nat.zero_lt_succ, Bool.false_eq_true, reduceCtorEq, true_or, true_and, and_true, and_self, lineN_le, lineN_lt, putTg_pair, idx_pair0, idx_pair1, Wp_ite, count_nat, count_natL, index_nat, index_natL, in_nat, in_natL, cast_eq0, cast_eq1, cast_eq2, cast_eq3, Int.cast_ofNat_Int, eq_self, Int.reduceLT, Int.reduceLE, Int.reduceEq, Int.reduceAdd, Nat.reduceEqDiff, enumD_map, zipD_map, lst_enc, tup_enc, slc_toL, slc_fromL, slc_from1L, List.length_append, List.length_map, List.length_take, List.length_drop, enc_nat, enc_int, imp_false, not_false_eq_true, implies_true, forall_const]) | `(tactic| simp_arith [$ts,*]) => `(tactic| simp -implicitDefEqProofs only [xSs, xS.eq_1, xS.eq_2, xS.eq_3, xS.eq_4, xS.eq_5, xS.eq_6, xS.eq_10, xS.eq_11, xS.eq_12, xS.eq_13, xS.eq_14, xS.eq_17, xS.eq_18, xS.eq_19, xS.eq_20, xS.eq_21, xS.eq_22, xS.eq_23, evE.eq_2, evE.eq_3, evE.eq_4, evE.eq_5, evE.eq_6, evE.eq_7, evE.eq_8, evE.eq_9, evE.eq_10, evE.eq_11, evE.eq_12, evE.eq_13, evE.eq_14, evE.eq_16, evE.eq_17, evE.eq_18, evE.eq_19, evE.eq_20, evE.eq_21, evE.eq_22, evE.eq_28, evE.eq_29, evE.eq_30, evEs, evRs, evAs, evAnd, evOr, evEo, evSrc, evP.eq_1, evP.eq_3, evP_o, ownV_list, ownV_encL, xS_retO, retOV_list, retOV_encL, xS_ext, extS_own, extS_ownL, evPs, putPs, tst, opv.eq_2, resolveAll, getS_z, getS_s, setS_z, setS_s, putTgs_nil, putTgs_cons, putTg_nm, putTg_tp, freeS_un, freeS_shr, freeS_own, putTg_fl, flE_own, flE_io, fldsOf_own, fldsOf_io, lstOf_own, lstOf_io, putO_eq, putOS_own, putOS_io, holdsB_own, holdsB_io, argsN, argsAt_nil, argsAt_sh, argsAt_scr, argsAt_io, arS_own, arS_io, shrs_nil, shrs_cons, shS_shr, iosOf_nil, iosOf_sh, iosOf_scr, iosOf_io, ioS_io, vev_meth, metS_own, metS_io, ev_fld, fldS_own, fldS_io, ev_lfld, lfldS_own, lfldS_io, fdv_d, flv_l, argsBack, ioIx, xS_ins, insS_own, nodupB_nil, nodupB_one, callAt, vev_scut, scutS_scr, evAs_scr, asS_scr, xS_retV, retVS_own, xS_retSelf, retSS_io, ev_var, varE_shr, varE_lst, opv_var, opvV_shr, opvV_own, opvV_io, res_st, res_sl, resS_own, resS_io, seqD_enc, seqD_encL, idx_enc0, idx_encL0, idx_enc, idx_encL, idx_encL1, idx_enc1, slc_to, slc_from, slc_from1, slc_to1, rev_enc, rev_encL, len_enc, len_encL, len_list, len_tuple, list_enc, list_encL, tuple_enc, tuple_encL, bi_tuple, bi_list_l, bi_list_t, bi_tuple_t, bi_int, bi_intb, repr_bool, eqD_strB, spl_t, spl_l, spl_f, idx_t0, idx_t1, idx_t2, idx_l0, idx_l1, idx_l2, idx_ln, idx_tn, seqD_l, seqD_t, spl_tt, tru_b, tru_i, tru_n, op_cmp, op_bin, vcmp_eq, vcmp_ne, cmp_lt, cmp_le, cmp_gt, cmp_ge, vcmp_is, vcmp_isnot, vcmp_in, vcmp_notin, is_bb, is_none_int, is_none_tup, is_none_list, is_none_none, eq_int, eq_bool, vbin_add, vbin_sub, bin_mulC, bin_powC, bin_modC, bin_fdivC, bin_addl, bin_addt, bin_addE, bin_addEL, bin_addN1, mul_l1, mul_l0, mul_t1, mul_t0, bin_addL1, bin_addL0, bin_addN0, Nat.add_zero, Int.toNat_natCast, bind_ite, map_ite, set_t1, set_t2, isin_int_int, isin_bool_int, isin_tuple_tuple, isin_list_list, isin_enc, isin_encL, Int_nat_add, Int_nat_add1, Int.natCast_inj, Int.ofNat_lt, Int.ofNat_le, Option.bind_eq_bind, Option.bind_some, Option.bind_none, Option.map_some, Option.map_none, Wp_some, Wp_bind, Wp_map, Wp_none, if_true, if_false, ite_true, ite_false, decide_true, decide_false, Bool.and_true, Bool.true_and, Bool.and_false, Bool.false_and, Bool.not_true, Bool.not_false, Bool.and_self, List.length_cons, List.length_nil, List.cons_append, List.nil_append, List.append_nil, List.append_assoc, List.map_cons, List.map_nil, Nat.zero_add, Nat.reduceAdd, Nat.reduceLT, Nat.reduceLeDiff, Nat.lt_add_one, Nat.zero_lt_succ, Bool.false_eq_true, reduceCtorEq, true_or, true_and, and_true, and_self, lineN_le, lineN_lt, putTg_pair, idx_pair0, idx_pair1, Wp_ite, count_nat, count_natL, index_nat, index_natL, in_nat, in_natL, cast_eq0, cast_eq1, cast_eq2, cast_eq3, Int.cast_ofNat_Int, eq_self, Int.reduceLT, Int.reduceLE, Int.reduceEq, Int.reduceAdd, Nat.reduceEqDiff, enumD_map, zipD_map, lst_enc, tup_enc, slc_toL, slc_fromL, slc_from1L, List.length_append, List.length_map, List.length_take, List.length_drop, enc_nat, enc_int, imp_false, not_false_eq_true, implies_true, forall_const, $ts,*])
namespace PL
open PySem VL VL.VE VL.VE.Enc
variable {T : Str → Option Def} {n : Nat}
/-! the model -/
def moved (o : List Nat) (i p : Nat) : List Nat := (o.filter fun x => !decide (x = i)).take p ++ i :: (o.filter fun x => !decide (x = i)).drop p
structure Rule where
  n : Nat
  k : Nat
  tab : List (List (Nat × Nat))
  deriving DecidableEq
abbrev Std := List Nat × List Nat
instance : Enc Rule := ⟨fun r => .tuple [.int r.n, .int r.k, enc r.tab], Enc.dep (List (List (Nat × Nat))) + 1, fun r => .tup fun x hx => by
  simp only [List.mem_cons, List.not_mem_nil, or_false] at hx
  rcases hx with rfl | rfl | rfl
  · exact .int
  · exact .int
  · exact Enc.sh r.tab, fun x y => by
    cases x; cases y
    simp only [PyData.eqv, PyData.eqvAll, Bool.and_eq_true, Enc.eqv, and_true, beq_iff_eq, Int.natCast_inj, Rule.mk.injEq]⟩
theorem enc_rule (r : Rule) : enc r = .tuple [.int r.n, .int r.k, enc r.tab] := rfl
structure Rule.ok (r : Rule) : Prop where
  lo : 2 ≤ r.n
  hi : r.n ≤ 4
  k1 : 1 ≤ r.k
  k2 : r.k ≤ 2
  len : r.tab.length = r.n
  row : ∀ p row, (row, p) ∈ r.tab.zipIdx → row.length = r.k ∧ ∀ e ∈ row, e.1 ≤ p ∧ e.2 < r.k
/-- an order of n items -/
structure Ord (n : Nat) (o : List Nat) : Prop where
  len : o.length = n
  nd : o.Nodup
  lt : ∀ x ∈ o, x < n
structure Marks (r : Rule) (m : List Nat) : Prop where
  len : m.length = r.n
  lt : ∀ x ∈ m, x < r.k
structure Std.ok (r : Rule) (s : Std) : Prop where
  o : Ord r.n s.1
  m : Marks r s.2

theorem eqD_ord (x y : List Nat) : eqD (enc x) (enc y) = some (decide (x = y)) := eqD_enc x y
theorem eqD_nats (x y : List Nat) : eqD (encL x) (encL y) = some (decide (x = y)) := eqD_list x y
theorem eqD_ords (x y : List (List Nat)) : eqD (encL x) (encL y) = some (decide (x = y)) := eqD_list x y
theorem eqD_std (x y : Std) : eqD (enc x) (enc y) = some (decide (x = y)) := eqD_enc x y
theorem eqD_told (a b : List Nat) (s t : Std) : eqD (.tuple [encL a, enc s]) (.tuple [encL b, enc t]) = some (decide (a = b ∧ s = t)) := by
  have h : ∀ (a : List Nat) (s : Std), Sh 64 (.tuple [encL a, enc s]) := fun a s => .tup fun x hx => by
    simp only [List.mem_cons, List.not_mem_nil, or_false] at hx
    rcases hx with rfl | rfl
    · exact (Sh.list (.encs a (k := 0) (by decide))).mono (by omega)
    · exact .enc s (by decide)
  rw [eqD_sh (h a s) (h b t), eqv_tup, eqv_all_cons, eqv_all_cons, eqv_all_nil, eqv_enc, encL, encL, eqv_list, eqv_all_map]
  simp
/-! stage 1 -/
theorem is_whole_at (h : H_is_whole T) (i : Int) : callN T lineN (n + 1) "is_whole" [.sh (.int i)] = some (.bool true, []) := by
  refine call_eq (run_wp [.shr (.int i)] h.is_whole rfl rfl ?_)
  simp only [D_is_whole, b_is_whole_0]
  simp_arith 
theorem is_below_at (h : H_is_below T) (i j : Int) : callN T lineN (n + 2) "is_below" [.sh (.int i), .sh (.int j)] = some (.bool (decide (0 ≤ i ∧ i < j)), []) := by
  refine call_eq (run_wp [.shr (.int i), .shr (.int j)] h.is_below rfl rfl ?_)
  simp only [D_is_below, b_is_below_0]
  simp_arith [is_whole_at h.toH_is_whole]
  by_cases h0 : 0 ≤ i <;> by_cases h1 : i < j <;> simp_arith [h0, h1]
theorem is_below_nat (h : H_is_below T) (i j : Nat) : callN T lineN (n + 2) "is_below" [.sh (.int i), .sh (.int j)] = some (.bool (decide (i < j)), []) := by
  rw [is_below_at h]
  simp
theorem is_number_at (h : H_is_number_of_items T) (i : Nat) : callN T lineN (n + 2) "is_number_of_items" [.sh (.int i)] = some (.bool (decide (2 ≤ i ∧ i ≤ 4)), []) := by
  refine call_eq (run_wp [.shr (.int i)] h.is_number_of_items rfl rfl ?_)
  simp only [D_is_number_of_items, b_is_number_of_items_0]
  simp_arith [is_whole_at h.toH_is_whole]
  by_cases h0 : (2 : Int) ≤ i <;> by_cases h1 : (i : Int) ≤ 4 <;> simp_arith [h0, h1] <;> simp <;> omega
theorem is_order_at (h : H_is_order_of T) (m : Nat) (o : List Nat) (ho : o.length ≤ 1000) : callN T lineN (n + 3) "is_order_of" [.sh (.int m), .sh (enc o)] = some (.bool (decide (o.length = m) && o.all fun x => decide (x < m) && decide (o.count x = 1)), []) := by
  refine call_eq (run_wp [.shr (.int m), .shr (enc o), .un] h.is_order_of rfl rfl ?_)
  simp only [D_is_order_of, b_is_order_of_2]
  simp_arith 
  by_cases h0 : o.length = m
  · simp_arith [h0, b_is_order_of_0]
    refine vev_comp (l := o) (f := enc) (fun x => .bool (decide (x < m) && decide (o.count x = 1))) (by simp_arith ) (by simp) (lineN_le' ho) US.un (fun x hx => ?_) ?_
    · simp_arith [is_below_nat h.toH_is_below]
      by_cases h1 : x < m <;> simp_arith [h1]
    · simp_arith [all_map]
  · simp_arith [h0, b_is_order_of_1]
theorem Ord.is (h : Ord m o) : (decide (o.length = m) && o.all fun x => decide (x < m) && decide (o.count x = 1)) = true := by
  simp only [h.len, decide_true, Bool.true_and, List.all_eq_true, Bool.and_eq_true, decide_eq_true_eq]
  exact fun x hx => ⟨h.lt x hx, by rw [h.nd.count, if_pos hx]⟩
theorem need_item_at (h : H_need_item T) (m i : Nat) (hi : i < m) : callN T lineN (n + 3) "need_item" [.sh (.int m), .sh (.int i)] = some (.none, []) := by
  refine call_eq (run_wp [.shr (.int m), .shr (.int i)] h.need_item rfl rfl ?_)
  simp only [D_need_item, b_need_item_1]
  simp_arith [is_below_nat h.toH_is_below, hi]
theorem make_moved_at (h : H_make_moved T) (o : List Nat) (i p : Nat) (ho : o.length ≤ 900) :
    callN T lineN (n + 1) "make_moved" [.sh (enc o), .sh (.int i), .sh (.int p)] = some (enc (moved o i p), []) := by
  refine call_eq (run_wp [.shr (enc o), .shr (.int i), .shr (.int p), .un, .un] h.make_moved rfl rfl ?_)
  simp only [D_make_moved, b_make_moved_1]
  simp_arith 
  refine ev_compIf (l := o) (f := enc) (fun x => !decide (x = i)) enc (by simp_arith ) (by simp) (lineN_le' (by omega)) US.un (fun x hx => ?_) (fun x hx _ => ?_) ?_
  · simp_arith 
  · simp_arith 
  simp_arith [b_make_moved_0]
  refine ⟨lineN_le' ?_, ?_⟩
  · have := List.length_filter_le (fun x => !decide (x = i)) o
    omega
  · simp [moved, enc_tup, enc_nat]
/-! stage 2 -/
theorem is_entry_at (h : H_is_entry T) (p k : Nat) (e : Nat × Nat) : callN T lineN (n + 3) "is_entry" [.sh (.int p), .sh (.int k), .sh (enc e)] = some (.bool (decide (e.1 ≤ p) && decide (e.2 < k)), []) := by
  refine call_eq (run_wp [.shr (.int p), .shr (.int k), .shr (enc e)] h.is_entry rfl rfl ?_)
  simp only [D_is_entry, b_is_entry_2]
  obtain ⟨a, b⟩ := e
  simp_arith [enc_pair, b_is_entry_0, is_below_nat h.toH_is_below, Nat.lt_succ_iff]
  by_cases h1 : a ≤ p <;> simp_arith [h1]
theorem is_row_at (h : H_is_row T) (p k : Nat) (r : List (Nat × Nat)) (hr : r.length ≤ 1000) : callN T lineN (n + 4) "is_row" [.sh (.int p), .sh (.int k), .sh (enc r)] = some (.bool (decide (r.length = k) && r.all fun e => decide (e.1 ≤ p) && decide (e.2 < k)), []) := by
  refine call_eq (run_wp [.shr (.int p), .shr (.int k), .shr (enc r), .un] h.is_row rfl rfl ?_)
  simp only [D_is_row, b_is_row_2]
  simp_arith 
  by_cases h0 : r.length = k
  · simp_arith [h0, b_is_row_0]
    refine vev_comp (l := r) (f := enc) (fun e => .bool (decide (e.1 ≤ p) && decide (e.2 < k))) (by simp_arith ) (by simp) (lineN_le' hr) US.un (fun x hx => ?_) ?_
    · simp_arith [is_entry_at h.toH_is_entry]
    · simp_arith [all_map]
  · simp_arith [h0, b_is_row_1]
theorem is_rule_at (h : H_is_rule T) (r : Rule) (hr : r.ok) : callN T lineN (n + 5) "is_rule" [.sh (enc r)] = some (.bool true, []) := by
  refine call_eq (run_wp [.shr (enc r), .un, .un, .un, .un, .un] h.is_rule rfl rfl ?_)
  simp only [D_is_rule, b_is_rule_7]
  have e1 := hr.lo
  have e2 := hr.hi
  have e3 := hr.k1
  have e4 := hr.k2
  have e5 := hr.len
  have e6 : decide (0 ≤ (r.k : Int) ∧ (r.k : Int) < 3) = true := by simp; omega
  have e7 : ¬ r.k = 0 := by omega
  simp_arith [enc_rule, is_number_at h.toH_is_number_of_items, e1, e2, b_is_rule_5, b_is_rule_4, is_below_at h.toH_is_below, e6, e7, e5, b_is_rule_2, b_is_rule_0]
  refine ev_compG (f := fun p : List (Nat × Nat) × Nat => .tuple [.int p.2, enc p.1]) (l := r.tab.zipIdx) (fun p => .bool (decide (p.1.length = r.k) && p.1.all fun e => decide (e.1 ≤ p.2) && decide (e.2 < r.k)))
    (fun p => [.shr (enc r), .shr (.int r.n), .shr (.int r.k), .shr (enc r.tab), .shr (.int p.2), .shr (enc p.1)]) [.shr (enc r), .shr (.int r.n), .shr (.int r.k), .shr (enc r.tab), .un, .un] ?_ (lineN_le' (by simp; omega)) rfl (fun _ => rfl) (fun _ => rfl) (fun _ => rfl) rfl (fun x hx => ?_) ?_
  · simp_arith 
  · have := hr.row x.2 x.1 hx
    simp_arith [is_row_at h.toH_is_row _ _ _ (show x.1.length ≤ 1000 by omega)]
  · simp_arith [all_map]
    rw [List.all_eq_true.mpr]
    intro x hx
    have := hr.row x.2 x.1 hx
    simp only [this.1, decide_true, Bool.true_and, List.all_eq_true, Bool.and_eq_true, decide_eq_true_eq]
    exact this.2
theorem need_rule_at (h : H_need_rule T) (r : Rule) (hr : r.ok) : callN T lineN (n + 6) "need_rule" [.sh (enc r)] = some (.none, []) := by
  refine call_eq (run_wp [.shr (enc r)] h.need_rule rfl rfl ?_)
  simp only [D_need_rule, b_need_rule_1]
  simp_arith [is_rule_at h.toH_is_rule r hr]
/-! stage 3 -/
theorem idx_rule0 (r : Rule) : idxD (enc r) (.int 0) = some (.int r.n) := idx_t0
theorem idx_rule1 (r : Rule) : idxD (enc r) (.int 1) = some (.int r.k) := idx_t1
theorem idx_rule2 (r : Rule) : idxD (enc r) (.int 2) = some (enc r.tab) := idx_t2
theorem is_standing_at (h : H_is_standing_of T) (r : Rule) (s : Std) (hs : s.ok r) (hr : r.n ≤ 4) : callN T lineN (n + 4) "is_standing_of" [.sh (enc r), .sh (enc s)] = some (.bool true, []) := by
  obtain ⟨o, m⟩ := s
  refine call_eq (run_wp [.shr (enc r), .shr (enc (o, m)), .un] h.is_standing_of rfl rfl ?_)
  have e1 := hs.o.len
  have e2 := hs.m.len
  simp only [] at e1 e2
  simp only [D_is_standing_of, b_is_standing_of_4]
  simp_arith [enc_pair, idx_rule0, idx_rule1, is_order_at h.toH_is_order_of _ _ (show o.length ≤ 1000 by omega), hs.o.is, b_is_standing_of_2, e2, b_is_standing_of_0]
  refine vev_comp (l := m) (f := enc) (fun x => .bool (decide (x < r.k))) (by simp_arith ) (by simp) (lineN_le' (by omega)) US.un (fun x hx => ?_) ?_
  · simp_arith [idx_rule1, is_below_nat h.toH_is_below]
  · simp_arith [all_map]
    rw [List.all_eq_true.mpr]
    intro x hx
    exact decide_eq_true (hs.m.lt x hx)
theorem need_standing_at (h : H_need_standing T) (r : Rule) (s : Std) (hs : s.ok r) (hr : r.n ≤ 4) : callN T lineN (n + 5) "need_standing" [.sh (enc r), .sh (enc s)] = some (.none, []) := by
  refine call_eq (run_wp [.shr (enc r), .shr (enc s)] h.need_standing rfl rfl ?_)
  simp only [D_need_standing, b_need_standing_1]
  simp_arith [is_standing_at h.toH_is_standing_of r s hs hr]
theorem are_asks_at (h : H_are_asks_of T) (m : Nat) (l : List Nat) (hl : ∀ x ∈ l, x < m) (hn : l.length ≤ 1000) : callN T lineN (n + 3) "are_asks_of" [.sh (.int m), .sh (enc l)] = some (.bool true, []) := by
  refine call_eq (run_wp [.shr (.int m), .shr (enc l), .un] h.are_asks_of rfl rfl ?_)
  simp only [D_are_asks_of, b_are_asks_of_0]
  simp_arith 
  refine vev_comp (l := l) (f := enc) (fun x => .bool (decide (x < m))) (by simp_arith ) (by simp) (lineN_le' hn) US.un (fun x hx => ?_) ?_
  · simp_arith [is_below_nat h.toH_is_below]
  · simp_arith [all_map]
    rw [List.all_eq_true.mpr]
    intro x hx
    exact decide_eq_true (hl x hx)
theorem need_asks_at (h : H_need_asks T) (m : Nat) (l : List Nat) (hl : ∀ x ∈ l, x < m) (hn : l.length ≤ 1000) : callN T lineN (n + 4) "need_asks" [.sh (.int m), .sh (enc l)] = some (.none, []) := by
  refine call_eq (run_wp [.shr (.int m), .shr (enc l)] h.need_asks rfl rfl ?_)
  simp only [D_need_asks, b_need_asks_1]
  simp_arith [are_asks_at h.toH_are_asks_of m l hl hn]
end PL

set_option Elab.async false
set_option linter.all false
set_option maxRecDepth 100000
set_option maxHeartbeats 1000000
open PySem VL VL.VE
local macro_rules | `(tactic| simp_arith) => `(tactic| simp -implicitDefEqProofs only [xSs, xS.eq_1, xS.eq_2, xS.eq_3, xS.eq_4, xS.eq_5, xS.eq_6, xS.eq_10, xS.eq_11, xS.eq_12, xS.eq_13, xS.eq_14, xS.eq_17, xS.eq_18, xS.eq_19, xS.eq_20, xS.eq_21, xS.eq_22, xS.eq_23, evE.eq_2, evE.eq_3, evE.eq_4, evE.eq_5, evE.eq_6, evE.eq_7, evE.eq_8, evE.eq_9, evE.eq_10, evE.eq_11, evE.eq_12, evE.eq_13, evE.eq_14, evE.eq_16, evE.eq_17, evE.eq_18, evE.eq_19, evE.eq_20, evE.eq_21, evE.eq_22, evE.eq_28, evE.eq_29, evE.eq_30, evEs, evRs, evAs, evAnd, evOr, evEo, evSrc, evP.eq_1, evP.eq_3, evP_o, ownV_list, ownV_encL, xS_retO, retOV_list, retOV_encL, xS_ext, extS_own, extS_ownL, evPs, putPs, tst, opv.eq_2, resolveAll, getS_z, getS_s, setS_z, setS_s, putTgs_nil, putTgs_cons, putTg_nm, putTg_tp, freeS_un, freeS_shr, freeS_own, putTg_fl, flE_own, flE_io, fldsOf_own, fldsOf_io, lstOf_own, lstOf_io, putO_eq, putOS_own, putOS_io, holdsB_own, holdsB_io, argsN, argsAt_nil, argsAt_sh, argsAt_scr, argsAt_io, arS_own, arS_io, shrs_nil, shrs_cons, shS_shr, iosOf_nil, iosOf_sh, iosOf_scr, iosOf_io, ioS_io, vev_meth, metS_own, metS_io, ev_fld, fldS_own, fldS_io, ev_lfld, lfldS_own, lfldS_io, fdv_d, flv_l, argsBack, ioIx, xS_ins, insS_own, nodupB_nil, nodupB_one, callAt, vev_scut, scutS_scr, evAs_scr, asS_scr, xS_retV, retVS_own, xS_retSelf, retSS_io, ev_var, varE_shr, varE_lst, opv_var, opvV_shr, opvV_own, opvV_io, res_st, res_sl, resS_own, resS_io, seqD_enc, seqD_encL, idx_enc0, idx_encL0, idx_enc, idx_encL, idx_encL1, idx_enc1, slc_to, slc_from, slc_from1, slc_to1, rev_enc, rev_encL, len_enc, len_encL, len_list, len_tuple, list_enc, list_encL, tuple_enc, tuple_encL, bi_tuple, bi_list_l, bi_list_t, bi_tuple_t, bi_int, bi_intb, repr_bool, eqD_strB, spl_t, spl_l, spl_f, idx_t0, idx_t1, idx_t2, idx_l0, idx_l1, idx_l2, idx_ln, idx_tn, seqD_l, seqD_t, spl_tt, tru_b, tru_i, tru_n, op_cmp, op_bin, vcmp_eq, vcmp_ne, cmp_lt, cmp_le, cmp_gt, cmp_ge, vcmp_is, vcmp_isnot, vcmp_in, vcmp_notin, is_bb, is_none_int, is_none_tup, is_none_list, is_none_none, eq_int, eq_bool, vbin_add, vbin_sub, bin_mulC, bin_powC, bin_modC, bin_fdivC, bin_addl, bin_addt, bin_addE, bin_addEL, bin_addN1, mul_l1, mul_l0, mul_t1, mul_t0, bin_addL1, bin_addL0, bin_addN0, Nat.add_zero, Int.toNat_natCast, bind_ite, map_ite, set_t1, set_t2, isin_int_int, isin_bool_int, isin_tuple_tuple, isin_list_list, isin_enc, isin_encL, Int_nat_add, Int_nat_add1, Int.natCast_inj, Int.ofNat_lt, Int.ofNat_le, Option.bind_eq_bind, Option.bind_some, Option.bind_none, Option.map_some, Option.map_none, Wp_some, Wp_bind, Wp_map, Wp_none, if_true, if_false, ite_true, ite_false, decide_true, decide_false, Bool.and_true, Bool.true_and, Bool.and_false, Bool.false_and, Bool.not_true, Bool.not_false, Bool.and_self, List.length_cons, List.length_nil, List.cons_append, List.nil_append, List.append_nil, List.append_assoc, List.map_cons, List.map_nil, Nat.zero_add, Nat.reduceAdd, Nat.reduceLT, Nat.reduceLeDiff, Nat.lt_add_one, Nat.zero_lt_succ, Bool.false_eq_true, reduceCtorEq, true_or, true_and, and_true, and_self, lineN_le, lineN_lt, putTg_pair, idx_pair0, idx_pair1, Wp_ite, count_nat, count_natL, index_nat, index_natL, in_nat, in_natL, cast_eq0, cast_eq1, cast_eq2, cast_eq3, Int.cast_ofNat_Int, eq_self, Int.reduceLT, Int.reduceLE, Int.reduceEq, Int.reduceAdd, Nat.reduceEqDiff, enumD_map, zipD_map, lst_enc, tup_enc, slc_toL, slc_fromL, slc_from1L, List.length_append, List.length_map, List.length_take, List.length_drop, enc_nat, enc_int, imp_false, not_false_eq_true, implies_true, forall_const]) | `(tactic| simp_arith [$ts,*]) => `(tactic| simp -implicitDefEqProofs only [xSs, xS.eq_1, xS.eq_2, xS.eq_3, xS.eq_4, xS.eq_5, xS.eq_6, xS.eq_10, xS.eq_11, xS.eq_12, xS.eq_13, xS.eq_14, xS.eq_17, xS.eq_18, xS.eq_19, xS.eq_20, xS.eq_21, xS.eq_22, xS.eq_23, evE.eq_2, evE.eq_3, evE.eq_4, evE.eq_5, evE.eq_6, evE.eq_7, evE.eq_8, evE.eq_9, evE.eq_10, evE.eq_11, evE.eq_12, evE.eq_13, evE.eq_14, evE.eq_16, evE.eq_17, evE.eq_18, evE.eq_19, evE.eq_20, evE.eq_21, evE.eq_22, evE.eq_28, evE.eq_29, evE.eq_30, evEs, evRs, evAs, evAnd, evOr, evEo, evSrc, evP.eq_1, evP.eq_3, evP_o, ownV_list, ownV_encL, xS_retO, retOV_list, retOV_encL, xS_ext, extS_own, extS_ownL, evPs, putPs, tst, opv.eq_2, resolveAll, getS_z, getS_s, setS_z, setS_s, putTgs_nil, putTgs_cons, putTg_nm, putTg_tp, freeS_un, freeS_shr, freeS_own, putTg_fl, flE_own, flE_io, fldsOf_own, fldsOf_io, lstOf_own, lstOf_io, putO_eq, putOS_own, putOS_io, holdsB_own, holdsB_io, argsN, argsAt_nil, argsAt_sh, argsAt_scr, argsAt_io, arS_own, arS_io, shrs_nil, shrs_cons, shS_shr, iosOf_nil, iosOf_sh, iosOf_scr, iosOf_io, ioS_io, vev_meth, metS_own, metS_io, ev_fld, fldS_own, fldS_io, ev_lfld, lfldS_own, lfldS_io, fdv_d, flv_l, argsBack, ioIx, xS_ins, insS_own, nodupB_nil, nodupB_one, callAt, vev_scut, scutS_scr, evAs_scr, asS_scr, xS_retV, retVS_own, xS_retSelf, retSS_io, ev_var, varE_shr, varE_lst, opv_var, opvV_shr, opvV_own, opvV_io, res_st, res_sl, resS_own, resS_io, seqD_enc, seqD_encL, idx_enc0, idx_encL0, idx_enc, idx_encL, idx_encL1, idx_enc1, slc_to, slc_from, slc_from1, slc_to1, rev_enc, rev_encL, len_enc, len_encL, len_list, len_tuple, list_enc, list_encL, tuple_enc, tuple_encL, bi_tuple, bi_list_l, bi_list_t, bi_tuple_t, bi_int, bi_intb, repr_bool, eqD_strB, spl_t, spl_l, spl_f, idx_t0, idx_t1, idx_t2, idx_l0, idx_l1, idx_l2, idx_ln, idx_tn, seqD_l, seqD_t, spl_tt, tru_b, tru_i, tru_n, op_cmp, op_bin, vcmp_eq, vcmp_ne, cmp_lt, cmp_le, cmp_gt, cmp_ge, vcmp_is, vcmp_isnot, vcmp_in, vcmp_notin, is_bb, is_none_int, is_none_tup, is_none_list, is_none_none, eq_int, eq_bool, vbin_add, vbin_sub, bin_mulC, bin_powC, bin_modC, bin_fdivC, bin_addl, bin_addt, bin_addE, bin_addEL, bin_addN1, mul_l1, mul_l0, mul_t1, mul_t0, bin_addL1, bin_addL0, bin_addN0, Nat.add_zero, Int.toNat_natCast, bind_ite, map_ite, set_t1, set_t2, isin_int_int, isin_bool_int, isin_tuple_tuple, isin_list_list, isin_enc, isin_encL, Int_nat_add, Int_nat_add1, Int.natCast_inj, Int.ofNat_lt, Int.ofNat_le, Option.bind_eq_bind, Option.bind_some, Option.bind_none, Option.map_some, Option.map_none, Wp_some, Wp_bind, Wp_map, Wp_none, if_true, if_false, ite_true, ite_false, decide_true, decide_false, Bool.and_true, Bool.true_and, Bool.and_false, Bool.false_and, Bool.not_true, Bool.not_false, Bool.and_self, List.length_cons, List.length_nil, List.cons_append, List.nil_append, List.append_nil, List.append_assoc, List.map_cons, List.map_nil, Nat.zero_add, Nat.reduceAdd, Nat.reduceLT, Nat.reduceLeDiff, Nat.lt_add_one, Nat.zero_lt_succ, Bool.false_eq_true, reduceCtorEq, true_or, true_and, and_true, and_self, lineN_le, lineN_lt, putTg_pair, idx_pair0, idx_pair1, Wp_ite, count_nat, count_natL, index_nat, index_natL, in_nat, in_natL, cast_eq0, cast_eq1, cast_eq2, cast_eq3, Int.cast_ofNat_Int, eq_self, Int.reduceLT, Int.reduceLE, Int.reduceEq, Int.reduceAdd, Nat.reduceEqDiff, enumD_map, zipD_map, lst_enc, tup_enc, slc_toL, slc_fromL, slc_from1L, List.length_append, List.length_map, List.length_take, List.length_drop, enc_nat, enc_int, imp_false, not_false_eq_true, implies_true, forall_const, $ts,*])
namespace PL
open PySem VL VL.VE VL.VE.Enc
variable {T : Str → Option Def} {n : Nat}
def Rule.at (r : Rule) (d m : Nat) : Nat × Nat := (r.tab.getD d []).getD m (0, 0)
def askR (r : Rule) (s : Std) (i : Nat) : Nat × Std :=
  (s.1.idxOf i, moved s.1 i (r.at (s.1.idxOf i) (s.2.getD i 0)).1, s.2.set i (r.at (s.1.idxOf i) (s.2.getD i 0)).2)
def runR (r : Rule) (s : Std) : List Nat → List Nat × Std
  | [] => ([], s)
  | i :: l => ((askR r s i).1 :: (runR r (askR r s i).2 l).1, (runR r (askR r s i).2 l).2)
theorem Rule.ok.at {r : Rule} (h : r.ok) {d m : Nat} (hd : d < r.n) (hm : m < r.k) : ∃ row, r.tab[d]? = some row ∧ row[m]? = some (r.at d m) ∧ (r.at d m).1 ≤ d ∧ (r.at d m).2 < r.k := by
  have hd' : d < r.tab.length := by rw [h.len]; exact hd
  have hz : (r.tab[d], d) ∈ r.tab.zipIdx := by
    rw [List.mem_zipIdx_iff_getElem?]
    exact List.getElem?_eq_getElem hd'
  obtain ⟨h1, h2⟩ := h.row d _ hz
  have hm' : m < r.tab[d].length := by omega
  have e : r.at d m = r.tab[d][m] := by
    simp only [Rule.at, List.getD_eq_getElem?_getD, List.getElem?_eq_getElem hd', Option.getD_some, List.getElem?_eq_getElem hm']
  refine ⟨r.tab[d], List.getElem?_eq_getElem hd', ?_, ?_⟩
  · rw [List.getElem?_eq_getElem hm', e]
  · rw [e]; exact h2 _ (List.getElem_mem hm')
theorem nodup_lt : ∀ (m : Nat) (l : List Nat), l.Nodup → (∀ x ∈ l, x < m) → l.length ≤ m
  | 0, [], _, _ => Nat.le_refl _
  | 0, x :: l, _, h => absurd (h x (by simp)) (Nat.not_lt_zero x)
  | m + 1, l, nd, h => by
    have h1 : (l.erase m).length ≤ m := nodup_lt m (l.erase m) (nd.erase m) fun x hx => by
      have := (nd.mem_erase_iff).mp hx
      have := h x this.2
      omega
    have := List.length_erase (a := m) (l := l)
    split at this <;> omega
theorem Ord.mem {m : Nat} {o : List Nat} (h : Ord m o) {x : Nat} (hx : x < m) : x ∈ o := by
  refine Classical.byContradiction fun hn => ?_
  have := nodup_lt m (x :: o) (List.nodup_cons.mpr ⟨hn, h.nd⟩) fun y hy => by
    rcases List.mem_cons.mp hy with rfl | hy
    · exact hx
    · exact h.lt y hy
  have := h.len
  simp only [List.length_cons] at *
  omega
theorem moved_length {o : List Nat} {i p : Nat} (nd : o.Nodup) (hi : i ∈ o) : (moved o i p).length = o.length := by
  have e : (o.filter fun x => !decide (x = i)) = o.erase i := by
    rw [nd.erase_eq_filter]
    apply List.filter_congr
    intro x _
    by_cases hx : x = i <;> simp [hx, bne]
  have := List.length_erase_of_mem hi
  have hp : 0 < o.length := List.length_pos_of_mem hi
  simp only [moved, e, List.length_append, List.length_take, List.length_cons, List.length_drop, this]
  omega
theorem moved_mem {o : List Nat} {i p x : Nat} (hi : i ∈ o) : x ∈ moved o i p ↔ x ∈ o := by
  have e : x ∈ o.filter (fun x => !decide (x = i)) ↔ x ∈ (o.filter fun x => !decide (x = i)).take p ∨ x ∈ (o.filter fun x => !decide (x = i)).drop p := by
    rw [← List.mem_append, List.take_append_drop]
  simp only [moved, List.mem_append, List.mem_cons]
  by_cases h : x = i
  · subst h; simp [hi]
  · rw [List.mem_filter] at e
    simp only [h, decide_false, Bool.not_false, and_true] at e
    simp only [h, false_or]
    exact e.symm
theorem moved_nodup {o : List Nat} {i p : Nat} (nd : o.Nodup) : (moved o i p).Nodup := by
  have h := nd.filter (fun x => !decide (x = i))
  have hp : (moved o i p).Perm (i :: o.filter fun x => !decide (x = i)) := by
    unfold moved
    refine (List.perm_middle).trans ?_
    rw [List.take_append_drop]
  rw [hp.nodup_iff, List.nodup_cons]
  exact ⟨by simp, h⟩
theorem Ord.moved {m : Nat} {o : List Nat} (h : Ord m o) {i : Nat} (hi : i < m) (p : Nat) : Ord m (moved o i p) :=
  ⟨by rw [moved_length h.nd (h.mem hi)]; exact h.len, moved_nodup h.nd, fun x hx => h.lt x ((moved_mem (h.mem hi)).mp hx)⟩
theorem ask_ok {r : Rule} (hr : r.ok) {s : Std} (hs : s.ok r) {i : Nat} (hi : i < r.n) : (askR r s i).2.ok r := by
  have hd : s.1.idxOf i < r.n := by rw [← hs.o.len]; exact List.idxOf_lt_length_of_mem (hs.o.mem hi)
  have hm : s.2.getD i 0 < r.k := by
    have : i < s.2.length := by rw [hs.m.len]; exact hi
    rw [List.getD_eq_getElem?_getD, List.getElem?_eq_getElem this]
    exact hs.m.lt _ (List.getElem_mem this)
  obtain ⟨row, h1, h2, h3, h4⟩ := hr.at hd hm
  refine ⟨hs.o.moved hi _, ?_, ?_⟩
  · simp [askR, hs.m.len]
  · intro x hx
    simp only [askR] at hx
    rcases List.mem_or_eq_of_mem_set hx with h | h
    · exact hs.m.lt x h
    · rw [h]; exact h4
theorem run_ok {r : Rule} (hr : r.ok) : ∀ {l : List Nat} {s : Std}, s.ok r → (∀ x ∈ l, x < r.n) → (runR r s l).2.ok r
  | [], s, hs, _ => hs
  | i :: l, s, hs, hl => run_ok (s := (askR r s i).2) hr (ask_ok hr hs (hl i (by simp))) fun x hx => hl x (by simp [hx])
theorem run_append (r : Rule) : ∀ (l m : List Nat) (s : Std), runR r s (l ++ m) = ((runR r s l).1 ++ (runR r (runR r s l).2 m).1, (runR r (runR r s l).2 m).2)
  | [], m, s => rfl
  | i :: l, m, s => by simp only [List.cons_append, runR, run_append r l m]
theorem run_len (r : Rule) : ∀ (l : List Nat) (s : Std), (runR r s l).1.length = l.length
  | [], _ => rfl
  | i :: l, s => by simp only [runR, List.length_cons, run_len r l]
theorem run_one (r : Rule) (s : Std) (i : Nat) : runR r s [i] = ([(askR r s i).1], (askR r s i).2) := rfl
theorem set_take_drop {l : List Nat} {i x : Nat} (h : i < l.length) : l.take i ++ x :: l.drop (i + 1) = l.set i x := (List.set_eq_take_append_cons_drop.trans (if_pos h)).symm
theorem make_ask_at (h : H_make_ask T) {r : Rule} {s : Std} {i : Nat} (hr : r.ok) (hs : s.ok r) (hi : i < r.n) : callN T lineN (n + 2) "make_ask" [.sh (enc r), .sh (enc s), .sh (.int i)] = some (enc (askR r s i), []) := by
  have hd : s.1.idxOf i < r.n := by rw [← hs.o.len]; exact List.idxOf_lt_length_of_mem (hs.o.mem hi)
  have hl : i < s.2.length := by rw [hs.m.len]; exact hi
  have hm : s.2.getD i 0 < r.k := by
    rw [List.getD_eq_getElem?_getD, List.getElem?_eq_getElem hl]
    exact hs.m.lt _ (List.getElem_mem hl)
  have hg : s.2[i]? = some (s.2.getD i 0) := by
    rw [List.getD_eq_getElem?_getD, List.getElem?_eq_getElem hl]; rfl
  obtain ⟨row, h1, h2, h3, h4⟩ := hr.at hd hm
  have hlo := hs.o.len
  have hlm := hs.m.len
  have h4' := hr.hi
  have him := hs.o.mem hi
  obtain ⟨o, m⟩ := s
  simp only [] at *
  refine call_eq (run_wp [.shr (enc r), .shr (enc (o, m)), .shr (.int i), .un, .un, .un, .un, .un] h.make_ask rfl rfl ?_)
  simp only [D_make_ask, b_make_ask_3]
  simp_arith [enc_pair, b_make_ask_2, him, b_make_ask_1, idx_rule2, h1, h2, hg]
  rcases he : r.at (List.idxOf i o) (m.getD i 0) with ⟨to, mk⟩
  simp_arith [enc_pair, b_make_ask_0, make_moved_at h.toH_make_moved o i to (by omega)]
  refine ⟨lineN_le' (by omega), ?_⟩
  simp only [askR, he, enc_pair, ← set_take_drop hl]
  simp only [enc_tup, List.map_append, List.map_cons, enc_nat]
theorem make_run_at (h : H_make_run T) {r : Rule} {s : Std} {l : List Nat} (hr : r.ok) (hs : s.ok r) (hl : ∀ x ∈ l, x < r.n) (hn : l.length ≤ 1000) : callN T lineN (n + 3) "make_run" [.sh (enc r), .sh (enc s), .sh (enc l)] = some (.tuple [encL (runR r s l).1, enc (runR r s l).2], []) := by
  refine call_eq (run_wp [.shr (enc r), .shr (enc s), .shr (enc l), .un, .un, .un] h.make_run rfl rfl ?_)
  simp only [D_make_run, b_make_run_4]
  simp_arith [b_make_run_3]
  refine for_wp (l := l) (f := enc) (R := fun p q env => p ++ q = l ∧ ∃ x y, env = [.shr (enc r), .shr (enc (runR r s p).2), .shr (enc l), .own (.lst ((runR r s p).1.map enc)), x, y] ∧ freeS x = true ∧ freeS y = true) ⟨rfl, _, _, rfl, rfl, rfl⟩ ?_ ?_
  · rintro p x q env ⟨e, u, v, rfl, hu, hv⟩
    have hx := hl x (by rw [← e]; simp)
    have ok : (runR r s p).2.ok r := run_ok hr hs fun y hy => hl y (by rw [← e]; simp [hy])
    refine ⟨_, by simp_arith [hu]; rfl, ?_⟩
    simp_arith [b_make_run_2, make_ask_at h.toH_make_ask hr ok hx]
    simp_arith [b_make_run_1, hv, hu]
    have e1 : (runR r s p).1.length ≤ 1000 := by
      have := run_len r p s
      have : p.length ≤ l.length := by rw [← e]; simp
      omega
    simp only [run_append, run_one]
    simp_arith [e1, hv, hu]
    exact ⟨e, _, _, by rw [List.map_append]; rfl, freeS_shr, freeS_shr⟩
  · rintro env ⟨e, u, v, rfl, hu, hv⟩
    simp_arith [b_make_run_0]
theorem run_at (h : H_run T) {r : Rule} {s : Std} {l : List Nat} (hr : r.ok) (hs : s.ok r) (hl : ∀ x ∈ l, x < r.n) (hn : l.length ≤ 1000) : callN T lineN (n + 7) "run" [.sh (enc r), .sh (enc s), .sh (enc l)] = some (.tuple [encL (runR r s l).1, enc (runR r s l).2], []) := by
  refine call_eq (run_wp [.shr (enc r), .shr (enc s), .shr (enc l)] h.run rfl rfl ?_)
  simp only [D_run, b_run_3]
  simp_arith [need_rule_at h.toH_need_rule r hr, b_run_2, need_standing_at h.toH_need_standing r s hs hr.hi, b_run_1, idx_rule0, need_asks_at h.toH_need_asks r.n l hl hn, b_run_0, make_run_at h.toH_make_run hr hs hl hn]
/-! the store -/
def encP (p : Nat × Nat) : PyData := .tuple [.int p.1, .int p.2]
def storeO (r : Rule) (s : Std) (past : List (Nat × Nat)) : OV := .obj "Store" [("held", .d (enc r)), ("now", .d (enc s)), ("past", .l (past.map enc))]
section
variable {a b c v : Fld}
theorem lk_held : List.lookup ("held" : Str) [("held", a), ("now", b), ("past", c)] = some a := rfl
theorem lk_now : List.lookup ("now" : Str) [("held", a), ("now", b), ("past", c)] = some b := rfl
theorem lk_past : List.lookup ("past" : Str) [("held", a), ("now", b), ("past", c)] = some c := rfl
theorem lk_ask : List.lookup ("ask" : Str) [("held", a), ("now", b), ("past", c)] = none := rfl
theorem lk_standing : List.lookup ("standing" : Str) [("held", a), ("now", b), ("past", c)] = none := rfl
theorem lk_asked : List.lookup ("asked" : Str) [("held", a), ("now", b), ("past", c)] = none := rfl
theorem lk_rule : List.lookup ("rule" : Str) [("held", a), ("now", b), ("past", c)] = none := rfl
theorem pf_held : putFl "held" v [] = ([("held", v)] : List (Str × Fld)) := rfl
theorem pf_now : putFl "now" v [("held", a)] = ([("held", a), ("now", v)] : List (Str × Fld)) := rfl
theorem pf_past : putFl "past" v [("held", a), ("now", b)] = ([("held", a), ("now", b), ("past", v)] : List (Str × Fld)) := rfl
theorem pf_now3 : putFl "now" v [("held", a), ("now", b), ("past", c)] = ([("held", a), ("now", v), ("past", c)] : List (Str × Fld)) := rfl
theorem pf_past3 : putFl "past" v [("held", a), ("now", b), ("past", c)] = ([("held", a), ("now", b), ("past", v)] : List (Str × Fld)) := rfl
end
theorem str_Store_init : (("Store" : Str) ++ ".__init__" : Str) = "Store.__init__" := by decide +kernel
theorem met_ask {C : Calls} {r : Rule} {s : Std} {p : List (Nat × Nat)} {i : Nat} {as : Option (List VL.Arg × VL.Env)} : metS C (.own (storeO r s p)) i "Store" "ask" as = as.bind fun q => callAt C "Store.ask" (.io i :: q.1) q.2 := by
  rw [storeO, metS_own lk_ask, show (("Store" : Str) ++ "." ++ "ask" : Str) = "Store.ask" by decide +kernel]
theorem met_standing {C : Calls} {r : Rule} {s : Std} {p : List (Nat × Nat)} {i : Nat} {as : Option (List VL.Arg × VL.Env)} : metS C (.own (storeO r s p)) i "Store" "standing" as = as.bind fun q => callAt C "Store.standing" (.io i :: q.1) q.2 := by
  rw [storeO, metS_own lk_standing, show (("Store" : Str) ++ "." ++ "standing" : Str) = "Store.standing" by decide +kernel]
theorem met_rule {C : Calls} {r : Rule} {s : Std} {p : List (Nat × Nat)} {i : Nat} {as : Option (List VL.Arg × VL.Env)} : metS C (.own (storeO r s p)) i "Store" "rule" as = as.bind fun q => callAt C "Store.rule" (.io i :: q.1) q.2 := by
  rw [storeO, metS_own lk_rule, show (("Store" : Str) ++ "." ++ "rule" : Str) = "Store.rule" by decide +kernel]
theorem met_asked {C : Calls} {r : Rule} {s : Std} {p : List (Nat × Nat)} {i : Nat} {as : Option (List VL.Arg × VL.Env)} : metS C (.own (storeO r s p)) i "Store" "asked" as = as.bind fun q => callAt C "Store.asked" (.io i :: q.1) q.2 := by
  rw [storeO, metS_own lk_asked, show (("Store" : Str) ++ "." ++ "asked" : Str) = "Store.asked" by decide +kernel]
theorem Store_init_at (h : H_Store_u_init_u T) {r : Rule} {s : Std} (hr : r.ok) (hs : s.ok r) : callN T lineN (n + 7) "Store.__init__" [.io (.obj "Store" []), .sh (enc r), .sh (enc s)] = some (.none, [storeO r s []]) := by
  refine call_eq (run_wp [.io (.obj "Store" []), .shr (enc r), .shr (enc s)] h.Store_u_init_u rfl rfl ?_)
  simp only [D_Store_u_init_u, b_Store_u_init_u_4]
  simp_arith [need_rule_at h.toH_need_rule r hr, b_Store_u_init_u_3, need_standing_at h.toH_need_standing r s hs hr.hi, b_Store_u_init_u_2, b_Store_u_init_u_1, b_Store_u_init_u_0, pf_held, pf_now, pf_past, storeO]
theorem Store_ask_at (h : H_Store_ask T) {r : Rule} {s : Std} {p : List (Nat × Nat)} {i : Nat} (hr : r.ok) (hs : s.ok r) (hi : i < r.n) (hp : p.length ≤ 900) : callN T lineN (n + 4) "Store.ask" [.io (storeO r s p), .sh (.int i)] = some (.int (askR r s i).1, [storeO r (askR r s i).2 (p ++ [(i, (askR r s i).1)])]) := by
  refine call_eq (run_wp [.io (storeO r s p), .shr (.int i), .un] h.Store_ask rfl rfl ?_)
  simp only [D_Store_ask, b_Store_ask_3, storeO]
  have hp' : p.length ≤ 1000 := by omega
  simp_arith [lk_held, idx_rule0, need_item_at h.toH_need_item _ _ hi, b_Store_ask_2, lk_now, make_ask_at h.toH_make_ask hr hs hi, putTg_fl, b_Store_ask_1, b_Store_ask_0, pf_now3, pf_past3, shrs, lk_past, hp']
  rw [List.map_append]; rfl
theorem Store_standing_at (h : H_Store_standing T) {r : Rule} {s : Std} {p : List (Nat × Nat)} : callN T lineN (n + 1) "Store.standing" [.io (storeO r s p)] = some (enc s, [storeO r s p]) := by
  refine call_eq (run_wp [.io (storeO r s p)] h.Store_standing rfl rfl ?_)
  simp only [D_Store_standing, b_Store_standing_0, storeO]
  simp_arith [lk_now]
theorem Store_rule_at (h : H_Store_rule T) {r : Rule} {s : Std} {p : List (Nat × Nat)} : callN T lineN (n + 1) "Store.rule" [.io (storeO r s p)] = some (enc r, [storeO r s p]) := by
  refine call_eq (run_wp [.io (storeO r s p)] h.Store_rule rfl rfl ?_)
  simp only [D_Store_rule, b_Store_rule_0, storeO]
  simp_arith [lk_held]
theorem Store_asked_at (h : H_Store_asked T) {r : Rule} {s : Std} {p : List (Nat × Nat)} : callN T lineN (n + 1) "Store.asked" [.io (storeO r s p)] = some (encL p, [storeO r s p]) := by
  refine call_eq (run_wp [.io (storeO r s p)] h.Store_asked rfl rfl ?_)
  simp only [D_Store_asked, b_Store_asked_0, storeO]
  simp_arith [lk_past]
/-! stages 5, 6 -/
abbrev Case := Nat × Std
structure RulesOk (rs : List Rule) : Prop where
  ne : 1 ≤ rs.length
  le : rs.length ≤ 3
  ok : ∀ r ∈ rs, r.ok
  same : ∀ r ∈ rs, r.n = (rs.headD ⟨0, 0, []⟩).n
def items (rs : List Rule) : Nat := (rs.headD ⟨0, 0, []⟩).n
structure CaseOk (rs : List Rule) (c : Case) : Prop where
  ex : ∃ r, rs[c.1]? = some r ∧ c.2.ok r
def askC (rs : List Rule) (c : Case) (i : Nat) : Nat × Case := ((askR (rs.getD c.1 ⟨0, 0, []⟩) c.2 i).1, c.1, (askR (rs.getD c.1 ⟨0, 0, []⟩) c.2 i).2)
theorem are_rules_at (h : H_are_rules_of T) {rs : List Rule} (ok : RulesOk rs) : callN T lineN (n + 6) "are_rules_of" [.sh (enc rs)] = some (.bool true, []) := by
  refine call_eq (run_wp [.shr (enc rs), .un] h.are_rules_of rfl rfl ?_)
  simp only [D_are_rules_of, b_are_rules_of_4]
  have e1 : (1 : Int) ≤ rs.length := by have := ok.ne; omega
  have e2 : (rs.length : Int) ≤ 3 := by have := ok.le; omega
  have e3 := ok.le
  simp_arith [e1, e2, b_are_rules_of_2]
  refine vev_comp (l := rs) (f := enc) (fun x => .bool true) (by simp_arith ) (by simp) (lineN_le' (by omega)) US.un (fun x hx => ?_) ?_
  · simp_arith [is_rule_at h.toH_is_rule x (ok.ok x hx)]
  have e4 : ∃ r0, rs[0]? = some r0 ∧ items rs = r0.n := by
    cases rs with
    | nil => have := ok.ne; simp at this
    | cons r0 l => exact ⟨r0, rfl, rfl⟩
  obtain ⟨r0, e4, e5⟩ := e4
  simp_arith [all_map (fun _ => true) rs]
  rw [List.all_eq_true.mpr (fun _ _ => rfl)]
  simp_arith [b_are_rules_of_0]
  refine vev_comp (l := rs) (f := enc) (fun x => .bool true) (by simp_arith ) (by simp) (lineN_le' (by omega)) US.un (fun x hx => ?_) ?_
  · simp_arith [idx_rule0, e4]
    have := ok.same x hx
    rw [show (rs.headD ⟨0, 0, []⟩).n = r0.n from e5] at this
    simp [this]
  · simp_arith [all_map (fun _ => true) rs]
    rw [List.all_eq_true.mpr (fun _ _ => rfl)]
theorem need_rules_at (h : H_need_rules T) {rs : List Rule} (ok : RulesOk rs) : callN T lineN (n + 7) "need_rules" [.sh (enc rs)] = some (.none, []) := by
  refine call_eq (run_wp [.shr (enc rs)] h.need_rules rfl rfl ?_)
  simp only [D_need_rules, b_need_rules_1]
  simp_arith [are_rules_at h.toH_are_rules_of ok]
theorem is_case_at (h : H_is_case_of T) {rs : List Rule} (ok : RulesOk rs) {c : Case} (hc : CaseOk rs c) : callN T lineN (n + 5) "is_case_of" [.sh (enc rs), .sh (enc c)] = some (.bool true, []) := by
  obtain ⟨r, h1, h2⟩ := hc.ex
  obtain ⟨k, s⟩ := c
  refine call_eq (run_wp [.shr (enc rs), .shr (enc (k, s))] h.is_case_of rfl rfl ?_)
  simp only [D_is_case_of, b_is_case_of_2]
  have e1 : k < rs.length := (List.getElem?_eq_some_iff.mp h1).1
  have e2 := ok.ok r (List.mem_of_getElem? h1)
  simp only [] at h1 h2
  simp_arith [enc_pair, is_below_nat h.toH_is_below, e1, b_is_case_of_0, h1]
  simp_arith [is_standing_at h.toH_is_standing_of r s h2 e2.hi]
theorem need_case_at (h : H_need_case T) {rs : List Rule} (ok : RulesOk rs) {c : Case} (hc : CaseOk rs c) : callN T lineN (n + 6) "need_case" [.sh (enc rs), .sh (enc c)] = some (.none, []) := by
  refine call_eq (run_wp [.shr (enc rs), .shr (enc c)] h.need_case rfl rfl ?_)
  simp only [D_need_case, b_need_case_1]
  simp_arith [is_case_at h.toH_is_case_of ok hc]
theorem CaseOk.get {rs : List Rule} {c : Case} (hc : CaseOk rs c) : ∃ r, rs[c.1]? = some r ∧ rs.getD c.1 ⟨0, 0, []⟩ = r ∧ c.2.ok r ∧ r ∈ rs := by
  obtain ⟨r, h1, h2⟩ := hc.ex
  exact ⟨r, h1, by rw [List.getD_eq_getElem?_getD, h1]; rfl, h2, List.mem_of_getElem? h1⟩
theorem RulesOk.sz {rs : List Rule} (ok : RulesOk rs) {r : Rule} (h : r ∈ rs) : r.n = items rs := ok.same r h
theorem askC_ok {rs : List Rule} (ok : RulesOk rs) {c : Case} (hc : CaseOk rs c) {i : Nat} (hi : i < items rs) : CaseOk rs (askC rs c i).2 := by
  obtain ⟨r, h1, h2, h3, h4⟩ := hc.get
  refine ⟨r, h1, ?_⟩
  simp only [askC, h2]
  exact ask_ok (ok.ok r h4) h3 (by rw [ok.sz h4]; exact hi)
theorem ask_case_at (h : H_ask_case T) {rs : List Rule} (ok : RulesOk rs) {c : Case} (hc : CaseOk rs c) {i : Nat} (hi : i < items rs) : callN T lineN (n + 3) "ask_case" [.sh (enc rs), .sh (enc c), .sh (.int i)] = some (enc (askC rs c i), []) := by
  obtain ⟨r, h1, h2, h3, h4⟩ := hc.get
  obtain ⟨k, s⟩ := c
  refine call_eq (run_wp [.shr (enc rs), .shr (enc (k, s)), .shr (.int i), .un, .un] h.ask_case rfl rfl ?_)
  simp only [D_ask_case, b_ask_case_1]
  simp only [] at h1 h2 h3
  simp_arith [enc_pair, h1, make_ask_at h.toH_make_ask (ok.ok r h4) h3 (show i < r.n by rw [ok.sz h4]; exact hi), b_ask_case_0]
  simp only [askC, h2, enc_pair, enc_nat]
def parted (rs : List Rule) : Case → Case → List Nat → Bool
  | _, _, [] => false
  | c, d, i :: l => if (askC rs c i).1 = (askC rs d i).1 then parted rs (askC rs c i).2 (askC rs d i).2 l else true
theorem do_part_at (h : H_do_part T) {rs : List Rule} (ok : RulesOk rs) {c d : Case} (hc : CaseOk rs c) (hd : CaseOk rs d) {l : List Nat} (hl : ∀ x ∈ l, x < items rs) : callN T lineN (n + 4) "do_part" [.sh (enc rs), .sh (enc c), .sh (enc d), .sh (enc l)] = some (.bool (parted rs c d l), []) := by
  refine call_eq (run_wp [.shr (enc rs), .shr (enc c), .shr (enc d), .shr (enc l), .un, .un, .un] h.do_part rfl rfl ?_)
  simp only [D_do_part, b_do_part_5]
  simp_arith 
  refine for_retw (l := l) (f := enc) (R := fun p q env => p ++ q = l ∧ ∃ c' d' x y z, CaseOk rs c' ∧ CaseOk rs d' ∧ parted rs c d l = parted rs c' d' q ∧ env = [.shr (enc rs), .shr (enc c'), .shr (enc d'), .shr (enc l), x, y, z] ∧ freeS x = true ∧ freeS y = true ∧ freeS z = true) ?_ ?_ ?_
  · exact ⟨rfl, c, d, _, _, _, hc, hd, rfl, rfl, rfl, rfl, rfl⟩
  · rintro p i q env ⟨e, c', d', x, y, z, hc', hd', hp, rfl, hx, hy, hz⟩
    have hi := hl i (by rw [← e]; simp)
    refine ⟨_, by simp_arith [hx]; rfl, ?_⟩
    simp_arith [b_do_part_4, ask_case_at h.toH_ask_case ok hc' hi, ask_case_at h.toH_ask_case ok hd' hi, hy, hz, b_do_part_3]
    by_cases hq : (askC rs c' i).1 = (askC rs d' i).1
    · simp_arith [hq, b_do_part_1]
      refine ⟨e, _, _, _, _, _, askC_ok ok hc' hi, askC_ok ok hd' hi, ?_, rfl, freeS_shr, freeS_shr, freeS_shr⟩
      rw [hp, parted, if_pos hq]
    · simp_arith [hq, b_do_part_2]
      rw [hp, parted, if_neg hq]
  · rintro env ⟨e, c', d', x, y, z, hc', hd', hp, rfl, hx, hy, hz⟩
    simp_arith [b_do_part_0]
    rw [hp, parted]
theorem need_cases_at (h : H_need_cases T) {rs : List Rule} (ok : RulesOk rs) {c d : Case} (hc : CaseOk rs c) (hd : CaseOk rs d) : callN T lineN (n + 8) "need_cases" [.sh (enc rs), .sh (enc c), .sh (enc d)] = some (.none, []) := by
  refine call_eq (run_wp [.shr (enc rs), .shr (enc c), .shr (enc d)] h.need_cases rfl rfl ?_)
  simp only [D_need_cases, b_need_cases_2]
  simp_arith [need_rules_at h.toH_need_rules ok, b_need_cases_1, need_case_at h.toH_need_case ok hc, b_need_cases_0, need_case_at h.toH_need_case ok hd]
theorem parted_by_at (h : H_parted_by T) {rs : List Rule} (ok : RulesOk rs) {c d : Case} (hc : CaseOk rs c) (hd : CaseOk rs d) {l : List Nat} (hl : ∀ x ∈ l, x < items rs) (hn : l.length ≤ 1000) : callN T lineN (n + 9) "parted_by" [.sh (enc rs), .sh (enc c), .sh (enc d), .sh (enc l)] = some (.bool (parted rs c d l), []) := by
  refine call_eq (run_wp [.shr (enc rs), .shr (enc c), .shr (enc d), .shr (enc l)] h.parted_by rfl rfl ?_)
  simp only [D_parted_by, b_parted_by_2]
  have e4 : ∃ r0, rs[0]? = some r0 ∧ items rs = r0.n := by
    cases rs with
    | nil => have := ok.ne; simp at this
    | cons r0 l => exact ⟨r0, rfl, rfl⟩
  obtain ⟨r0, e4, e5⟩ := e4
  rw [e5] at hl
  simp_arith [need_cases_at h.toH_need_cases ok hc hd, b_parted_by_1, e4, idx_rule0, need_asks_at h.toH_need_asks r0.n l hl hn, b_parted_by_0]
  rw [← e5] at hl
  simp_arith [do_part_at h.toH_do_part ok hc hd hl]
end PL

set_option Elab.async false
set_option linter.all false
set_option maxRecDepth 100000
set_option maxHeartbeats 2000000
open PySem VL VL.VE
local macro_rules | `(tactic| simp_arith) => `(tactic| simp -implicitDefEqProofs only [xSs, xS.eq_1, xS.eq_2, xS.eq_3, xS.eq_4, xS.eq_5, xS.eq_6, xS.eq_10, xS.eq_11, xS.eq_12, xS.eq_13, xS.eq_14, xS.eq_17, xS.eq_18, xS.eq_19, xS.eq_20, xS.eq_21, xS.eq_22, xS.eq_23, evE.eq_2, evE.eq_3, evE.eq_4, evE.eq_5, evE.eq_6, evE.eq_7, evE.eq_8, evE.eq_9, evE.eq_10, evE.eq_11, evE.eq_12, evE.eq_13, evE.eq_14, evE.eq_16, evE.eq_17, evE.eq_18, evE.eq_19, evE.eq_20, evE.eq_21, evE.eq_22, evE.eq_28, evE.eq_29, evE.eq_30, evEs, evRs, evAs, evAnd, evOr, evEo, evSrc, evP.eq_1, evP.eq_3, evP_o, ownV_list, ownV_encL, xS_retO, retOV_list, retOV_encL, xS_ext, extS_own, extS_ownL, evPs, putPs, tst, opv.eq_2, resolveAll, getS_z, getS_s, setS_z, setS_s, putTgs_nil, putTgs_cons, putTg_nm, putTg_tp, freeS_un, freeS_shr, freeS_own, putTg_fl, flE_own, flE_io, fldsOf_own, fldsOf_io, lstOf_own, lstOf_io, putO_eq, putOS_own, putOS_io, holdsB_own, holdsB_io, argsN, argsAt_nil, argsAt_sh, argsAt_scr, argsAt_io, arS_own, arS_io, shrs_nil, shrs_cons, shS_shr, iosOf_nil, iosOf_sh, iosOf_scr, iosOf_io, ioS_io, vev_meth, metS_own, metS_io, ev_fld, fldS_own, fldS_io, ev_lfld, lfldS_own, lfldS_io, fdv_d, flv_l, argsBack, ioIx, xS_ins, insS_own, nodupB_nil, nodupB_one, callAt, vev_scut, scutS_scr, evAs_scr, asS_scr, xS_retV, retVS_own, xS_retSelf, retSS_io, ev_var, varE_shr, varE_lst, opv_var, opvV_shr, opvV_own, opvV_io, res_st, res_sl, resS_own, resS_io, seqD_enc, seqD_encL, idx_enc0, idx_encL0, idx_enc, idx_encL, idx_encL1, idx_enc1, slc_to, slc_from, slc_from1, slc_to1, rev_enc, rev_encL, len_enc, len_encL, len_list, len_tuple, list_enc, list_encL, tuple_enc, tuple_encL, bi_tuple, bi_list_l, bi_list_t, bi_tuple_t, bi_int, bi_intb, repr_bool, eqD_strB, spl_t, spl_l, spl_f, idx_t0, idx_t1, idx_t2, idx_l0, idx_l1, idx_l2, idx_ln, idx_tn, seqD_l, seqD_t, spl_tt, tru_b, tru_i, tru_n, op_cmp, op_bin, vcmp_eq, vcmp_ne, cmp_lt, cmp_le, cmp_gt, cmp_ge, vcmp_is, vcmp_isnot, vcmp_in, vcmp_notin, is_bb, is_none_int, is_none_tup, is_none_list, is_none_none, eq_int, eq_bool, vbin_add, vbin_sub, bin_mulC, bin_powC, bin_modC, bin_fdivC, bin_addl, bin_addt, bin_addE, bin_addEL, bin_addN1, mul_l1, mul_l0, mul_t1, mul_t0, bin_addL1, bin_addL0, bin_addN0, Nat.add_zero, Int.toNat_natCast, bind_ite, map_ite, set_t1, set_t2, isin_int_int, isin_bool_int, isin_tuple_tuple, isin_list_list, isin_enc, isin_encL, Int_nat_add, Int_nat_add1, Int.natCast_inj, Int.ofNat_lt, Int.ofNat_le, Option.bind_eq_bind, Option.bind_some, Option.bind_none, Option.map_some, Option.map_none, Wp_some, Wp_bind, Wp_map, Wp_none, if_true, if_false, ite_true, ite_false, decide_true, decide_false, Bool.and_true, Bool.true_and, Bool.and_false, Bool.false_and, Bool.not_true, Bool.not_false, Bool.and_self, List.length_cons, List.length_nil, List.cons_append, List.nil_append, List.append_nil, List.append_assoc, List.map_cons, List.map_nil, Nat.zero_add, Nat.reduceAdd, Nat.reduceLT, Nat.reduceLeDiff, Nat.lt_add_one, Nat.zero_lt_succ, Bool.false_eq_true, reduceCtorEq, true_or, true_and, and_true, and_self, lineN_le, lineN_lt, putTg_pair, idx_pair0, idx_pair1, Wp_ite, count_nat, count_natL, index_nat, index_natL, in_nat, in_natL, cast_eq0, cast_eq1, cast_eq2, cast_eq3, Int.cast_ofNat_Int, eq_self, Int.reduceLT, Int.reduceLE, Int.reduceEq, Int.reduceAdd, Nat.reduceEqDiff, enumD_map, zipD_map, lst_enc, tup_enc, slc_toL, slc_fromL, slc_from1L, List.length_append, List.length_map, List.length_take, List.length_drop, enc_nat, enc_int, imp_false, not_false_eq_true, implies_true, forall_const]) | `(tactic| simp_arith [$ts,*]) => `(tactic| simp -implicitDefEqProofs only [xSs, xS.eq_1, xS.eq_2, xS.eq_3, xS.eq_4, xS.eq_5, xS.eq_6, xS.eq_10, xS.eq_11, xS.eq_12, xS.eq_13, xS.eq_14, xS.eq_17, xS.eq_18, xS.eq_19, xS.eq_20, xS.eq_21, xS.eq_22, xS.eq_23, evE.eq_2, evE.eq_3, evE.eq_4, evE.eq_5, evE.eq_6, evE.eq_7, evE.eq_8, evE.eq_9, evE.eq_10, evE.eq_11, evE.eq_12, evE.eq_13, evE.eq_14, evE.eq_16, evE.eq_17, evE.eq_18, evE.eq_19, evE.eq_20, evE.eq_21, evE.eq_22, evE.eq_28, evE.eq_29, evE.eq_30, evEs, evRs, evAs, evAnd, evOr, evEo, evSrc, evP.eq_1, evP.eq_3, evP_o, ownV_list, ownV_encL, xS_retO, retOV_list, retOV_encL, xS_ext, extS_own, extS_ownL, evPs, putPs, tst, opv.eq_2, resolveAll, getS_z, getS_s, setS_z, setS_s, putTgs_nil, putTgs_cons, putTg_nm, putTg_tp, freeS_un, freeS_shr, freeS_own, putTg_fl, flE_own, flE_io, fldsOf_own, fldsOf_io, lstOf_own, lstOf_io, putO_eq, putOS_own, putOS_io, holdsB_own, holdsB_io, argsN, argsAt_nil, argsAt_sh, argsAt_scr, argsAt_io, arS_own, arS_io, shrs_nil, shrs_cons, shS_shr, iosOf_nil, iosOf_sh, iosOf_scr, iosOf_io, ioS_io, vev_meth, metS_own, metS_io, ev_fld, fldS_own, fldS_io, ev_lfld, lfldS_own, lfldS_io, fdv_d, flv_l, argsBack, ioIx, xS_ins, insS_own, nodupB_nil, nodupB_one, callAt, vev_scut, scutS_scr, evAs_scr, asS_scr, xS_retV, retVS_own, xS_retSelf, retSS_io, ev_var, varE_shr, varE_lst, opv_var, opvV_shr, opvV_own, opvV_io, res_st, res_sl, resS_own, resS_io, seqD_enc, seqD_encL, idx_enc0, idx_encL0, idx_enc, idx_encL, idx_encL1, idx_enc1, slc_to, slc_from, slc_from1, slc_to1, rev_enc, rev_encL, len_enc, len_encL, len_list, len_tuple, list_enc, list_encL, tuple_enc, tuple_encL, bi_tuple, bi_list_l, bi_list_t, bi_tuple_t, bi_int, bi_intb, repr_bool, eqD_strB, spl_t, spl_l, spl_f, idx_t0, idx_t1, idx_t2, idx_l0, idx_l1, idx_l2, idx_ln, idx_tn, seqD_l, seqD_t, spl_tt, tru_b, tru_i, tru_n, op_cmp, op_bin, vcmp_eq, vcmp_ne, cmp_lt, cmp_le, cmp_gt, cmp_ge, vcmp_is, vcmp_isnot, vcmp_in, vcmp_notin, is_bb, is_none_int, is_none_tup, is_none_list, is_none_none, eq_int, eq_bool, vbin_add, vbin_sub, bin_mulC, bin_powC, bin_modC, bin_fdivC, bin_addl, bin_addt, bin_addE, bin_addEL, bin_addN1, mul_l1, mul_l0, mul_t1, mul_t0, bin_addL1, bin_addL0, bin_addN0, Nat.add_zero, Int.toNat_natCast, bind_ite, map_ite, set_t1, set_t2, isin_int_int, isin_bool_int, isin_tuple_tuple, isin_list_list, isin_enc, isin_encL, Int_nat_add, Int_nat_add1, Int.natCast_inj, Int.ofNat_lt, Int.ofNat_le, Option.bind_eq_bind, Option.bind_some, Option.bind_none, Option.map_some, Option.map_none, Wp_some, Wp_bind, Wp_map, Wp_none, if_true, if_false, ite_true, ite_false, decide_true, decide_false, Bool.and_true, Bool.true_and, Bool.and_false, Bool.false_and, Bool.not_true, Bool.not_false, Bool.and_self, List.length_cons, List.length_nil, List.cons_append, List.nil_append, List.append_nil, List.append_assoc, List.map_cons, List.map_nil, Nat.zero_add, Nat.reduceAdd, Nat.reduceLT, Nat.reduceLeDiff, Nat.lt_add_one, Nat.zero_lt_succ, Bool.false_eq_true, reduceCtorEq, true_or, true_and, and_true, and_self, lineN_le, lineN_lt, putTg_pair, idx_pair0, idx_pair1, Wp_ite, count_nat, count_natL, index_nat, index_natL, in_nat, in_natL, cast_eq0, cast_eq1, cast_eq2, cast_eq3, Int.cast_ofNat_Int, eq_self, Int.reduceLT, Int.reduceLE, Int.reduceEq, Int.reduceAdd, Nat.reduceEqDiff, enumD_map, zipD_map, lst_enc, tup_enc, slc_toL, slc_fromL, slc_from1L, List.length_append, List.length_map, List.length_take, List.length_drop, enc_nat, enc_int, imp_false, not_false_eq_true, implies_true, forall_const, $ts,*])
namespace PL
open PySem VL VL.VE VL.VE.Enc
variable {T : Str → Option Def} {n : Nat}
/-! what a law draws -/
theorem prime_at {L : List PyData} (h : L.length = 13) (hl : ∀ d ∈ L, ∃ p : Int, d = .int p ∧ 0 < p ∧ p < 2147483648) (x : Int) : ∃ p : Int, idxD (.list L) (.int (x % 13)) = some (.int p) ∧ 0 < p ∧ p < 2147483648 := by
  obtain ⟨m, hm, e⟩ : ∃ m : Nat, m < 13 ∧ x % 13 = m := ⟨(x % 13).toNat, by omega, by omega⟩
  rw [e, idx_ln]
  have hm' : m < L.length := by omega
  rw [List.getElem?_eq_getElem hm']
  obtain ⟨p, h1, h2, h3⟩ := hl _ (List.getElem_mem hm')
  exact ⟨p, by rw [h1], h2, h3⟩
theorem natAbs_lt {i : Int} {n : Nat} (h : 0 ≤ i) (g : i < n) : i.natAbs < n := by omega
theorem mod_range {q : Int} (a : Int) (h : 0 < q) (u : q < 2147483648) : 0 ≤ a % q ∧ a % q < 2147483648 := by
  have h1 := Int.emod_nonneg a (show q ≠ 0 by omega)
  have h2 := Int.emod_lt_of_pos a h
  omega
theorem spread_at (h : H__law_spread T) (cell : Int) (at_ : Nat) (hat : at_ ≤ 1000000) : ∃ w : Int, callN T lineN (n + 1) "_law_spread" [.sh (.int cell), .sh (.int at_)] = some (.int w, []) := by
  suffices H : Wp (callN T lineN (n + 1) "_law_spread" [.sh (.int cell), .sh (.int at_)]) fun d os => ∃ w : Int, d = .int w ∧ os = [] by
    obtain ⟨d, os, h, w, rfl, rfl⟩ := H
    exact ⟨w, h⟩
  refine run_wp [.shr (.int cell), .shr (.int at_), .un, .un, .un, .un, .un, .un] h._law_spread rfl rfl ?_
  simp only [D__law_spread, b__law_spread_9]
  simp_arith 
  refine ⟨by decide, ?_⟩
  by_cases hc : (10 : Int) ^ (18 : Int).toNat ≤ cell
  · simp_arith [hc, b__law_spread_8]
    exact ⟨cell, rfl⟩
  simp_arith [hc, b__law_spread_7, b__law_spread_6, b__law_spread_5]
  refine ⟨.inl (by decide), .inl (by omega), .inr (by decide), ?_⟩
  have pr := fun x => prime_at (L := [PyData.int 2147483629, PyData.int 2147483587, PyData.int 2147483579, PyData.int 2147483563,
                    PyData.int 2147483549, PyData.int 2147483543, PyData.int 2147483497, PyData.int 2147483489,
                    PyData.int 2147483477, PyData.int 2147483423, PyData.int 2147483399, PyData.int 2147483353,
                    PyData.int 2147483323]) rfl (by
      intro d hd
      simp only [List.mem_cons, List.not_mem_nil, or_false] at hd
      rcases hd with rfl | rfl | rfl | rfl | rfl | rfl | rfl | rfl | rfl | rfl | rfl | rfl | rfl <;> exact ⟨_, rfl, by decide, by decide⟩) x
  revert pr
  generalize [PyData.int 2147483629, PyData.int 2147483587, PyData.int 2147483579, PyData.int 2147483563,
                    PyData.int 2147483549, PyData.int 2147483543, PyData.int 2147483497, PyData.int 2147483489,
                    PyData.int 2147483477, PyData.int 2147483423, PyData.int 2147483399, PyData.int 2147483353,
                    PyData.int 2147483323] = L
  intro pr
  have hm1 : (cell % 1000000007 * (2 * ↑at_ + 69069) + ↑at_ * 40503 + 977).natAbs < 2 ^ 64 := by
    have a1 : 0 ≤ cell % 1000000007 := by omega
    have a2 : cell % 1000000007 < 1000000007 := by omega
    have a3 : cell % 1000000007 * (2 * (at_ : Int) + 69069) ≤ 1000000007 * (2 * 1000000 + 69069) := Int.mul_le_mul (by omega) (by omega) (by omega) (by omega)
    have a4 : 0 ≤ cell % 1000000007 * (2 * (at_ : Int) + 69069) := Int.mul_nonneg a1 (by omega)
    omega
  revert hm1
  generalize cell % 1000000007 * (2 * ↑at_ + 69069) + ↑at_ * 40503 + 977 = mixed
  intro hm1
  obtain ⟨q1, e1, l1, u1⟩ := pr at_
  obtain ⟨q2, e2, l2, u2⟩ := pr (at_ + 5)
  obtain ⟨q3, e3, l3, u3⟩ := pr (at_ + 7)
  have lt : (0 : Int) < 13 := by decide
  simp_arith [b__law_spread_4, e1, lt, l1, hm1]
  obtain ⟨b1, b2⟩ := mod_range (mixed ^ (3 : Int).toNat) l1 u1
  generalize mixed ^ (3 : Int).toNat % q1 = one at *
  simp_arith [b__law_spread_3]
  have c1 : 0 ≤ cell % 65537 + 5 := by omega
  have c2 : cell % 65537 + 5 < 70000 := by omega
  generalize cell % 65537 + 5 = rest at *
  have hm2 : (one * (at_ + 3) + rest).natAbs < 2 ^ 64 := by
    have a3 : one * ((at_ : Int) + 3) ≤ 2147483648 * (1000000 + 3) := Int.mul_le_mul (by omega) (by omega) (by omega) (by omega)
    have a4 : 0 ≤ one * ((at_ : Int) + 3) := Int.mul_nonneg b1 (by omega)
    omega
  simp_arith [b__law_spread_2, e2, l2, lt, hm2]
  refine ⟨.inr (by omega), ?_⟩
  obtain ⟨d1, d2⟩ := mod_range ((one * (at_ + 3) + rest) ^ (5 : Int).toNat) l2 u2
  generalize (one * (at_ + 3) + rest) ^ (5 : Int).toNat % q2 = two at *
  have hm3 : (two + one % 1009 + at_).natAbs < 2 ^ 64 := by omega
  simp_arith [b__law_spread_1, e3, l3, lt, hm3]
  obtain ⟨f1, f2⟩ := mod_range ((two + one % 1009 + at_) ^ (3 : Int).toNat) l3 u3
  generalize (two + one % 1009 + at_) ^ (3 : Int).toNat % q3 = three at *
  simp_arith [b__law_spread_0]
  refine ⟨.inr (by decide), .inr (by decide), _, rfl⟩
/-- a pen from which at most k cells were drawn -/
def Pen (k : Nat) (l : List PyData) : Prop := ∃ (cells : List Int) (a : Nat) (w : Int), l = [encL cells, .int a, .int w] ∧ a ≤ k
theorem Pen.mono {k m : Nat} {l : List PyData} (h : Pen k l) (le : k ≤ m) : Pen m l :=
  let ⟨c, a, w, e, g⟩ := h; ⟨c, a, w, e, Nat.le_trans g le⟩
theorem take_end (h : H__law_take T) {a b : PyData} {x y z : Slot} {w : Int} {m : Nat} (hm : 0 < m) (hm' : m ≤ 1000000) (hx : freeS x = true) :
    Wp (xSs (callN T lineN (n + 1)) lineN b__law_take_2 [.io (.lst [a, b, .int w]), .shr (.int m), x, y, z]) fun fl env => ∃ v : Nat, v < m ∧ fl = .rt (.int v) ∧ env = [.io (.lst [a, b, .int (w / m)]), .shr (.int m), .shr (.int v), y, z] := by
  have h1 : (0 : Int) < m := by omega
  have h2 : (m : Int) < 1073741824 := by omega
  obtain ⟨v, hv, e⟩ : ∃ v : Nat, v < m ∧ w % (m : Int) = v := ⟨(w % m).toNat, by have := Int.emod_lt_of_pos w h1; have := Int.emod_nonneg w (show (m : Int) ≠ 0 by omega); omega, by have := Int.emod_nonneg w (show (m : Int) ≠ 0 by omega); omega⟩
  simp only [b__law_take_2]
  simp_arith [h1, e, hx, b__law_take_1, h2, b__law_take_0]
  exact ⟨v, hv, rfl, rfl⟩
theorem take_mid (h : H__law_take T) {cells : List Int} {b : PyData} {w cell : Int} {a m : Nat} {x : Slot} (ha : a ≤ 1000000) :
    Wp (xSs (callN T lineN (n + 1)) lineN b__law_take_4 [.io (.lst [encL cells, b, .int w]), .shr (.int m), x, .shr (.int a), .shr (.int cell)]) fun fl env => fl = .nx ∧ ∃ w' : Int, env = [.io (.lst [encL cells, .int (a + 1 : Nat), .int w']), .shr (.int m), x, .shr (.int a), .shr (.int cell)] := by
  obtain ⟨w', e⟩ := spread_at (n := n) h.toH__law_spread cell a ha
  simp only [b__law_take_4]
  simp_arith [b__law_take_3, e]
  exact ⟨w', rfl⟩
theorem take_at (h : H__law_take T) {l : List PyData} {k m : Nat} (hp : Pen k l) (hk : k ≤ 1000000) (hm : 0 < m) (hm' : m ≤ 1000000) :
    ∃ (v : Nat) (l' : List PyData), callN T lineN (n + 2) "_law_take" [.io (.lst l), .sh (.int m)] = some (.int v, [.lst l']) ∧ v < m ∧ Pen (k + 1) l' := by
  obtain ⟨cells, a, w, rfl, ha⟩ := hp
  have ha' : a ≤ 1000000 := by omega
  suffices H : Wp (callN T lineN (n + 2) "_law_take" [.io (.lst [encL cells, .int a, .int w]), .sh (.int m)]) fun d os => ∃ (v : Nat) (l' : List PyData), d = .int v ∧ os = [.lst l'] ∧ v < m ∧ Pen (k + 1) l' by
    obtain ⟨d, os, h, v, l', rfl, rfl, h1, h2⟩ := H
    exact ⟨v, l', h, h1, h2⟩
  refine run_wp [.io (.lst [encL cells, .int a, .int w]), .shr (.int m), .un, .un, .un] h._law_take rfl rfl ?_
  simp only [D__law_take, b__law_take_11]
  simp_arith 
  by_cases hw : w < m
  · simp_arith [hw, b__law_take_10, b__law_take_9, b__law_take_8]
    by_cases h1 : a < cells.length
    · simp_arith [h1, b__law_take_5, List.getElem?_eq_getElem h1]
      refine Wp_mono (take_mid h ha') ?_
      rintro fl env ⟨rfl, w', rfl⟩
      simp_arith 
      refine Wp_mono (take_end h hm hm' rfl) ?_
      rintro fl env ⟨v, hv, rfl, rfl⟩
      simp_arith 
      exact ⟨v, _, rfl, rfl, hv, cells, a + 1, _, rfl, by omega⟩
    · simp_arith [h1, b__law_take_7]
      by_cases h2 : (0 : Int) < cells.length
      · have p1 : (0 : Int) < 10 ^ (17 : Int).toNat + a := Int.add_pos_of_pos_of_nonneg (by decide) (by omega)
        obtain ⟨j, hj, e⟩ : ∃ j : Nat, j < cells.length ∧ ((a : Int) * 5 + 3) % (cells.length : Int) = j := ⟨(((a : Int) * 5 + 3) % (cells.length : Int)).toNat, by have := Int.emod_lt_of_pos ((a : Int) * 5 + 3) h2; omega, by have := Int.emod_nonneg ((a : Int) * 5 + 3) (show (cells.length : Int) ≠ 0 by omega); omega⟩
        simp_arith [h2, b__law_take_6, e, List.getElem?_eq_getElem hj, p1]
        refine ⟨.inr (by decide), by decide, ?_⟩
        refine Wp_mono (take_mid h ha') ?_
        rintro fl env ⟨rfl, w', rfl⟩
        simp_arith 
        refine Wp_mono (take_end h hm hm' rfl) ?_
        rintro fl env ⟨v, hv, rfl, rfl⟩
        simp_arith 
        exact ⟨v, _, rfl, rfl, hv, cells, a + 1, _, rfl, by omega⟩
      · simp_arith [h2]
        refine Wp_mono (take_mid h ha') ?_
        rintro fl env ⟨rfl, w', rfl⟩
        simp_arith 
        refine Wp_mono (take_end h hm hm' rfl) ?_
        rintro fl env ⟨v, hv, rfl, rfl⟩
        simp_arith 
        exact ⟨v, _, rfl, rfl, hv, cells, a + 1, _, rfl, by omega⟩
  · simp_arith [hw]
    refine Wp_mono (take_end h hm hm' rfl) ?_
    rintro fl env ⟨v, hv, rfl, rfl⟩
    simp_arith 
    exact ⟨v, _, rfl, rfl, hv, cells, a, _, rfl, by omega⟩
theorem anew_at (h : H__law_anew T) {l : List PyData} {k : Nat} (hp : Pen k l) : ∃ l' : List PyData, callN T lineN (n + 1) "_law_anew" [.io (.lst l)] = some (.none, [.lst l']) ∧ Pen k l' := by
  obtain ⟨cells, a, w, rfl, ha⟩ := hp
  refine ⟨[encL cells, .int a, .int 0], ?_, cells, a, 0, rfl, ha⟩
  refine call_eq (run_wp [.io (.lst [encL cells, .int a, .int w])] h._law_anew rfl rfl ?_)
  simp only [D__law_anew, b__law_anew_1]
  simp_arith [b__law_anew_0]
theorem one_at (h : H__law_one T) {l : List PyData} {k : Nat} (hp : Pen k l) (hk : k ≤ 1000000) {ds : List PyData} (h0 : 0 < ds.length) (h1 : ds.length ≤ 1000000) :
    ∃ (v : Nat) (d : PyData) (l' : List PyData), callN T lineN (n + 3) "_law_one" [.io (.lst l), .sh (.list ds)] = some (d, [.lst l']) ∧ ds[v]? = some d ∧ Pen (k + 1) l' := by
  obtain ⟨v, l', e, hv, hp'⟩ := take_at (n := n) h.toH__law_take hp hk h0 h1
  refine ⟨v, ds[v], l', ?_, List.getElem?_eq_getElem hv, hp'⟩
  refine call_eq (run_wp [.io (.lst l), .shr (.list ds)] h._law_one rfl rfl ?_)
  simp only [D__law_one, b__law_one_0]
  simp_arith [e, List.getElem?_eq_getElem hv]
theorem open_at (h : H__law_open T) (ns : List Int) (hn : ns.length ≤ 63) : ∃ l : List PyData, callN T lineN (n + 1) "_law_open" [.scr ns] = some (.list l, []) ∧ Pen 0 l := by
  suffices H : Wp (callN T lineN (n + 1) "_law_open" [.scr ns]) fun d os => ∃ l, d = .list l ∧ os = [] ∧ Pen 0 l by
    obtain ⟨d, os, h, l, rfl, rfl, h1⟩ := H
    exact ⟨l, h, h1⟩
  refine run_wp [.scr ns, .un, .un, .un] h._law_open rfl rfl ?_
  simp only [D__law_open, b__law_open_3]
  have e1 : cutD (ns.map PyData.int) none (some 12) = (ns.take 12).map PyData.int := (cut_to _ 12).trans List.map_take.symm
  simp_arith [e1, b__law_open_2]
  obtain ⟨m, e2, hm⟩ := cut_map PyData.int ns (some 12) (some 63)
  have e3 : m ≠ [] → 12 ≤ ns.length := by
    intro hne
    refine Classical.byContradiction fun hlt => hne ?_
    have e4 : cutD (ns.map PyData.int) (some 12) (some 63) = [] := by
      simp only [cutD]
      rw [List.drop_of_length_le]
      · simp
      · simp [sIx]; omega
    rw [e4] at e2
    simpa using e2.symm
  simp_arith [e2, enumD_map]
  refine for_wp (l := m.zipIdx) (f := fun p : Int × Nat => .tuple [.int p.2, .int p.1]) (R := fun p q env => ∃ (cells : List Int) (x y : Slot), env = [.scr ns, .own (.lst (cells.map PyData.int)), x, y] ∧ freeS x = true ∧ freeS y = true ∧ (q ≠ [] → cells.length = 12)) ⟨ns.take 12, .un, .un, rfl, rfl, rfl, ?_⟩ ?_ ?_
  · intro hq
    have : m ≠ [] := fun z => hq (by rw [z]; rfl)
    have := e3 this
    simp; omega
  · rintro p x q env ⟨cells, u, v, rfl, hu, hv, hc⟩
    have hc := hc (by simp)
    refine ⟨_, by simp_arith [hu, hv]; rfl, ?_⟩
    have lt : (0 : Int) < 12 := by decide
    obtain ⟨j, hj, e⟩ : ∃ j : Nat, j < cells.length ∧ (x.2 : Int) % 12 = j := ⟨x.2 % 12, by omega, by omega⟩
    simp_arith [b__law_open_1, lt, e, List.getElem?_map, List.getElem?_eq_getElem hj, hj]
    exact ⟨by omega, cells.set j (cells[j] + x.1), .shr (.int x.2), .shr (.int x.1), by rw [List.map_set], rfl, rfl, fun _ => by simp [hc]⟩
  · rintro env ⟨cells, u, v, rfl, hu, hv, hc⟩
    simp_arith [b__law_open_0]
    exact ⟨_, rfl, cells, 0, 0, rfl, Nat.le_refl _⟩
theorem perm_erase {α : Type} : ∀ {l : List α} {v : Nat} (h : v < l.length), ([l[v]] ++ l.eraseIdx v).Perm l
  | x :: l, 0, _ => .refl _
  | x :: l, v + 1, h => by
    have := perm_erase (l := l) (v := v) (by simpa using h)
    simp only [List.getElem_cons_succ, List.eraseIdx_cons_succ, List.singleton_append] at *
    exact (List.Perm.swap _ _ _).trans (this.cons x)
theorem eraseIdx_map {α β : Type} (f : α → β) : ∀ (l : List α) (i : Nat), (l.map f).eraseIdx i = (l.eraseIdx i).map f
  | [], _ => rfl
  | x :: l, 0 => rfl
  | x :: l, i + 1 => by simp [eraseIdx_map f l i]
theorem Ord.nil : Ord 0 [] := ⟨rfl, .nil, fun _ h => nomatch h⟩
theorem drawn_order_at (h : H__law_drawn_order T) {l : List PyData} {k m : Nat} (hp : Pen k l) (hk : k + m ≤ 1000000) (hm : m ≤ 900) :
    ∃ (o : List Nat) (l' : List PyData), callN T lineN (n + 3) "_law_drawn_order" [.io (.lst l), .sh (.int m)] = some (enc o, [.lst l']) ∧ Ord m o ∧ Pen (k + m) l' := by
  suffices H : Wp (callN T lineN (n + 3) "_law_drawn_order" [.io (.lst l), .sh (.int m)]) fun d os => ∃ (o : List Nat) (l' : List PyData), d = enc o ∧ os = [.lst l'] ∧ Ord m o ∧ Pen (k + m) l' by
    obtain ⟨d, os, h, o, l', rfl, rfl, h1, h2⟩ := H
    exact ⟨o, l', h, h1, h2⟩
  refine run_wp [.io (.lst l), .shr (.int m), .un, .un, .un] h._law_drawn_order rfl rfl ?_
  simp only [D__law_drawn_order, b__law_drawn_order_3]
  simp_arith [rangeD_nat m (by omega), b__law_drawn_order_2]
  refine for_wp (l := List.range m) (f := fun k : Nat => .int (k : Int)) (R := fun p q env => ∃ (pool o : List Nat) (l' : List PyData) (x : Slot), env = [.io (.lst l'), .shr (.int m), x, .own (.lst (pool.map enc)), .shr (enc o)] ∧ freeS x = true ∧ p.length + q.length = m ∧ pool.length = q.length ∧ (o ++ pool).Nodup ∧ (∀ x ∈ o ++ pool, x < m) ∧ o.length = p.length ∧ Pen (k + p.length) l')
    ⟨List.range m, [], l, .un, rfl, rfl, by simp, rfl, by simpa using List.nodup_range, by simp, rfl, hp⟩ ?_ ?_
  · rintro p x q env ⟨pool, o, l', u, rfl, hu, h1, h2, h3, h4, h5, h6⟩
    refine ⟨_, by simp_arith [hu]; rfl, ?_⟩
    simp only [List.length_cons] at h1 h2
    obtain ⟨v, l'', e, hv, hp'⟩ := take_at (n := n) (m := pool.length) h.toH__law_take h6 (by omega) (by omega) (by omega)
    have hle : pool.length ≤ 1000 := by omega
    simp_arith [b__law_drawn_order_1, e, hv, hle, List.getElem?_map, List.getElem?_eq_getElem hv]
    refine ⟨by omega, lineN_le' (by omega), pool.eraseIdx v, o ++ [pool[v]], l'', .shr (.int x), ?_, rfl, by omega, ?_, ?_, ?_, by simp [h5], hp'.mono (by omega)⟩
    · rw [eraseIdx_map]
    · rw [List.length_eraseIdx_of_lt hv]; omega
    · have hp : (o ++ [pool[v]] ++ pool.eraseIdx v).Perm (o ++ pool) := by
        rw [List.append_assoc]
        exact List.Perm.append_left o (perm_erase hv)
      exact hp.nodup_iff.mpr h3
    · have hp : (o ++ [pool[v]] ++ pool.eraseIdx v).Perm (o ++ pool) := by
        rw [List.append_assoc]
        exact List.Perm.append_left o (perm_erase hv)
      exact fun x hx => h4 x (hp.mem_iff.mp hx)
  · rintro env ⟨pool, o, l', u, rfl, hu, h1, h2, h3, h4, h5, h6⟩
    simp_arith [b__law_drawn_order_0]
    have hz : pool = [] := List.length_eq_zero_iff.mp h2
    subst hz
    rw [List.append_nil] at h3 h4
    simp only [List.length_nil, Nat.add_zero] at h1
    rw [h1] at h6
    exact ⟨o, l', rfl, rfl, ⟨by omega, h3, h4⟩, h6⟩
theorem drawn_standing_at (h : H__law_drawn_standing T) {l : List PyData} {k : Nat} {r : Rule} (hr : r.ok) (hp : Pen k l) (hk : k + 8 ≤ 1000000) :
    ∃ (s : Std) (l' : List PyData), callN T lineN (n + 4) "_law_drawn_standing" [.io (.lst l), .sh (enc r)] = some (enc s, [.lst l']) ∧ s.ok r ∧ Pen (k + 8) l' := by
  suffices H : Wp (callN T lineN (n + 4) "_law_drawn_standing" [.io (.lst l), .sh (enc r)]) fun d os => ∃ (s : Std) (l' : List PyData), d = enc s ∧ os = [.lst l'] ∧ s.ok r ∧ Pen (k + 8) l' by
    obtain ⟨d, os, h, o, l', rfl, rfl, h1, h2⟩ := H
    exact ⟨o, l', h, h1, h2⟩
  refine run_wp [.io (.lst l), .shr (enc r), .un] h._law_drawn_standing rfl rfl ?_
  simp only [D__law_drawn_standing, b__law_drawn_standing_0]
  have hi := hr.hi
  obtain ⟨o, l1, e, ho, hp1⟩ := drawn_order_at (n := n) h.toH__law_drawn_order hp (show k + r.n ≤ 1000000 by omega) (by omega)
  simp_arith [idx_rule0, e]
  refine ev_compS (l := List.range r.n) (f := fun k : Nat => .int (k : Int)) (env1 := [.io (.lst l1), .shr (enc r), .un]) (R := fun p q ys env => ∃ (m : List Nat) (l' : List PyData) (x : Slot), env = [.io (.lst l'), .shr (enc r), x] ∧ (x = .un ∨ ∃ d, x = .shr d) ∧ p.length + q.length = r.n ∧ m.length = p.length ∧ ys = m.map enc ∧ (∀ x ∈ m, x < r.k) ∧ Pen (k + r.n + p.length) l') ?_ (lineN_le' (by simp; omega)) ?_ ?_ ?_
  · simp_arith [idx_rule0, rangeD_nat r.n (by omega)]
  · exact ⟨[], l1, _, rfl, .inl rfl, by simp, rfl, rfl, by simp, hp1⟩
  · rintro p x q ys env ⟨m, l', u, rfl, hu, h1, h2, rfl, h3, h4⟩
    simp only [List.length_cons] at h1
    have hk1 := hr.k1
    have hk2 := hr.k2
    obtain ⟨v, l'', e, hv, hp'⟩ := take_at (n := n + 1) (m := r.k) h.toH__law_take h4 (by omega) (by omega) (by omega)
    refine ⟨[.io (.lst l'), .shr (enc r), .un], [.io (.lst l'), .shr (enc r), .shr (.int x)], ?_, rfl, ?_⟩
    · rcases hu with rfl | ⟨d, rfl⟩ <;> rfl
    · simp_arith [idx_rule1, e]
      refine ⟨m ++ [v], l'', .shr (.int x), rfl, .inr ⟨_, rfl⟩, by omega, by simp [h2], by simp [enc_nat], ?_, hp'.mono (by omega)⟩
      intro y hy
      rcases List.mem_append.mp hy with hy | hy
      · exact h3 y hy
      · simp at hy; subst hy; exact hv
  · rintro zs env ⟨m, l', u, rfl, hu, h1, h2, rfl, h3, h4⟩
    simp only [List.length_nil, Nat.add_zero] at h1
    refine ⟨?_, ?_⟩
    · rcases hu with rfl | ⟨d, rfl⟩ <;> exact ⟨_, rfl⟩
    · simp_arith [backE]
      exact ⟨(o, m), l', rfl, rfl, ⟨ho, ⟨by show m.length = r.n; omega, h3⟩⟩, h4.mono (by omega)⟩
end PL

set_option Elab.async false
set_option linter.all false
set_option maxRecDepth 100000
set_option maxHeartbeats 2000000
open PySem VL VL.VE
local macro_rules | `(tactic| simp_arith) => `(tactic| simp -implicitDefEqProofs only [xSs, xS.eq_1, xS.eq_2, xS.eq_3, xS.eq_4, xS.eq_5, xS.eq_6, xS.eq_10, xS.eq_11, xS.eq_12, xS.eq_13, xS.eq_14, xS.eq_17, xS.eq_18, xS.eq_19, xS.eq_20, xS.eq_21, xS.eq_22, xS.eq_23, evE.eq_2, evE.eq_3, evE.eq_4, evE.eq_5, evE.eq_6, evE.eq_7, evE.eq_8, evE.eq_9, evE.eq_10, evE.eq_11, evE.eq_12, evE.eq_13, evE.eq_14, evE.eq_16, evE.eq_17, evE.eq_18, evE.eq_19, evE.eq_20, evE.eq_21, evE.eq_22, evE.eq_28, evE.eq_29, evE.eq_30, evEs, evRs, evAs, evAnd, evOr, evEo, evSrc, evP.eq_1, evP.eq_3, evP_o, ownV_list, ownV_encL, xS_retO, retOV_list, retOV_encL, xS_ext, extS_own, extS_ownL, evPs, putPs, tst, opv.eq_2, resolveAll, getS_z, getS_s, setS_z, setS_s, putTgs_nil, putTgs_cons, putTg_nm, putTg_tp, freeS_un, freeS_shr, freeS_own, putTg_fl, flE_own, flE_io, fldsOf_own, fldsOf_io, lstOf_own, lstOf_io, putO_eq, putOS_own, putOS_io, holdsB_own, holdsB_io, argsN, argsAt_nil, argsAt_sh, argsAt_scr, argsAt_io, arS_own, arS_io, shrs_nil, shrs_cons, shS_shr, iosOf_nil, iosOf_sh, iosOf_scr, iosOf_io, ioS_io, vev_meth, metS_own, metS_io, ev_fld, fldS_own, fldS_io, ev_lfld, lfldS_own, lfldS_io, fdv_d, flv_l, argsBack, ioIx, xS_ins, insS_own, nodupB_nil, nodupB_one, callAt, vev_scut, scutS_scr, evAs_scr, asS_scr, xS_retV, retVS_own, xS_retSelf, retSS_io, ev_var, varE_shr, varE_lst, opv_var, opvV_shr, opvV_own, opvV_io, res_st, res_sl, resS_own, resS_io, seqD_enc, seqD_encL, idx_enc0, idx_encL0, idx_enc, idx_encL, idx_encL1, idx_enc1, slc_to, slc_from, slc_from1, slc_to1, rev_enc, rev_encL, len_enc, len_encL, len_list, len_tuple, list_enc, list_encL, tuple_enc, tuple_encL, bi_tuple, bi_list_l, bi_list_t, bi_tuple_t, bi_int, bi_intb, repr_bool, eqD_strB, spl_t, spl_l, spl_f, idx_t0, idx_t1, idx_t2, idx_l0, idx_l1, idx_l2, idx_ln, idx_tn, seqD_l, seqD_t, spl_tt, tru_b, tru_i, tru_n, op_cmp, op_bin, vcmp_eq, vcmp_ne, cmp_lt, cmp_le, cmp_gt, cmp_ge, vcmp_is, vcmp_isnot, vcmp_in, vcmp_notin, is_bb, is_none_int, is_none_tup, is_none_list, is_none_none, eq_int, eq_bool, vbin_add, vbin_sub, bin_mulC, bin_powC, bin_modC, bin_fdivC, bin_addl, bin_addt, bin_addE, bin_addEL, bin_addN1, mul_l1, mul_l0, mul_t1, mul_t0, bin_addL1, bin_addL0, bin_addN0, Nat.add_zero, Int.toNat_natCast, bind_ite, map_ite, set_t1, set_t2, isin_int_int, isin_bool_int, isin_tuple_tuple, isin_list_list, isin_enc, isin_encL, Int_nat_add, Int_nat_add1, Int.natCast_inj, Int.ofNat_lt, Int.ofNat_le, Option.bind_eq_bind, Option.bind_some, Option.bind_none, Option.map_some, Option.map_none, Wp_some, Wp_bind, Wp_map, Wp_none, if_true, if_false, ite_true, ite_false, decide_true, decide_false, Bool.and_true, Bool.true_and, Bool.and_false, Bool.false_and, Bool.not_true, Bool.not_false, Bool.and_self, List.length_cons, List.length_nil, List.cons_append, List.nil_append, List.append_nil, List.append_assoc, List.map_cons, List.map_nil, Nat.zero_add, Nat.reduceAdd, Nat.reduceLT, Nat.reduceLeDiff, Nat.lt_add_one, Nat.zero_lt_succ, Bool.false_eq_true, reduceCtorEq, true_or, true_and, and_true, and_self, lineN_le, lineN_lt, putTg_pair, idx_pair0, idx_pair1, Wp_ite, count_nat, count_natL, index_nat, index_natL, in_nat, in_natL, cast_eq0, cast_eq1, cast_eq2, cast_eq3, Int.cast_ofNat_Int, eq_self, Int.reduceLT, Int.reduceLE, Int.reduceEq, Int.reduceAdd, Nat.reduceEqDiff, enumD_map, zipD_map, lst_enc, tup_enc, slc_toL, slc_fromL, slc_from1L, List.length_append, List.length_map, List.length_take, List.length_drop, enc_nat, enc_int, imp_false, not_false_eq_true, implies_true, forall_const]) | `(tactic| simp_arith [$ts,*]) => `(tactic| simp -implicitDefEqProofs only [xSs, xS.eq_1, xS.eq_2, xS.eq_3, xS.eq_4, xS.eq_5, xS.eq_6, xS.eq_10, xS.eq_11, xS.eq_12, xS.eq_13, xS.eq_14, xS.eq_17, xS.eq_18, xS.eq_19, xS.eq_20, xS.eq_21, xS.eq_22, xS.eq_23, evE.eq_2, evE.eq_3, evE.eq_4, evE.eq_5, evE.eq_6, evE.eq_7, evE.eq_8, evE.eq_9, evE.eq_10, evE.eq_11, evE.eq_12, evE.eq_13, evE.eq_14, evE.eq_16, evE.eq_17, evE.eq_18, evE.eq_19, evE.eq_20, evE.eq_21, evE.eq_22, evE.eq_28, evE.eq_29, evE.eq_30, evEs, evRs, evAs, evAnd, evOr, evEo, evSrc, evP.eq_1, evP.eq_3, evP_o, ownV_list, ownV_encL, xS_retO, retOV_list, retOV_encL, xS_ext, extS_own, extS_ownL, evPs, putPs, tst, opv.eq_2, resolveAll, getS_z, getS_s, setS_z, setS_s, putTgs_nil, putTgs_cons, putTg_nm, putTg_tp, freeS_un, freeS_shr, freeS_own, putTg_fl, flE_own, flE_io, fldsOf_own, fldsOf_io, lstOf_own, lstOf_io, putO_eq, putOS_own, putOS_io, holdsB_own, holdsB_io, argsN, argsAt_nil, argsAt_sh, argsAt_scr, argsAt_io, arS_own, arS_io, shrs_nil, shrs_cons, shS_shr, iosOf_nil, iosOf_sh, iosOf_scr, iosOf_io, ioS_io, vev_meth, metS_own, metS_io, ev_fld, fldS_own, fldS_io, ev_lfld, lfldS_own, lfldS_io, fdv_d, flv_l, argsBack, ioIx, xS_ins, insS_own, nodupB_nil, nodupB_one, callAt, vev_scut, scutS_scr, evAs_scr, asS_scr, xS_retV, retVS_own, xS_retSelf, retSS_io, ev_var, varE_shr, varE_lst, opv_var, opvV_shr, opvV_own, opvV_io, res_st, res_sl, resS_own, resS_io, seqD_enc, seqD_encL, idx_enc0, idx_encL0, idx_enc, idx_encL, idx_encL1, idx_enc1, slc_to, slc_from, slc_from1, slc_to1, rev_enc, rev_encL, len_enc, len_encL, len_list, len_tuple, list_enc, list_encL, tuple_enc, tuple_encL, bi_tuple, bi_list_l, bi_list_t, bi_tuple_t, bi_int, bi_intb, repr_bool, eqD_strB, spl_t, spl_l, spl_f, idx_t0, idx_t1, idx_t2, idx_l0, idx_l1, idx_l2, idx_ln, idx_tn, seqD_l, seqD_t, spl_tt, tru_b, tru_i, tru_n, op_cmp, op_bin, vcmp_eq, vcmp_ne, cmp_lt, cmp_le, cmp_gt, cmp_ge, vcmp_is, vcmp_isnot, vcmp_in, vcmp_notin, is_bb, is_none_int, is_none_tup, is_none_list, is_none_none, eq_int, eq_bool, vbin_add, vbin_sub, bin_mulC, bin_powC, bin_modC, bin_fdivC, bin_addl, bin_addt, bin_addE, bin_addEL, bin_addN1, mul_l1, mul_l0, mul_t1, mul_t0, bin_addL1, bin_addL0, bin_addN0, Nat.add_zero, Int.toNat_natCast, bind_ite, map_ite, set_t1, set_t2, isin_int_int, isin_bool_int, isin_tuple_tuple, isin_list_list, isin_enc, isin_encL, Int_nat_add, Int_nat_add1, Int.natCast_inj, Int.ofNat_lt, Int.ofNat_le, Option.bind_eq_bind, Option.bind_some, Option.bind_none, Option.map_some, Option.map_none, Wp_some, Wp_bind, Wp_map, Wp_none, if_true, if_false, ite_true, ite_false, decide_true, decide_false, Bool.and_true, Bool.true_and, Bool.and_false, Bool.false_and, Bool.not_true, Bool.not_false, Bool.and_self, List.length_cons, List.length_nil, List.cons_append, List.nil_append, List.append_nil, List.append_assoc, List.map_cons, List.map_nil, Nat.zero_add, Nat.reduceAdd, Nat.reduceLT, Nat.reduceLeDiff, Nat.lt_add_one, Nat.zero_lt_succ, Bool.false_eq_true, reduceCtorEq, true_or, true_and, and_true, and_self, lineN_le, lineN_lt, putTg_pair, idx_pair0, idx_pair1, Wp_ite, count_nat, count_natL, index_nat, index_natL, in_nat, in_natL, cast_eq0, cast_eq1, cast_eq2, cast_eq3, Int.cast_ofNat_Int, eq_self, Int.reduceLT, Int.reduceLE, Int.reduceEq, Int.reduceAdd, Nat.reduceEqDiff, enumD_map, zipD_map, lst_enc, tup_enc, slc_toL, slc_fromL, slc_from1L, List.length_append, List.length_map, List.length_take, List.length_drop, enc_nat, enc_int, imp_false, not_false_eq_true, implies_true, forall_const, $ts,*])
namespace PL
open PySem VL VL.VE VL.VE.Enc
variable {T : Str → Option Def} {n : Nat}
/-! the named rules -/
inductive Word | front | ahead | still | half | second
  deriving DecidableEq
def wstr : Word → Str
  | .front => "front" | .ahead => "ahead" | .still => "still" | .half => "half" | .second => "second"
def nrow : Word → Nat → List (Nat × Nat)
  | .front, _ => [(0, 0)]
  | .ahead, p => [(p - 1, 0)]
  | .still, p => [(p, 0)]
  | .half, p => [(p / 2, 0)]
  | .second, p => [(p, 1), (0, 0)]
def named (w : Word) (m : Nat) : Rule := ⟨m, if w = .second then 2 else 1, (List.range m).map (nrow w)⟩
theorem named_ok (w : Word) {m : Nat} (h1 : 2 ≤ m) (h2 : m ≤ 4) : (named w m).ok := by
  refine ⟨h1, h2, ?_, ?_, by simp [named], fun p row h => ?_⟩
  · simp only [named]; split <;> decide
  · simp only [named]; split <;> decide
  · have h3 := (List.mem_zipIdx_iff_getElem?.mp h)
    simp only [named, List.getElem?_map, List.getElem?_range] at h3
    have hp : p < m := by
      refine Classical.byContradiction fun hn => ?_
      rw [List.getElem?_eq_none (by simp; omega)] at h3
      cases h3
    rw [List.getElem?_range hp] at h3
    cases h3
    cases w <;> simp [nrow, named] <;> omega
theorem eqD_second (w : Word) : eqD (.str (wstr w)) (.str "second") = some (decide (w = .second)) := by
  cases w <;> decide +kernel
theorem max0_pred (p : Nat) : biD .max [.int 0, .int ((p : Int) - 1)] = some (.int ((p - 1 : Nat) : Int)) := by
  simp only [biD, gt_iff_lt, Option.some.injEq, PyData.int.injEq]
  split <;> omega
theorem half_nat (p : Nat) : binD .FloorDiv (.int p) (.int 2) = some (.int ((p / 2 : Nat) : Int)) := by
  rw [vbin_fdiv (by decide)]
  rfl
theorem sel_word (w : Word) (hw : w ≠ .second) (p : Nat) : dselD ["front", "ahead", "still", "half"] [.int 0, .int ((p - 1 : Nat) : Int), .int p, .int ((p : Int) / 2)] (.str (wstr w)) = some (some (.int (((nrow w p).headD (0, 0)).1 : Nat))) := by
  cases w <;> first | rfl | exact absurd rfl hw
theorem named_row_at (h : H_named_row T) (w : Word) (p : Nat) : callN T lineN (n + 1) "named_row" [.sh (.str (wstr w)), .sh (.int p)] = some (enc (nrow w p), []) := by
  refine call_eq (run_wp [.shr (.str (wstr w)), .shr (.int p)] h.named_row rfl rfl ?_)
  simp only [D_named_row, b_named_row_2]
  simp_arith [eqD_second]
  by_cases hw : w = .second
  · subst hw
    simp_arith [b_named_row_1]
    rfl
  · simp_arith [hw, b_named_row_0, max0_pred, half_nat, sel_word w hw p]
    cases w <;> first | rfl | exact absurd rfl hw
theorem need_items_at (h : H_need_items T) (m : Nat) (h1 : 2 ≤ m) (h2 : m ≤ 4) : callN T lineN (n + 3) "need_items" [.sh (.int m)] = some (.none, []) := by
  refine call_eq (run_wp [.shr (.int m)] h.need_items rfl rfl ?_)
  simp only [D_need_items, b_need_items_1]
  simp_arith [is_number_at h.toH_is_number_of_items, h1, h2]
theorem isin_str (x : Str) : isinD "str" (.str x) = some true := by simp [isinD]
theorem in_names (w : Word) : inD (.str (wstr w)) (.tuple [.str "front", .str "ahead", .str "still", .str "half", .str "second"]) = some true := by
  cases w <;> decide +kernel
theorem named_rule_at (h : H_named_rule T) (w : Word) (m : Nat) (h1 : 2 ≤ m) (h2 : m ≤ 4) : callN T lineN (n + 4) "named_rule" [.sh (.int m), .sh (.str (wstr w))] = some (enc (named w m), []) := by
  refine call_eq (run_wp [.shr (.int m), .shr (.str (wstr w)), .un] h.named_rule rfl rfl ?_)
  simp only [D_named_rule, b_named_rule_3]
  simp_arith [need_items_at h.toH_need_items m h1 h2, b_named_rule_2, isin_str, in_names, b_named_rule_0, eqD_second]
  have fin : ∀ k : Nat, (if w = .second then 2 else 1) = k → Wp (evE (callN T lineN (n + 3)) (.comp (.call "named_row" (.sh (.var 1) (.sh (.var 2) .nil))) (.nm 2) (.range (.var 0)) .no [2]) [.shr (.int m), .shr (.str (wstr w)), .un]) fun a e => e = [.shr (.int m), .shr (.str (wstr w)), .un] ∧ a = encL ((List.range m).map (nrow w)) := fun k _ => by
    refine vev_comp (l := List.range m) (f := fun k : Nat => .int (k : Int)) (fun p => enc (nrow w p)) (by simp_arith [rangeD_nat m (by omega)]) (by simp) (lineN_le' (by simp; omega)) US.un (fun x hx => ?_) ?_
    · simp_arith [named_row_at h.toH_named_row]
    · refine ⟨rfl, ?_⟩
      rw [encL, List.map_map]; rfl
  by_cases hw : w = .second
  · simp_arith [hw]
    subst hw
    refine Wp_mono (fin 2 rfl) ?_
    rintro a e ⟨rfl, rfl⟩
    simp_arith 
    rfl
  · simp_arith [hw]
    refine Wp_mono (fin 1 (by simp [hw])) ?_
    rintro a e ⟨rfl, rfl⟩
    simp_arith 
    simp only [named, hw, if_false, enc_rule]
    rfl
end PL

set_option Elab.async false
set_option linter.all false
set_option maxRecDepth 100000
namespace KL
open PySem VL PL
def b__law_last_first_0 : VL.Ss := .cons (.ret (.bi .tuple (.cons false (.var 2) .nil))) .nil
def b__law_last_first_1 : VL.Ss := .cons (.set 2 (.v (.op2 (.bin .Add) (.var 2) (.op2 (.bin .Mult) (.lst (.cons false (.var 3) .nil)) (.bi .int (.cons false (.op2 (.cmp .NotIn) (.var 3) (.var 2)) .nil)))))) .nil
def b__law_last_first_2 : VL.Ss := .cons (.for_ (.nm 3) (.ex (.op2 (.bin .Add) (.rev (.var 1)) (.var 0))) b__law_last_first_1) b__law_last_first_0
def b__law_last_first_3 : VL.Ss := .cons (.set 2 (.v (.lst .nil))) b__law_last_first_2
def D__law_last_first : VL.Def := ⟨4, [.sh, .sh], b__law_last_first_3, .val⟩
def b_law_0 : VL.Ss := .cons (.ret (.lit (.bool true))) .nil
def b_law_1 : VL.Ss := .cons (.ret (.lit (.bool false))) .nil
def b_law_2 : VL.Ss := .cons (.ite (.op2 (.cmp .NotEq) (.meth 12 "Store" "standing" .nil) (.tup (.cons false (.bi .tuple (.cons false (.var 13) .nil)) (.cons false (.op2 (.bin .Mult) (.tup (.cons false (.lit (.int (0))) .nil)) (.var 2)) .nil)))) b_law_1 .nil) .nil
def b_law_3 : VL.Ss := .cons (.ins 13 (.var 15) (.var 5)) b_law_2
def b_law_4 : VL.Ss := .cons (.ex (.pop 13 (.var 14))) b_law_3
def b_law_5 : VL.Ss := .cons (.ret (.lit (.bool false))) .nil
def b_law_6 : VL.Ss := .cons (.ite (.op2 (.cmp .NotEq) (.meth 12 "Store" "ask" (.sh (.var 5) .nil)) (.var 14)) b_law_5 .nil) b_law_4
def b_law_7 : VL.Ss := .cons (.set 15 (.v (.ite (.op2 (.cmp .Eq) (.var 7) (.lit (.str "ahead"))) (.bi .max (.cons false (.lit (.int (0))) (.cons false (.op2 (.bin .Sub) (.var 14) (.lit (.int (1)))) .nil))) (.op2 (.bin .FloorDiv) (.var 14) (.lit (.int (2))))))) b_law_6
def b_law_8 : VL.Ss := .cons (.set 14 (.v (.me .index (.var 13) (.var 5)))) b_law_7
def b_law_9 : VL.Ss := .cons (.for_ (.nm 5) (.ex (.var 4)) b_law_8) .nil
def b_law_10 : VL.Ss := .cons (.par [12, 13] [(.n "Store" (.sh (.call "named_rule" (.sh (.var 2) (.sh (.var 7) .nil))) (.sh (.var 8) .nil))), (.o (.bi .list (.cons false (.var 3) .nil)))]) b_law_9
def b_law_11 : VL.Ss := .cons (.for_ (.nm 7) (.ex (.tup (.cons false (.lit (.str "ahead")) (.cons false (.lit (.str "half")) .nil)))) b_law_10) b_law_0
def b_law_12 : VL.Ss := .cons (.ret (.lit (.bool false))) .nil
def b_law_13 : VL.Ss := .cons (.ite (.op2 (.cmp .NotEq) (.idx (.call "run" (.sh (.call "named_rule" (.sh (.var 2) (.sh (.lit (.str "second")) .nil))) (.sh (.var 8) (.sh (.var 4) .nil)))) (.lit (.int (1)))) (.var 6)) b_law_12 .nil) b_law_11
def b_law_14 : VL.Ss := .cons (.set 6 (.v (.tup (.cons false (.call "_law_last_first" (.sh (.var 3) (.sh (.var 10) .nil))) (.cons false (.bi .tuple (.cons false (.comp (.ite (.op2 (.cmp .In) (.var 17) (.tup (.cons false (.lit (.int (1))) (.cons false (.lit (.int (3))) (.cons false (.lit (.int (5))) (.cons false (.lit (.int (7))) (.cons false (.lit (.int (9))) (.cons false (.lit (.int (11))) (.cons false (.lit (.int (13))) .nil))))))))) (.lit (.int (1))) (.lit (.int (0)))) (.nm 17) (.ex (.var 11)) .no [17]) .nil)) .nil))))) b_law_13
def b_law_15 : VL.Ss := .cons (.set 10 (.v (.op2 (.bin .Add) (.var 10) (.op2 (.bin .Mult) (.tup (.cons false (.var 5) .nil)) (.bi .int (.cons false (.op2 (.cmp .In) (.idx (.var 11) (.var 5)) (.tup (.cons false (.lit (.int (2))) (.cons false (.lit (.int (4))) (.cons false (.lit (.int (6))) (.cons false (.lit (.int (8))) (.cons false (.lit (.int (10))) (.cons false (.lit (.int (12))) (.cons false (.lit (.int (14))) .nil))))))))) .nil)))))) .nil
def b_law_16 : VL.Ss := .cons (.seti 11 (.var 5) (.op2 (.bin .Add) (.idx (.var 11) (.var 5)) (.lit (.int (1))))) b_law_15
def b_law_17 : VL.Ss := .cons (.for_ (.nm 5) (.ex (.var 4)) b_law_16) b_law_14
def b_law_18 : VL.Ss := .cons (.par [10, 11] [(.v (.tup .nil)), (.o (.op2 (.bin .Mult) (.lst (.cons false (.lit (.int (0))) .nil)) (.var 2)))]) b_law_17
def b_law_19 : VL.Ss := .cons (.ret (.lit (.bool false))) .nil
def b_law_20 : VL.Ss := .cons (.ite (.op2 (.cmp .NotEq) (.call "run" (.sh (.var 9) (.sh (.var 8) (.sh (.var 4) .nil)))) (.tup (.cons false (.comp (.me .index (.var 3) (.var 5)) (.nm 5) (.ex (.var 4)) .no [5]) (.cons false (.var 8) .nil)))) b_law_19 .nil) b_law_18
def b_law_21 : VL.Ss := .cons (.ret (.lit (.bool false))) .nil
def b_law_22 : VL.Ss := .cons (.ite (.op2 (.cmp .NotEq) (.idx (.call "run" (.sh (.call "named_rule" (.sh (.var 2) (.sh (.lit (.str "front")) .nil))) (.sh (.var 8) (.sh (.var 4) .nil)))) (.lit (.int (1)))) (.tup (.cons false (.call "_law_last_first" (.sh (.var 3) (.sh (.var 4) .nil))) (.cons false (.op2 (.bin .Mult) (.tup (.cons false (.lit (.int (0))) .nil)) (.var 2)) .nil)))) b_law_21 .nil) b_law_20
def b_law_23 : VL.Ss := .cons (.par [8, 9] [(.v (.tup (.cons false (.var 3) (.cons false (.op2 (.bin .Mult) (.tup (.cons false (.lit (.int (0))) .nil)) (.var 2)) .nil)))), (.v (.call "named_rule" (.sh (.var 2) (.sh (.lit (.str "still")) .nil))))]) b_law_22
def b_law_24 : VL.Ss := .cons (.set 4 (.v (.bi .tuple (.cons false (.comp (.call "_law_take" (.io 1 (.sh (.var 2) .nil))) (.nm 16) (.range (.call "_law_take" (.io 1 (.sh (.lit (.int (15))) .nil)))) .no [16]) .nil)))) b_law_23
def b_law_25 : VL.Ss := .cons (.set 3 (.v (.call "_law_drawn_order" (.ioc "_law_anew" 1 (.sh (.var 2) .nil))))) b_law_24
def b_law_26 : VL.Ss := .cons (.set 2 (.v (.op2 (.bin .Add) (.lit (.int (2))) (.call "_law_take" (.io 1 (.sh (.lit (.int (3))) .nil)))))) b_law_25
def b_law_27 : VL.Ss := .cons (.set 1 (.o (.call "_law_open" (.scr 0 .nil)))) b_law_26
def D_law : VL.Def := ⟨18, [.scr], b_law_27, .val⟩
def TF (f : Str) : Option VL.Def :=
  if f = "is_whole" then some D_is_whole else
  if f = "is_below" then some D_is_below else
  if f = "is_number_of_items" then some D_is_number_of_items else
  if f = "is_order_of" then some D_is_order_of else
  if f = "need_items" then some D_need_items else
  if f = "need_item" then some D_need_item else
  if f = "make_moved" then some D_make_moved else
  if f = "is_entry" then some D_is_entry else
  if f = "is_row" then some D_is_row else
  if f = "is_rule" then some D_is_rule else
  if f = "need_rule" then some D_need_rule else
  if f = "named_row" then some D_named_row else
  if f = "named_rule" then some D_named_rule else
  if f = "is_standing_of" then some D_is_standing_of else
  if f = "need_standing" then some D_need_standing else
  if f = "are_asks_of" then some D_are_asks_of else
  if f = "need_asks" then some D_need_asks else
  if f = "make_ask" then some D_make_ask else
  if f = "make_run" then some D_make_run else
  if f = "run" then some D_run else
  if f = "Store.__init__" then some D_Store_u_init_u else
  if f = "Store.ask" then some D_Store_ask else
  if f = "Store.rule" then some D_Store_rule else
  if f = "Store.standing" then some D_Store_standing else
  if f = "Store.asked" then some D_Store_asked else
  if f = "_law_spread" then some D__law_spread else
  if f = "_law_open" then some D__law_open else
  if f = "_law_take" then some D__law_take else
  if f = "_law_anew" then some D__law_anew else
  if f = "_law_drawn_order" then some D__law_drawn_order else
  if f = "_law_last_first" then some D__law_last_first else
  if f = "law" then some D_law else
  none
theorem tf_is_whole : TF "is_whole" = some D_is_whole := rfl
theorem tf_is_below : TF "is_below" = some D_is_below := rfl
theorem tf_is_number_of_items : TF "is_number_of_items" = some D_is_number_of_items := rfl
theorem tf_is_order_of : TF "is_order_of" = some D_is_order_of := rfl
theorem tf_need_items : TF "need_items" = some D_need_items := rfl
theorem tf_need_item : TF "need_item" = some D_need_item := rfl
theorem tf_make_moved : TF "make_moved" = some D_make_moved := rfl
theorem tf_is_entry : TF "is_entry" = some D_is_entry := rfl
theorem tf_is_row : TF "is_row" = some D_is_row := rfl
theorem tf_is_rule : TF "is_rule" = some D_is_rule := rfl
theorem tf_need_rule : TF "need_rule" = some D_need_rule := rfl
theorem tf_named_row : TF "named_row" = some D_named_row := rfl
theorem tf_named_rule : TF "named_rule" = some D_named_rule := rfl
theorem tf_is_standing_of : TF "is_standing_of" = some D_is_standing_of := rfl
theorem tf_need_standing : TF "need_standing" = some D_need_standing := rfl
theorem tf_are_asks_of : TF "are_asks_of" = some D_are_asks_of := rfl
theorem tf_need_asks : TF "need_asks" = some D_need_asks := rfl
theorem tf_make_ask : TF "make_ask" = some D_make_ask := rfl
theorem tf_make_run : TF "make_run" = some D_make_run := rfl
theorem tf_run : TF "run" = some D_run := rfl
theorem tf_Store_u_init_u : TF "Store.__init__" = some D_Store_u_init_u := rfl
theorem tf_Store_ask : TF "Store.ask" = some D_Store_ask := rfl
theorem tf_Store_rule : TF "Store.rule" = some D_Store_rule := rfl
theorem tf_Store_standing : TF "Store.standing" = some D_Store_standing := rfl
theorem tf_Store_asked : TF "Store.asked" = some D_Store_asked := rfl
theorem tf__law_spread : TF "_law_spread" = some D__law_spread := rfl
theorem tf__law_open : TF "_law_open" = some D__law_open := rfl
theorem tf__law_take : TF "_law_take" = some D__law_take := rfl
theorem tf__law_anew : TF "_law_anew" = some D__law_anew := rfl
theorem tf__law_drawn_order : TF "_law_drawn_order" = some D__law_drawn_order := rfl
theorem tf__law_last_first : TF "_law_last_first" = some D__law_last_first := rfl
theorem tf_law : TF "law" = some D_law := rfl
theorem h_is_whole : H_is_whole TF := { is_whole := tf_is_whole }
theorem h_is_below : H_is_below TF := { h_is_whole with is_below := tf_is_below }
theorem h_is_number_of_items : H_is_number_of_items TF := { h_is_whole with is_number_of_items := tf_is_number_of_items }
theorem h_is_order_of : H_is_order_of TF := { h_is_below with is_order_of := tf_is_order_of }
theorem h_need_items : H_need_items TF := { h_is_number_of_items with need_items := tf_need_items }
theorem h_need_item : H_need_item TF := { h_is_below with need_item := tf_need_item }
theorem h_make_moved : H_make_moved TF := { make_moved := tf_make_moved }
theorem h_is_entry : H_is_entry TF := { h_is_below with is_entry := tf_is_entry }
theorem h_is_row : H_is_row TF := { h_is_entry with is_row := tf_is_row }
theorem h_is_rule : H_is_rule TF := { h_is_number_of_items, h_is_below, h_is_row with is_rule := tf_is_rule }
theorem h_need_rule : H_need_rule TF := { h_is_rule with need_rule := tf_need_rule }
theorem h_named_row : H_named_row TF := { named_row := tf_named_row }
theorem h_named_rule : H_named_rule TF := { h_need_items, h_named_row with named_rule := tf_named_rule }
theorem h_is_standing_of : H_is_standing_of TF := { h_is_order_of, h_is_below with is_standing_of := tf_is_standing_of }
theorem h_need_standing : H_need_standing TF := { h_is_standing_of with need_standing := tf_need_standing }
theorem h_are_asks_of : H_are_asks_of TF := { h_is_below with are_asks_of := tf_are_asks_of }
theorem h_need_asks : H_need_asks TF := { h_are_asks_of with need_asks := tf_need_asks }
theorem h_make_ask : H_make_ask TF := { h_make_moved with make_ask := tf_make_ask }
theorem h_make_run : H_make_run TF := { h_make_ask with make_run := tf_make_run }
theorem h_run : H_run TF := { h_need_rule, h_need_standing, h_need_asks, h_make_run with run := tf_run }
theorem h_Store_u_init_u : H_Store_u_init_u TF := { h_need_rule, h_need_standing with Store_u_init_u := tf_Store_u_init_u }
theorem h_Store_ask : H_Store_ask TF := { h_need_item, h_make_ask with Store_ask := tf_Store_ask }
theorem h_Store_rule : H_Store_rule TF := { Store_rule := tf_Store_rule }
theorem h_Store_standing : H_Store_standing TF := { Store_standing := tf_Store_standing }
theorem h_Store_asked : H_Store_asked TF := { Store_asked := tf_Store_asked }
theorem h__law_spread : H__law_spread TF := { _law_spread := tf__law_spread }
theorem h__law_open : H__law_open TF := { _law_open := tf__law_open }
theorem h__law_take : H__law_take TF := { h__law_spread with _law_take := tf__law_take }
theorem h__law_anew : H__law_anew TF := { _law_anew := tf__law_anew }
theorem h__law_drawn_order : H__law_drawn_order TF := { h__law_take with _law_drawn_order := tf__law_drawn_order }
end KL

set_option Elab.async false
set_option linter.all false
set_option maxRecDepth 100000
set_option maxHeartbeats 4000000
open PySem VL VL.VE
local macro_rules | `(tactic| simp_arith) => `(tactic| simp -implicitDefEqProofs only [xSs, xS.eq_1, xS.eq_2, xS.eq_3, xS.eq_4, xS.eq_5, xS.eq_6, xS.eq_10, xS.eq_11, xS.eq_12, xS.eq_13, xS.eq_14, xS.eq_17, xS.eq_18, xS.eq_19, xS.eq_20, xS.eq_21, xS.eq_22, xS.eq_23, evE.eq_2, evE.eq_3, evE.eq_4, evE.eq_5, evE.eq_6, evE.eq_7, evE.eq_8, evE.eq_9, evE.eq_10, evE.eq_11, evE.eq_12, evE.eq_13, evE.eq_14, evE.eq_16, evE.eq_17, evE.eq_18, evE.eq_19, evE.eq_20, evE.eq_21, evE.eq_22, evE.eq_28, evE.eq_29, evE.eq_30, evEs, evRs, evAs, evAnd, evOr, evEo, evSrc, evP.eq_1, evP.eq_3, evP_o, ownV_list, ownV_encL, xS_retO, retOV_list, retOV_encL, xS_ext, extS_own, extS_ownL, evPs, putPs, tst, opv.eq_2, resolveAll, getS_z, getS_s, setS_z, setS_s, putTgs_nil, putTgs_cons, putTg_nm, putTg_tp, freeS_un, freeS_shr, freeS_own, putTg_fl, flE_own, flE_io, fldsOf_own, fldsOf_io, lstOf_own, lstOf_io, putO_eq, putOS_own, putOS_io, holdsB_own, holdsB_io, argsN, argsAt_nil, argsAt_sh, argsAt_scr, argsAt_io, arS_own, arS_io, shrs_nil, shrs_cons, shS_shr, iosOf_nil, iosOf_sh, iosOf_scr, iosOf_io, ioS_io, vev_meth, metS_own, metS_io, ev_fld, fldS_own, fldS_io, ev_lfld, lfldS_own, lfldS_io, fdv_d, flv_l, argsBack, ioIx, xS_ins, insS_own, nodupB_nil, nodupB_one, callAt, vev_scut, scutS_scr, evAs_scr, asS_scr, xS_retV, retVS_own, xS_retSelf, retSS_io, ev_var, varE_shr, varE_lst, opv_var, opvV_shr, opvV_own, opvV_io, res_st, res_sl, resS_own, resS_io, seqD_enc, seqD_encL, idx_enc0, idx_encL0, idx_enc, idx_encL, idx_encL1, idx_enc1, slc_to, slc_from, slc_from1, slc_to1, rev_enc, rev_encL, len_enc, len_encL, len_list, len_tuple, list_enc, list_encL, tuple_enc, tuple_encL, bi_tuple, bi_list_l, bi_list_t, bi_tuple_t, bi_int, bi_intb, repr_bool, eqD_strB, spl_t, spl_l, spl_f, idx_t0, idx_t1, idx_t2, idx_l0, idx_l1, idx_l2, idx_ln, idx_tn, seqD_l, seqD_t, spl_tt, tru_b, tru_i, tru_n, op_cmp, op_bin, vcmp_eq, vcmp_ne, cmp_lt, cmp_le, cmp_gt, cmp_ge, vcmp_is, vcmp_isnot, vcmp_in, vcmp_notin, is_bb, is_none_int, is_none_tup, is_none_list, is_none_none, eq_int, eq_bool, vbin_add, vbin_sub, bin_mulC, bin_powC, bin_modC, bin_fdivC, bin_addl, bin_addt, bin_addE, bin_addEL, bin_addN1, mul_l1, mul_l0, mul_t1, mul_t0, bin_addL1, bin_addL0, bin_addN0, Nat.add_zero, Int.toNat_natCast, bind_ite, map_ite, set_t1, set_t2, isin_int_int, isin_bool_int, isin_tuple_tuple, isin_list_list, isin_enc, isin_encL, Int_nat_add, Int_nat_add1, Int.natCast_inj, Int.ofNat_lt, Int.ofNat_le, Option.bind_eq_bind, Option.bind_some, Option.bind_none, Option.map_some, Option.map_none, Wp_some, Wp_bind, Wp_map, Wp_none, if_true, if_false, ite_true, ite_false, decide_true, decide_false, Bool.and_true, Bool.true_and, Bool.and_false, Bool.false_and, Bool.not_true, Bool.not_false, Bool.and_self, List.length_cons, List.length_nil, List.cons_append, List.nil_append, List.append_nil, List.append_assoc, List.map_cons, List.map_nil, Nat.zero_add, Nat.reduceAdd, Nat.reduceLT, Nat.reduceLeDiff, Nat.lt_add_one, Nat.zero_lt_succ, Bool.false_eq_true, reduceCtorEq, true_or, true_and, and_true, and_self, lineN_le, lineN_lt, putTg_pair, idx_pair0, idx_pair1, Wp_ite, count_nat, count_natL, index_nat, index_natL, in_nat, in_natL, cast_eq0, cast_eq1, cast_eq2, cast_eq3, Int.cast_ofNat_Int, eq_self, Int.reduceLT, Int.reduceLE, Int.reduceEq, Int.reduceAdd, Nat.reduceEqDiff, enumD_map, zipD_map, lst_enc, tup_enc, slc_toL, slc_fromL, slc_from1L, List.length_append, List.length_map, List.length_take, List.length_drop, enc_nat, enc_int, imp_false, not_false_eq_true, implies_true, forall_const]) | `(tactic| simp_arith [$ts,*]) => `(tactic| simp -implicitDefEqProofs only [xSs, xS.eq_1, xS.eq_2, xS.eq_3, xS.eq_4, xS.eq_5, xS.eq_6, xS.eq_10, xS.eq_11, xS.eq_12, xS.eq_13, xS.eq_14, xS.eq_17, xS.eq_18, xS.eq_19, xS.eq_20, xS.eq_21, xS.eq_22, xS.eq_23, evE.eq_2, evE.eq_3, evE.eq_4, evE.eq_5, evE.eq_6, evE.eq_7, evE.eq_8, evE.eq_9, evE.eq_10, evE.eq_11, evE.eq_12, evE.eq_13, evE.eq_14, evE.eq_16, evE.eq_17, evE.eq_18, evE.eq_19, evE.eq_20, evE.eq_21, evE.eq_22, evE.eq_28, evE.eq_29, evE.eq_30, evEs, evRs, evAs, evAnd, evOr, evEo, evSrc, evP.eq_1, evP.eq_3, evP_o, ownV_list, ownV_encL, xS_retO, retOV_list, retOV_encL, xS_ext, extS_own, extS_ownL, evPs, putPs, tst, opv.eq_2, resolveAll, getS_z, getS_s, setS_z, setS_s, putTgs_nil, putTgs_cons, putTg_nm, putTg_tp, freeS_un, freeS_shr, freeS_own, putTg_fl, flE_own, flE_io, fldsOf_own, fldsOf_io, lstOf_own, lstOf_io, putO_eq, putOS_own, putOS_io, holdsB_own, holdsB_io, argsN, argsAt_nil, argsAt_sh, argsAt_scr, argsAt_io, arS_own, arS_io, shrs_nil, shrs_cons, shS_shr, iosOf_nil, iosOf_sh, iosOf_scr, iosOf_io, ioS_io, vev_meth, metS_own, metS_io, ev_fld, fldS_own, fldS_io, ev_lfld, lfldS_own, lfldS_io, fdv_d, flv_l, argsBack, ioIx, xS_ins, insS_own, nodupB_nil, nodupB_one, callAt, vev_scut, scutS_scr, evAs_scr, asS_scr, xS_retV, retVS_own, xS_retSelf, retSS_io, ev_var, varE_shr, varE_lst, opv_var, opvV_shr, opvV_own, opvV_io, res_st, res_sl, resS_own, resS_io, seqD_enc, seqD_encL, idx_enc0, idx_encL0, idx_enc, idx_encL, idx_encL1, idx_enc1, slc_to, slc_from, slc_from1, slc_to1, rev_enc, rev_encL, len_enc, len_encL, len_list, len_tuple, list_enc, list_encL, tuple_enc, tuple_encL, bi_tuple, bi_list_l, bi_list_t, bi_tuple_t, bi_int, bi_intb, repr_bool, eqD_strB, spl_t, spl_l, spl_f, idx_t0, idx_t1, idx_t2, idx_l0, idx_l1, idx_l2, idx_ln, idx_tn, seqD_l, seqD_t, spl_tt, tru_b, tru_i, tru_n, op_cmp, op_bin, vcmp_eq, vcmp_ne, cmp_lt, cmp_le, cmp_gt, cmp_ge, vcmp_is, vcmp_isnot, vcmp_in, vcmp_notin, is_bb, is_none_int, is_none_tup, is_none_list, is_none_none, eq_int, eq_bool, vbin_add, vbin_sub, bin_mulC, bin_powC, bin_modC, bin_fdivC, bin_addl, bin_addt, bin_addE, bin_addEL, bin_addN1, mul_l1, mul_l0, mul_t1, mul_t0, bin_addL1, bin_addL0, bin_addN0, Nat.add_zero, Int.toNat_natCast, bind_ite, map_ite, set_t1, set_t2, isin_int_int, isin_bool_int, isin_tuple_tuple, isin_list_list, isin_enc, isin_encL, Int_nat_add, Int_nat_add1, Int.natCast_inj, Int.ofNat_lt, Int.ofNat_le, Option.bind_eq_bind, Option.bind_some, Option.bind_none, Option.map_some, Option.map_none, Wp_some, Wp_bind, Wp_map, Wp_none, if_true, if_false, ite_true, ite_false, decide_true, decide_false, Bool.and_true, Bool.true_and, Bool.and_false, Bool.false_and, Bool.not_true, Bool.not_false, Bool.and_self, List.length_cons, List.length_nil, List.cons_append, List.nil_append, List.append_nil, List.append_assoc, List.map_cons, List.map_nil, Nat.zero_add, Nat.reduceAdd, Nat.reduceLT, Nat.reduceLeDiff, Nat.lt_add_one, Nat.zero_lt_succ, Bool.false_eq_true, reduceCtorEq, true_or, true_and, and_true, and_self, lineN_le, lineN_lt, putTg_pair, idx_pair0, idx_pair1, Wp_ite, count_nat, count_natL, index_nat, index_natL, in_nat, in_natL, cast_eq0, cast_eq1, cast_eq2, cast_eq3, Int.cast_ofNat_Int, eq_self, Int.reduceLT, Int.reduceLE, Int.reduceEq, Int.reduceAdd, Nat.reduceEqDiff, enumD_map, zipD_map, lst_enc, tup_enc, slc_toL, slc_fromL, slc_from1L, List.length_append, List.length_map, List.length_take, List.length_drop, enc_nat, enc_int, imp_false, not_false_eq_true, implies_true, forall_const, $ts,*])
namespace KL
open PySem VL VL.VE VL.VE.Enc PL
def uniqA (acc : List Nat) : List Nat → List Nat
  | [] => acc
  | i :: l => uniqA (if i ∈ acc then acc else acc ++ [i]) l
def uniq (l : List Nat) : List Nat := uniqA [] l
theorem uniqA_eq : ∀ (l acc : List Nat), uniqA acc l = acc ++ (uniqA [] l).filter fun x => !decide (x ∈ acc)
  | [], acc => by simp [uniqA]
  | i :: l, acc => by
    have h1 := uniqA_eq l [i]
    simp only [uniqA, List.not_mem_nil, if_false, List.nil_append]
    rw [h1]
    by_cases h : i ∈ acc
    · rw [if_pos h, uniqA_eq l acc]
      congr 1
      rw [List.filter_append, List.filter_filter]
      simp only [List.filter_cons, h, decide_true, Bool.not_true, Bool.false_eq_true, if_false, List.filter_nil, List.nil_append]
      apply List.filter_congr
      intro x _
      by_cases hx : x = i
      · subst hx; simp [h]
      · simp [hx]
    · rw [if_neg h, uniqA_eq l (acc ++ [i]), List.append_assoc]
      congr 1
      rw [List.filter_append, List.filter_filter]
      simp only [List.filter_cons, h, decide_false, Bool.not_false, if_true, List.filter_nil]
      congr 1
      apply List.filter_congr
      intro x _
      by_cases hx : x = i <;> simp [hx]
theorem uniq_cons (i : Nat) (l : List Nat) : uniq (i :: l) = i :: (uniq l).filter fun x => !decide (x = i) := by
  show uniqA [i] l = _
  rw [uniqA_eq]
  simp only [List.mem_singleton, List.singleton_append]
  rfl
theorem uniq_nodup : ∀ (l acc : List Nat), acc.Nodup → (uniqA acc l).Nodup
  | [], acc, h => h
  | i :: l, acc, h => by
    simp only [uniqA]
    split
    · exact uniq_nodup l acc h
    · rename_i hi
      refine uniq_nodup l _ ?_
      rw [List.nodup_append]
      exact ⟨h, by simp, by intro a ha b hb z; simp at hb; subst hb; subst z; exact hi ha⟩
theorem uniqA_self : ∀ (l acc : List Nat), (acc ++ l).Nodup → uniqA acc l = acc ++ l
  | [], acc, _ => by simp [uniqA]
  | i :: l, acc, h => by
    have hi : i ∉ acc := by
      intro hi
      rw [List.nodup_append] at h
      exact h.2.2 i hi i (by simp) rfl
    simp only [uniqA, hi, if_false]
    rw [uniqA_self l (acc ++ [i]) (by simpa using h)]
    simp
theorem uniqA_drop (i : Nat) : ∀ (l acc : List Nat), i ∈ acc → uniqA acc (l.filter fun x => !decide (x = i)) = uniqA acc l
  | [], acc, _ => rfl
  | j :: l, acc, h => by
    by_cases hj : j = i
    · subst hj
      simp only [List.filter_cons, decide_true, Bool.not_true, Bool.false_eq_true, if_false, uniqA, h, if_true]
      exact uniqA_drop _ l acc h
    · simp only [List.filter_cons, hj, decide_false, Bool.not_false, if_true, uniqA]
      refine uniqA_drop i l _ ?_
      split
      · exact h
      · simp [h]
theorem uniqA_append : ∀ (a b acc : List Nat), uniqA acc (a ++ b) = uniqA (uniqA acc a) b
  | [], b, acc => rfl
  | i :: a, b, acc => by simp only [List.cons_append, uniqA]; exact uniqA_append a b _
theorem mem_uniqA : ∀ (l acc : List Nat) {x : Nat}, x ∈ uniqA acc l ↔ x ∈ acc ∨ x ∈ l
  | [], acc, x => by simp [uniqA]
  | i :: l, acc, x => by
    simp only [uniqA]
    rw [mem_uniqA l]
    split
    · rename_i hi
      constructor
      · rintro (h | h)
        · exact .inl h
        · exact .inr (by simp [h])
      · rintro (h | h)
        · exact .inl h
        · rcases List.mem_cons.mp h with rfl | h
          · exact .inl hi
          · exact .inr h
    · simp only [List.mem_append, List.mem_cons, List.not_mem_nil, or_false]
      constructor
      · rintro ((h | h) | h)
        · exact .inl h
        · exact .inr (.inl h)
        · exact .inr (.inr h)
      · rintro (h | h | h)
        · exact .inl (.inl h)
        · exact .inl (.inr h)
        · exact .inr h
/-- moving to the front -/
theorem moved_front (o : List Nat) (i : Nat) : moved o i 0 = i :: o.filter fun x => !decide (x = i) := by simp [moved]
theorem take_filter_back {α : Type} [DecidableEq α] : ∀ {o : List α} {i : α}, i ∈ o → o.Nodup → (o.filter fun x => !decide (x = i)).take (o.idxOf i) ++ i :: (o.filter fun x => !decide (x = i)).drop (o.idxOf i) = o
  | x :: o, i, h, nd => by
    rw [List.nodup_cons] at nd
    by_cases e : x = i
    · subst e
      have : (o.filter fun y => !decide (y = x)) = o := List.filter_eq_self.mpr fun y hy => by
        have : y ≠ x := fun z => nd.1 (z ▸ hy)
        simp [this]
      simp [this]
    · have hi : i ∈ o := by
        rcases List.mem_cons.mp h with h | h
        · exact absurd h.symm e
        · exact h
      have ih := take_filter_back hi nd.2
      have e' : (x == i) = false := by simp [e]
      simp only [List.filter_cons, e, decide_false, Bool.not_false, if_true, List.idxOf_cons, e', cond_false, List.take_succ_cons, List.drop_succ_cons, List.cons_append, ih]
theorem moved_still {o : List Nat} {i : Nat} (hi : i ∈ o) (nd : o.Nodup) : moved o i (o.idxOf i) = o := take_filter_back hi nd
theorem erase_filter {o : List Nat} : ∀ {i : Nat}, i ∈ o → o.Nodup → o.eraseIdx (o.idxOf i) = o.filter fun x => !decide (x = i) := by
  induction o with
  | nil => intro i h; cases h
  | cons x o ih =>
    intro i h nd
    rw [List.nodup_cons] at nd
    by_cases e : x = i
    · subst e
      have : (o.filter fun y => !decide (y = x)) = o := List.filter_eq_self.mpr fun y hy => by
        have : y ≠ x := fun z => nd.1 (z ▸ hy)
        simp [this]
      simp [this]
    · have hi : i ∈ o := by
        rcases List.mem_cons.mp h with h | h
        · exact absurd h.symm e
        · exact h
      have e' : (x == i) = false := by simp [e]
      simp only [List.idxOf_cons, e', cond_false, List.eraseIdx_cons_succ, List.filter_cons, e, decide_false, Bool.not_false, if_true, ih hi nd.2]
def zeros (n : Nat) : List Nat := List.replicate n 0
theorem zeros_set (n i : Nat) : (zeros n).set i 0 = zeros n := by
  apply List.ext_getElem?
  intro j
  rw [List.getElem?_set]
  split
  · rename_i h; subst h
    simp only [zeros, List.length_replicate]
    split
    · rename_i h; rw [List.getElem?_replicate, if_pos h]
    · rename_i h; rw [List.getElem?_replicate, if_neg h]
  · rfl
theorem zeros_at (n i : Nat) : (zeros n).getD i 0 = 0 := by
  rw [List.getD_eq_getElem?_getD, zeros, List.getElem?_replicate]
  split <;> rfl
theorem at_named {w : Word} {m d k : Nat} (hd : d < m) : (named w m).at d k = (nrow w d).getD k (0, 0) := by
  simp only [Rule.at, named]
  rw [List.getD_eq_getElem?_getD (l := List.map _ _), List.getElem?_map, List.getElem?_range hd]
  rfl
theorem run_front {m : Nat} : ∀ {l o : List Nat}, Ord m o → (∀ x ∈ l, x < m) → (runR (named .front m) (o, zeros m) l).2 = (uniq (l.reverse ++ o), zeros m)
  | [], o, ho, _ => by
    simp only [runR, List.reverse_nil, List.nil_append, uniq]
    rw [uniqA_self o [] (by simpa using ho.nd)]; rfl
  | i :: l, o, ho, hl => by
    have hi := hl i (by simp)
    have hd : o.idxOf i < m := by rw [← ho.len]; exact List.idxOf_lt_length_of_mem (ho.mem hi)
    have e : (askR (named .front m) (o, zeros m) i).2 = (moved o i 0, zeros m) := by
      simp only [askR, zeros_at, at_named hd, nrow, List.getD_cons_zero, zeros_set]
    simp only [runR, e]
    rw [run_front (ho.moved hi 0) fun x hx => hl x (by simp [hx])]
    congr 1
    simp only [uniq, List.reverse_cons, List.append_assoc, List.singleton_append, uniqA_append, moved_front]
    rw [uniqA, uniqA]
    refine uniqA_drop i o _ ?_
    split
    · assumption
    · simp
theorem run_still {m : Nat} {o : List Nat} (ho : Ord m o) : ∀ {l : List Nat}, (∀ x ∈ l, x < m) → runR (named .still m) (o, zeros m) l = (l.map fun i => o.idxOf i, (o, zeros m))
  | [], _ => rfl
  | i :: l, hl => by
    have hi := hl i (by simp)
    have hd : o.idxOf i < m := by rw [← ho.len]; exact List.idxOf_lt_length_of_mem (ho.mem hi)
    have e : (askR (named .still m) (o, zeros m) i) = (o.idxOf i, (o, zeros m)) := by
      simp only [askR, zeros_at, at_named hd, nrow, List.getD_cons_zero, zeros_set, moved_still (ho.mem hi) ho.nd]
    simp only [runR, e]
    rw [run_still ho fun x hx => hl x (by simp [hx])]
    rfl
/-- which asks come at an even count -/
def evens (c : List Nat) : List Nat → List Nat × List Nat
  | [] => ([], c)
  | i :: l => let c' := c.set i (c.getD i 0 + 1); ((if (c.getD i 0 + 1) % 2 = 0 then [i] else []) ++ (evens c' l).1, (evens c' l).2)
theorem evens_append : ∀ (a b c : List Nat), evens c (a ++ b) = ((evens c a).1 ++ (evens (evens c a).2 b).1, (evens (evens c a).2 b).2)
  | [], b, c => by simp [evens]
  | i :: a, b, c => by simp only [List.cons_append, evens, evens_append a b, List.append_assoc]
theorem evens_len : ∀ (a c : List Nat), (evens c a).2.length = c.length
  | [], c => rfl
  | i :: a, c => by simp [evens, evens_len a]
theorem evens_short : ∀ (a c : List Nat), (evens c a).1.length ≤ a.length
  | [], c => by simp [evens]
  | i :: a, c => by
    have := evens_short a (c.set i (c.getD i 0 + 1))
    simp only [evens, List.length_append, List.length_cons]
    split <;> simp only [List.length_cons, List.length_nil] <;> omega
theorem evens_le : ∀ (a c : List Nat) (k : Nat), (∀ x ∈ c, x ≤ k) → ∀ x ∈ (evens c a).2, x ≤ k + a.length
  | [], c, k, h, x, hx => by simpa [evens] using h x hx
  | i :: a, c, k, h, x, hx => by
    have := evens_le a (c.set i (c.getD i 0 + 1)) (k + 1) (fun y hy => by
      rcases List.mem_or_eq_of_mem_set hy with hy | rfl
      · have := h y hy; omega
      · by_cases hi : i < c.length
        · have := h c[i] (List.getElem_mem hi)
          simp only [List.getD_eq_getElem?_getD, List.getElem?_eq_getElem hi, Option.getD_some]; omega
        · simp only [List.getD_eq_getElem?_getD, List.getElem?_eq_none (Nat.le_of_not_lt hi), Option.getD_none]; omega) x (by simpa [evens] using hx)
    simp only [List.length_cons]; omega
theorem evens_mem {m : Nat} : ∀ (a c : List Nat), (∀ x ∈ a, x < m) → ∀ x ∈ (evens c a).1, x < m
  | [], c, _, x, hx => by simp [evens] at hx
  | i :: a, c, h, x, hx => by
    simp only [evens, List.mem_append] at hx
    rcases hx with hx | hx
    · split at hx
      · simp at hx; subst hx; exact h _ (by simp)
      · simp at hx
    · exact evens_mem a _ (fun y hy => h y (by simp [hy])) x hx
theorem run_second {m : Nat} : ∀ {l o c : List Nat}, Ord m o → c.length = m → (∀ x ∈ l, x < m) → (runR (named .second m) (o, c.map (· % 2)) l).2 = (uniq ((evens c l).1.reverse ++ o), (evens c l).2.map (· % 2))
  | [], o, c, ho, _, _ => by
    simp only [runR, evens, List.reverse_nil, List.nil_append, uniq]
    rw [uniqA_self o [] (by simpa using ho.nd)]; rfl
  | i :: l, o, c, ho, hc, hl => by
    have hi := hl i (by simp)
    have hd : o.idxOf i < m := by rw [← ho.len]; exact List.idxOf_lt_length_of_mem (ho.mem hi)
    have hic : i < c.length := by omega
    have hg : (c.map (· % 2)).getD i 0 = c.getD i 0 % 2 := by
      simp only [List.getD_eq_getElem?_getD, List.getElem?_map, List.getElem?_eq_getElem hic, Option.map_some, Option.getD_some]
    have hs : (c.map (· % 2)).set i ((c.getD i 0 + 1) % 2) = (c.set i (c.getD i 0 + 1)).map (· % 2) := by rw [List.map_set]
    by_cases h : c.getD i 0 % 2 = 0
    · have e : (askR (named .second m) (o, c.map (· % 2)) i).2 = (o, (c.set i (c.getD i 0 + 1)).map (· % 2)) := by
        have h1 : (c.getD i 0 + 1) % 2 = 1 := by omega
        rw [← hs, h1]
        simp only [askR, hg, h, at_named hd, nrow, List.getD_cons_zero, moved_still (ho.mem hi) ho.nd]
      have h2 : ¬ (c.getD i 0 + 1) % 2 = 0 := by omega
      simp only [runR, e, evens, if_neg h2, List.nil_append]
      exact run_second ho (by simpa using hc) fun x hx => hl x (by simp [hx])
    · have h' : c.getD i 0 % 2 = 1 := by omega
      have e : (askR (named .second m) (o, c.map (· % 2)) i).2 = (moved o i 0, (c.set i (c.getD i 0 + 1)).map (· % 2)) := by
        have h1 : (c.getD i 0 + 1) % 2 = 0 := by omega
        rw [← hs, h1]
        simp only [askR, hg, h', at_named hd, nrow, List.getD_cons_succ, List.getD_cons_zero]
      have h2 : (c.getD i 0 + 1) % 2 = 0 := by omega
      simp only [runR, e, evens, if_pos h2]
      rw [run_second (ho.moved hi 0) (by simpa using hc) fun x hx => hl x (by simp [hx])]
      congr 1
      simp only [uniq, List.reverse_append, List.reverse_cons, List.reverse_nil, List.nil_append, List.append_assoc, List.singleton_append, uniqA_append, moved_front]
      rw [uniqA, uniqA]
      refine uniqA_drop i o _ ?_
      split
      · assumption
      · simp
variable {n : Nat}
theorem uniqA_len : ∀ (l acc : List Nat), (uniqA acc l).length ≤ acc.length + l.length
  | [], acc => by simp [uniqA]
  | i :: l, acc => by
    simp only [uniqA]
    split
    · have := uniqA_len l acc
      simp only [List.length_cons]; omega
    · have := uniqA_len l (acc ++ [i])
      simp only [List.length_cons, List.length_append, List.length_nil] at *; omega
theorem last_first_at (o asks : List Nat) (ho : o.length ≤ 300) (hn : asks.length ≤ 300) : callN TF lineN (n + 1) "_law_last_first" [.sh (enc o), .sh (enc asks)] = some (enc (uniq (asks.reverse ++ o)), []) := by
  refine call_eq (run_wp [.shr (enc o), .shr (enc asks), .un, .un] tf__law_last_first rfl rfl ?_)
  simp only [D__law_last_first, b__law_last_first_3]
  simp_arith [b__law_last_first_2]
  refine ⟨lineN_le' (by simp; omega), ?_⟩
  refine for_wp (l := asks.reverse ++ o) (f := enc) (R := fun p q env => p ++ q = asks.reverse ++ o ∧ ∃ x, freeS x = true ∧ env = [.shr (enc o), .shr (enc asks), .shr (encL (uniqA [] p)), x]) ⟨rfl, .un, rfl, rfl⟩ ?_ ?_
  · rintro p x q env ⟨e, u, hu, rfl⟩
    refine ⟨_, by simp_arith [hu]; rfl, ?_⟩
    have hp := congrArg List.length e
    simp only [List.length_append, List.length_cons, List.length_reverse] at hp
    have hl := uniqA_len p []
    simp only [List.length_nil, Nat.zero_add] at hl
    simp_arith [b__law_last_first_1]
    have hl' : (uniqA [] p).length ≤ 1000 := by omega
    have hl2 : (uniqA [] p).length + 1 ≤ 1000 := by omega
    by_cases hx : x ∈ uniqA [] p
    · simp_arith [hx, hl']
      exact ⟨e, .shr (.int x), rfl, by simp [uniqA_append, uniqA, hx]⟩
    · simp_arith [hx, hl2]
      exact ⟨e, .shr (.int x), rfl, by simp [uniqA_append, uniqA, hx]⟩
  · rintro env ⟨e, u, hu, rfl⟩
    simp_arith [b__law_last_first_0]
    rfl
theorem ask_one {w : Word} (hw : w ≠ .second) {m : Nat} {o : List Nat} (ho : Ord m o) {i : Nat} (hi : i < m) : askR (named w m) (o, zeros m) i = (o.idxOf i, (moved o i ((nrow w (o.idxOf i)).headD (0, 0)).1, zeros m)) := by
  have hd : o.idxOf i < m := by rw [← ho.len]; exact List.idxOf_lt_length_of_mem (ho.mem hi)
  cases w <;> first | exact absurd rfl hw | simp only [askR, zeros_at, at_named hd, nrow, List.getD_cons_zero, List.headD_cons, zeros_set]
theorem run_one_mark {w : Word} (hw : w ≠ .second) {m : Nat} : ∀ {l : List Nat} {o : List Nat}, Ord m o → (∀ x ∈ l, x < m) → (runR (named w m) (o, zeros m) l).2.2 = zeros m ∧ Ord m (runR (named w m) (o, zeros m) l).2.1
  | [], o, ho, _ => ⟨rfl, ho⟩
  | i :: l, o, ho, hl => by
    simp only [runR, ask_one hw ho (hl i (by simp))]
    exact run_one_mark hw (ho.moved (hl i (by simp)) _) fun x hx => hl x (by simp [hx])
theorem insD_moved (l : List Nat) (i k : Nat) : insD ((l.filter fun x => !decide (x = i)).map enc) k (.int i) = (moved l i k).map enc := by
  simp only [insD, moved, List.map_append, List.map_cons, List.map_take, List.map_drop, enc_nat]
theorem half_cast (d : Nat) : (d : Int) / 2 = ((d / 2 : Nat) : Int) := rfl
theorem zeros_std {m : Nat} (w : Word) {o : List Nat} (ho : Ord m o) : Std.ok (named w m) (o, zeros m) := by
  refine ⟨ho, by simp [zeros, named], fun x hx => ?_⟩
  have : x = 0 := by simpa [zeros] using (List.mem_replicate.mp hx).2
  subst this
  simp only [named]
  split <;> decide
theorem eqD_ahead (w : Word) : eqD (.str (wstr w)) (.str "ahead") = some (decide (w = .ahead)) := by
  cases w <;> decide +kernel
theorem in_even (c : Nat) : inD (.int c) (.tuple [.int 2, .int 4, .int 6, .int 8, .int 10, .int 12, .int 14]) = some (decide (c ∈ [2, 4, 6, 8, 10, 12, 14])) := in_nat c [2, 4, 6, 8, 10, 12, 14]
theorem in_odd (c : Nat) : inD (.int c) (.tuple [.int 1, .int 3, .int 5, .int 7, .int 9, .int 11, .int 13]) = some (decide (c ∈ [1, 3, 5, 7, 9, 11, 13])) := in_nat c [1, 3, 5, 7, 9, 11, 13]
theorem word_loop {m : Nat} {o asks : List Nat} {w : Word} (hw : w = .ahead ∨ w = .half) {ns : List Int} {l : List PyData} {d6 d9 d10 d11 : PyData} {x5 x14 x15 u16 u17 : VL.Slot} (h2 : 2 ≤ m) (h4 : m ≤ 4) (ho : Ord m o) (ha : ∀ x ∈ asks, x < m) (hn : asks.length ≤ 14)
    (f5 : freeS x5 = true) (f14 : freeS x14 = true) (f15 : freeS x15 = true) {Q : Fl → VL.Env → Prop}
    (fin : ∀ y5 y12 y13 y14 y15, freeS y5 = true → freeS y12 = true → freeS y13 = true → freeS y14 = true → freeS y15 = true → Q .nx [.scr ns, .own (.lst l), .shr (.int m), .shr (enc o), .shr (enc asks), y5, .shr d6, .shr (.str (wstr w)), .shr (enc ((o, zeros m) : Std)), .shr d9, .shr d10, .shr d11, y12, y13, y14, y15, u16, u17]) :
    Wp (xSs (callN TF lineN (n + 20)) lineN b_law_9 [.scr ns, .own (.lst l), .shr (.int m), .shr (enc o), .shr (enc asks), x5, .shr d6, .shr (.str (wstr w)), .shr (enc ((o, zeros m) : Std)), .shr d9, .shr d10, .shr d11, .own (storeO (named w m) (o, zeros m) []), .own (.lst (o.map enc)), x14, x15, u16, u17]) Q := by
  have hws : w ≠ .second := by rcases hw with rfl | rfl <;> decide
  have hm : m ≤ 1000 := by omega
  have okr := named_ok w h2 h4
  simp only [b_law_9]
  simp_arith 
  refine for_wp (l := asks) (f := enc) (R := fun p q env => p ++ q = asks ∧ ∃ (y5 y14 y15 : VL.Slot) (past : List (Nat × Nat)), freeS y5 = true ∧ freeS y14 = true ∧ freeS y15 = true ∧ past.length = p.length ∧ env = [.scr ns, .own (.lst l), .shr (.int m), .shr (enc o), .shr (enc asks), y5, .shr d6, .shr (.str (wstr w)), .shr (enc ((o, zeros m) : Std)), .shr d9, .shr d10, .shr d11, .own (storeO (named w m) (runR (named w m) (o, zeros m) p).2 past), .own (.lst ((runR (named w m) (o, zeros m) p).2.1.map enc)), y14, y15, u16, u17])
    ⟨rfl, x5, x14, x15, [], f5, f14, f15, rfl, rfl⟩ ?_ ?_
  · rintro p x q env ⟨e, y5, y14, y15, past, g5, g14, g15, hpast, rfl⟩
    have hx := ha x (by rw [← e]; simp)
    have hpl := congrArg List.length e
    simp only [List.length_append, List.length_cons] at hpl
    obtain ⟨hmk, hord⟩ := run_one_mark hws (l := p) ho fun y hy => ha y (by rw [← e]; simp [hy])
    have hst : (runR (named w m) (o, zeros m) p).2 = ((runR (named w m) (o, zeros m) p).2.1, zeros m) := Prod.ext rfl hmk
    have hstep : (runR (named w m) (o, zeros m) (p ++ [x])).2 = (moved (runR (named w m) (o, zeros m) p).2.1 x ((nrow w ((runR (named w m) (o, zeros m) p).2.1.idxOf x)).headD (0, 0)).1, zeros m) := by
      rw [run_append, run_one]
      simp only
      rw [hst, ask_one hws hord hx]
    rw [hst]
    generalize (runR (named w m) (o, zeros m) p).2.1 = cur at *
    have hmem := hord.mem hx
    have hlen := hord.len
    have hd : cur.idxOf x < m := by rw [← hlen]; exact List.idxOf_lt_length_of_mem hmem
    have hd' : cur.idxOf x < cur.length := by omega
    have hcl : cur.length ≤ 1000 := by omega
    refine ⟨_, by simp_arith [g5]; rfl, ?_⟩
    have ok : Std.ok (named w m) (cur, zeros m) := zeros_std w hord
    have ha1 := Store_ask_at (n := n + 16) h_Store_ask okr ok (i := x) hx (p := past) (by omega)
    rw [ask_one hws hord hx] at ha1
    have er := erase_filter hmem hord.nd
    have hfl := List.length_filter_le (fun y => !decide (y = x)) cur
    have hfl' : (cur.filter fun y => !decide (y = x)).length ≤ 1000 := by omega
    simp only [b_law_8]
    simp_arith [hmem, g14]
    have fine : ∀ to : Nat, to = ((nrow w (cur.idxOf x)).headD (0, 0)).1 → to ≤ 1000 → Wp (xSs (callN TF lineN (n + 20)) lineN b_law_6 [.scr ns, .own (.lst l), .shr (.int m), .shr (enc o), .shr (enc asks), .shr (.int x), .shr d6, .shr (.str (wstr w)), .shr (enc ((o, zeros m) : Std)), .shr d9, .shr d10, .shr d11, .own (storeO (named w m) (cur, zeros m) past), .own (.lst (cur.map enc)), .shr (.int (cur.idxOf x : Nat)), .shr (.int to), u16, u17]) fun fl e2 => (fl = Fl.nx ∨ fl = Fl.ct) ∧ p ++ [x] ++ q = asks ∧ ∃ (y5 y14 y15 : VL.Slot) (past : List (Nat × Nat)), freeS y5 = true ∧ freeS y14 = true ∧ freeS y15 = true ∧ past.length = p.length + 1 ∧ e2 = [.scr ns, .own (.lst l), .shr (.int m), .shr (enc o), .shr (enc asks), y5, .shr d6, .shr (.str (wstr w)), .shr (enc ((o, zeros m) : Std)), .shr d9, .shr d10, .shr d11, .own (storeO (named w m) (runR (named w m) (o, zeros m) (p ++ [x])).2 past), .own (.lst ((runR (named w m) (o, zeros m) (p ++ [x])).2.1.map enc)), y14, y15, u16, u17] := fun to ht hto => by
      simp only [b_law_6]
      simp_arith [met_ask, ha1, b_law_4, hd', hcl, List.getElem?_map, List.getElem?_eq_getElem hd', b_law_3]
      refine ⟨by omega, ?_⟩
      rw [eraseIdx_map, er, ← ht]
      have sp : ∀ x : List Nat, PyData.tuple [enc x, enc (List.replicate m 0)] = enc ((x, zeros m) : Std) := fun _ => rfl
      simp_arith [hto, hfl', insD_moved, b_law_2, met_standing, Store_standing_at h_Store_standing, mul_tn0 m hm, sp, eqD_std]
      rw [← ht] at hstep
      refine ⟨e, .shr (.int x), .shr (.int (cur.idxOf x : Nat)), .shr (.int to), past ++ [(x, cur.idxOf x)], rfl, rfl, rfl, by simp [hpast], ?_⟩
      rw [hstep]
    simp only [b_law_7]
    rw [List.append_assoc, List.singleton_append] at fine
    rcases hw with rfl | rfl
    · simp_arith [eqD_ahead, max0_pred, g15]
      exact fine (cur.idxOf x - 1) rfl (by omega)
    · simp_arith [eqD_ahead, half_cast, g15]
      exact fine (cur.idxOf x / 2) rfl (by omega)
  · rintro env ⟨e, y5, y14, y15, past, g5, g14, g15, hpast, rfl⟩
    exact Wp_some.mpr (fin y5 (.own (storeO (named w m) (runR (named w m) (o, zeros m) asks).2 past)) (.own (.lst ((runR (named w m) (o, zeros m) asks).2.1.map enc))) y14 y15 g5 rfl rfl g14 g15)
theorem tail_ok {m : Nat} {o asks : List Nat} {l : List PyData} {ns : List Int} {u16 : VL.Slot} (h2 : 2 ≤ m) (h4 : m ≤ 4) (ho : Ord m o) (ha : ∀ x ∈ asks, x < m) (hn : asks.length ≤ 14) (h16 : US u16) :
    Wp (xSs (callN TF lineN (n + 20)) lineN b_law_23 [.scr ns, .own (.lst l), .shr (.int m), .shr (enc o), .shr (enc asks), .un, .un, .un, .un, .un, .un, .un, .un, .un, .un, .un, u16, .un]) fun fl _ => fl = .rt (.bool true) := by
  have hm : m ≤ 1000 := by omega
  have hn' : asks.length ≤ 1000 := by omega
  have hol := ho.len
  have hlf := last_first_at (n := n + 19) o asks (by omega) (by omega)
  have eb : PyData.tuple [enc o, enc (List.replicate m 0)] = enc ((o, zeros m) : Std) := rfl
  simp only [b_law_23]
  simp_arith [mul_tn0 m hm, b_law_22]
  rw [eb]
  have n1 := fun w => named_rule_at (n := n + 16) h_named_rule w m h2 h4
  have r1 := fun w => run_at (n := n + 13) h_run (named_ok w h2 h4) (zeros_std w ho) ha hn'
  have n1f : callN TF lineN (n + 16 + 4) "named_rule" [.sh (.int m), .sh (.str "front")] = some (enc (named .front m), []) := n1 .front
  have n1s : callN TF lineN (n + 16 + 4) "named_rule" [.sh (.int m), .sh (.str "still")] = some (enc (named .still m), []) := n1 .still
  simp_arith [n1f, n1s, r1, hlf, run_front ho ha]
  have sp : ∀ x : List Nat, PyData.tuple [enc x, enc (List.replicate m 0)] = enc ((x, zeros m) : Std) := fun _ => rfl
  simp_arith [mul_tn0 m hm, sp, eqD_std, b_law_20, r1, run_still ho ha]
  refine vev_comp (l := asks) (f := enc) (fun x => .int (o.idxOf x : Nat)) (by simp_arith ) (by simp) (lineN_le' hn') US.un (fun x hx => ?_) ?_
  · have hm := ho.mem (ha x hx)
    simp_arith [hm]
  have el : PyData.list (asks.map fun x => .int (o.idxOf x : Nat)) = encL (asks.map fun x => o.idxOf x) := by
    rw [encL, List.map_map]; rfl
  rw [el]
  simp_arith [eqD_told, b_law_18, mul_ln0 m hm, b_law_17]
  refine for_wp (l := asks) (f := enc) (R := fun p q env => p ++ q = asks ∧ ∃ x : VL.Slot, US x ∧ env = [.scr ns, .own (.lst l), .shr (.int m), .shr (enc o), .shr (enc asks), x, .un, .un, .shr (enc ((o, zeros m) : Std)), .shr (enc (named .still m)), .shr (enc (evens (zeros m) p).1), .own (.lst ((evens (zeros m) p).2.map enc)), .un, .un, .un, .un, u16, .un]) ⟨rfl, .un, .un, rfl⟩ ?_ ?_
  · rintro p x q env ⟨e, u, hu, rfl⟩
    have hf := hu.free
    refine ⟨_, by simp_arith [hf]; rfl, ?_⟩
    have hx := ha x (by rw [← e]; simp)
    have hpl := congrArg List.length e
    simp only [List.length_append, List.length_cons] at hpl
    have hlen : (evens (zeros m) p).2.length = m := by rw [evens_len]; simp [zeros]
    have hxl : x < (evens (zeros m) p).2.length := by omega
    have hle : (evens (zeros m) p).2[x] ≤ 13 := by
      have := evens_le p (zeros m) 0 (by simp [zeros]) _ (List.getElem_mem hxl)
      omega
    simp only [b_law_16]
    simp_arith [List.getElem?_map, List.getElem?_eq_getElem hxl, hxl, hlen, hx]
    have hg : (evens (zeros m) p).2.getD x 0 = (evens (zeros m) p).2[x] := by
      rw [List.getD_eq_getElem?_getD, List.getElem?_eq_getElem hxl]; rfl
    have hap : evens (zeros m) (p ++ [x]) = ((evens (zeros m) p).1 ++ (if ((evens (zeros m) p).2[x] + 1) % 2 = 0 then [x] else []), (evens (zeros m) p).2.set x ((evens (zeros m) p).2[x] + 1)) := by
      rw [evens_append]
      simp only [evens, hg, List.append_nil]
    have hsl : (evens (zeros m) p).1.length ≤ p.length := evens_short p _
    have hsl1 : (evens (zeros m) p).1.length + 1 ≤ 1000 := by omega
    have hsl2 : (evens (zeros m) p).1.length ≤ 1000 := by omega
    generalize hcv : (evens (zeros m) p).2[x] = cv at *
    refine ⟨by omega, ?_⟩
    have es : (List.map enc (evens (zeros m) p).2).set x (PyData.int ((cv + 1 : Nat) : Int)) = ((evens (zeros m) p).2.set x (cv + 1)).map enc := by rw [List.map_set]; rfl
    have eg : ((evens (zeros m) p).2.set x (cv + 1))[x]? = some (cv + 1) := by rw [List.getElem?_set]; simp [hxl]
    rw [es]
    simp only [b_law_15]
    simp_arith [List.getElem?_map, eg, in_even]
    by_cases hev : (cv + 1) % 2 = 0
    · have h1 : cv + 1 ∈ [2, 4, 6, 8, 10, 12, 14] := by simp; omega
      simp_arith [h1, hsl1]
      exact ⟨e, .shr (.int x), .shr, by rw [hap, if_pos hev]⟩
    · have h1 : ¬ cv + 1 ∈ [2, 4, 6, 8, 10, 12, 14] := by simp; omega
      simp_arith [h1, hsl2]
      exact ⟨e, .shr (.int x), .shr, by rw [hap, if_neg hev, List.append_nil]⟩
  · rintro env ⟨e, u, hu, rfl⟩
    have hlen : (evens (zeros m) asks).2.length = m := by rw [evens_len]; simp [zeros]
    have hle : ∀ c ∈ (evens (zeros m) asks).2, c ≤ 14 := fun c hc => by
      have := evens_le asks (zeros m) 0 (by simp [zeros]) c hc
      omega
    have hsl : (evens (zeros m) asks).1.length ≤ asks.length := evens_short asks _
    have hl2 := last_first_at (n := n + 19) o (evens (zeros m) asks).1 (by omega) (by omega)
    have hsec := run_second (m := m) (l := asks) (o := o) (c := zeros m) ho (by simp [zeros]) ha
    have hz : (zeros m).map (· % 2) = zeros m := by simp [zeros]
    rw [hz] at hsec
    have n1x : callN TF lineN (n + 16 + 4) "named_rule" [.sh (.int m), .sh (.str "second")] = some (enc (named .second m), []) := n1 .second
    simp only [b_law_14]
    simp_arith [hl2]
    generalize hcs : (evens (zeros m) asks).2 = cs at *
    refine vev_comp1 (l := cs) (f := enc) [.scr ns, .own (.lst l), .shr (.int m), .shr (enc o), .shr (enc asks), u, .un, .un, .shr (enc ((o, zeros m) : Std)), .shr (enc (named .still m)), .shr (enc (evens (zeros m) asks).1), .shr (.list (cs.map enc)), .un, .un, .un, .un, u16, .un] (fun c => .int ((c % 2 : Nat) : Int)) (by simp_arith ) (by simp) (lineN_le' (by omega)) US.un (fun c hc => ?_) ?_
    · have h1 := hle c hc
      simp_arith [in_odd]
      by_cases hodd : c % 2 = 1
      · have h2 : c ∈ [1, 3, 5, 7, 9, 11, 13] := by simp; omega
        simp_arith [h2, hodd]
      · have h2 : ¬ c ∈ [1, 3, 5, 7, 9, 11, 13] := by simp; omega
        have h3 : c % 2 = 0 := by omega
        simp_arith [h2, h3]
    have el2 : PyData.list (cs.map fun c => .int ((c % 2 : Nat) : Int)) = encL (cs.map (· % 2)) := by
      rw [encL, List.map_map]; rfl
    have sp2 : ∀ x y : List Nat, PyData.tuple [enc x, enc y] = enc ((x, y) : Std) := fun _ _ => rfl
    rw [el2]
    simp_arith [sp2, b_law_13, n1x, r1, hsec, eqD_std]
    simp only [b_law_11]
    simp_arith 
    refine for_wp (l := [Word.ahead, Word.half]) (f := fun w => .str (wstr w)) (R := fun p q env => p ++ q = [Word.ahead, Word.half] ∧ ∃ (y5 y7 y12 y13 y14 y15 : VL.Slot), freeS y5 = true ∧ freeS y7 = true ∧ freeS y12 = true ∧ freeS y13 = true ∧ freeS y14 = true ∧ freeS y15 = true ∧ env = [.scr ns, .own (.lst l), .shr (.int m), .shr (enc o), .shr (enc asks), y5, .shr (enc ((uniq ((evens (zeros m) asks).1.reverse ++ o), cs.map (· % 2)) : Std)), y7, .shr (enc ((o, zeros m) : Std)), .shr (enc (named .still m)), .shr (enc (evens (zeros m) asks).1), .shr (encL cs), y12, y13, y14, y15, u16, .un])
      ⟨rfl, u, .un, .un, .un, .un, .un, hu.free, rfl, rfl, rfl, rfl, rfl, rfl⟩ ?_ ?_
    · rintro p w q env ⟨e2, y5, y7, y12, y13, y14, y15, g5, g7, g12, g13, g14, g15, rfl⟩
      have hw : w = .ahead ∨ w = .half := by
        have : w ∈ [Word.ahead, Word.half] := by rw [← e2]; simp
        simpa using this
      refine ⟨_, by simp_arith [g7]; rfl, ?_⟩
      have hsi := Store_init_at (n := n + 13) h_Store_u_init_u (named_ok w h2 h4) (zeros_std w ho)
      simp only [b_law_10]
      simp_arith [n1, str_Store_init, hsi, g12, g13]
      refine word_loop hw h2 h4 ho ha hn g5 g14 g15 ?_
      intro z5 z12 z13 z14 z15 k5 k12 k13 k14 k15
      refine ⟨.inl rfl, by simpa using e2, z5, _, z12, z13, z14, z15, k5, freeS_shr, k12, k13, k14, k15, rfl⟩
    · rintro env ⟨e2, y5, y7, y12, y13, y14, y15, g5, g7, g12, g13, g14, g15, rfl⟩
      simp_arith [b_law_0]
theorem truth (ns : List Int) (hn : ns.length ≤ 63) : callN TF lineN (n + 21) "law" [.scr ns] = some (.bool true, []) := by
  refine call_eq (run_wp [.scr ns, .un, .un, .un, .un, .un, .un, .un, .un, .un, .un, .un, .un, .un, .un, .un, .un, .un] tf_law rfl rfl ?_)
  simp only [D_law, b_law_27]
  obtain ⟨l, e, hp⟩ := open_at (n := n + 19) h__law_open ns hn
  obtain ⟨v1, l1, e1, hv1, hp1⟩ := take_at (n := n + 18) (m := 3) h__law_take hp (by omega) (by omega) (by omega)
  have e1' : callN TF lineN (n + 18 + 2) "_law_take" [.io (.lst l), .sh (.int 3)] = some (.int v1, [.lst l1]) := e1
  obtain ⟨l2, e2, hp2⟩ := anew_at (n := n + 19) h__law_anew hp1
  obtain ⟨o, l3, e3, ho, hp3⟩ := drawn_order_at (n := n + 17) (m := 2 + v1) h__law_drawn_order hp2 (by omega) (by omega)
  obtain ⟨k, l4, e4, hk, hp4⟩ := take_at (n := n + 18) (m := 15) h__law_take hp3 (by omega) (by omega) (by omega)
  have e4' : callN TF lineN (n + 18 + 2) "_law_take" [.io (.lst l3), .sh (.int 15)] = some (.int k, [.lst l4]) := e4
  have f1 : (2 : Int) + v1 = ((2 + v1 : Nat) : Int) := by omega
  simp_arith [e, b_law_26, e1', f1, b_law_25, e2, e3]
  simp only [b_law_24]
  simp_arith 
  generalize hm : 2 + v1 = m at *
  have h2 : 2 ≤ m := by omega
  have h4 : m ≤ 4 := by omega
  refine ev_compS (l := List.range k) (f := fun k : Nat => .int (k : Int)) (env1 := [.scr ns, .own (.lst l4), .shr (.int m), .shr (enc o), .un, .un, .un, .un, .un, .un, .un, .un, .un, .un, .un, .un, .un, .un]) (R := fun p' q' ys env => ∃ (asks : List Nat) (l4 : List PyData) (w : VL.Slot), US w ∧ p'.length + q'.length = k ∧ asks.length = p'.length ∧ (∀ e ∈ asks, e < m) ∧ ys = asks.map enc ∧ Pen (100 + p'.length) l4 ∧ env = [.scr ns, .own (.lst l4), .shr (.int m), .shr (enc o), .un, .un, .un, .un, .un, .un, .un, .un, .un, .un, .un, .un, w, .un])
    ?_ (lineN_le' (by simp; omega)) ⟨[], l4, .un, .un, by simp, rfl, by simp, rfl, hp4.mono (by omega), rfl⟩ ?_ ?_
  · simp_arith [e4', rangeD_nat k (by omega)]
  · rintro p' y q' ys env ⟨asks, l5, w, hw, g1, g2, g3, rfl, g4, rfl⟩
    simp only [List.length_cons] at g1
    refine ⟨_, _, wipe_us hw, by simp_arith ; rfl, ?_⟩
    obtain ⟨v1, l6, e6, hv1, hp6⟩ := take_at (n := n + 18) (m := m) h__law_take g4 (by omega) (by omega) (by omega)
    simp_arith [e6]
    refine ⟨asks ++ [v1], l6, _, .shr, by omega, by simp [g2], ?_, by rw [List.map_append]; rfl, hp6.mono (by omega), rfl⟩
    intro e he
    rcases List.mem_append.mp he with he | he
    · exact g3 e he
    · simp only [List.mem_singleton] at he; subst he; exact hv1
  · rintro zs env ⟨asks, l5, w, hw, g1, g2, g3, rfl, g4, rfl⟩
    refine ⟨⟨_, wipe_us hw⟩, ?_⟩
    simp only [List.length_nil, Nat.add_zero] at g1
    simp_arith [backE]
    refine Wp_mono (tail_ok (n := n) h2 h4 ho g3 (by omega) .un) ?_
    rintro fl env rfl
    simp_arith 
end KL

set_option Elab.async false
set_option linter.all false
set_option maxRecDepth 100000
namespace KL
open PySem VL L2 PyProof.Rows PL
def top (i : Nat) : Stmt := PySem.Challenge.pw_selfsort_k31_whole_named_rules.main.body.getD i (.Pass ⟨0, 0, 0, 0⟩)
def N_D_is_whole : List Str := (["value"] : List String).map Str.ofString
abbrev S_D_is_whole : Stmt := top 11
def N_D_is_below : List Str := (["value", "limit"] : List String).map Str.ofString
abbrev S_D_is_below : Stmt := top 12
def N_D_is_number_of_items : List Str := (["value"] : List String).map Str.ofString
abbrev S_D_is_number_of_items : Stmt := top 13
def N_D_is_order_of : List Str := (["items", "value", "item"] : List String).map Str.ofString
abbrev S_D_is_order_of : Stmt := top 14
def N_D_need_items : List Str := (["items"] : List String).map Str.ofString
abbrev S_D_need_items : Stmt := top 15
def N_D_need_item : List Str := (["items", "item"] : List String).map Str.ofString
abbrev S_D_need_item : Stmt := top 16
def N_D_make_moved : List Str := (["order", "item", "place", "left", "other"] : List String).map Str.ofString
abbrev S_D_make_moved : Stmt := top 17
def N_D_is_entry : List Str := (["place", "marks", "value"] : List String).map Str.ofString
abbrev S_D_is_entry : Stmt := top 21
def N_D_is_row : List Str := (["place", "marks", "value", "entry"] : List String).map Str.ofString
abbrev S_D_is_row : Stmt := top 22
def N_D_is_rule : List Str := (["value", "items", "marks", "table", "place", "row"] : List String).map Str.ofString
abbrev S_D_is_rule : Stmt := top 23
def N_D_need_rule : List Str := (["rule"] : List String).map Str.ofString
abbrev S_D_need_rule : Stmt := top 24
def N_D_named_row : List Str := (["word", "place"] : List String).map Str.ofString
abbrev S_D_named_row : Stmt := top 25
def N_D_named_rule : List Str := (["items", "value", "place"] : List String).map Str.ofString
abbrev S_D_named_rule : Stmt := top 26
def N_D_is_standing_of : List Str := (["rule", "value", "mark"] : List String).map Str.ofString
abbrev S_D_is_standing_of : Stmt := top 28
def N_D_need_standing : List Str := (["rule", "standing"] : List String).map Str.ofString
abbrev S_D_need_standing : Stmt := top 29
def N_D_are_asks_of : List Str := (["items", "value", "item"] : List String).map Str.ofString
abbrev S_D_are_asks_of : Stmt := top 30
def N_D_need_asks : List Str := (["items", "asks"] : List String).map Str.ofString
abbrev S_D_need_asks : Stmt := top 31
def N_D_make_ask : List Str := (["rule", "standing", "item", "depth", "order", "marks", "to", "mark"] : List String).map Str.ofString
abbrev S_D_make_ask : Stmt := top 32
def N_D_make_run : List Str := (["rule", "standing", "asks", "depths", "item", "depth"] : List String).map Str.ofString
abbrev S_D_make_run : Stmt := top 33
def N_D_run : List Str := (["rule", "standing", "asks"] : List String).map Str.ofString
abbrev S_D_run : Stmt := top 34
def N_D_Store_u_init_u : List Str := (["self", "rule", "standing"] : List String).map Str.ofString
abbrev S_D_Store_u_init_u : Stmt := inClass (top 35) 0
def N_D_Store_ask : List Str := (["self", "item", "depth"] : List String).map Str.ofString
abbrev S_D_Store_ask : Stmt := inClass (top 35) 1
def N_D_Store_rule : List Str := (["self"] : List String).map Str.ofString
abbrev S_D_Store_rule : Stmt := inClass (top 35) 2
def N_D_Store_standing : List Str := (["self"] : List String).map Str.ofString
abbrev S_D_Store_standing : Stmt := inClass (top 35) 3
def N_D_Store_asked : List Str := (["self"] : List String).map Str.ofString
abbrev S_D_Store_asked : Stmt := inClass (top 35) 4
def N_D__law_spread : List Str := (["cell", "at", "primes", "mixed", "one", "rest", "two", "three"] : List String).map Str.ofString
abbrev S_D__law_spread : Stmt := top 37
def N_D__law_open : List Str := (["script", "cells", "k", "cell"] : List String).map Str.ofString
abbrev S_D__law_open : Stmt := top 38
def N_D__law_take : List Str := (["pen", "many", "found", "at", "cell"] : List String).map Str.ofString
abbrev S_D__law_take : Stmt := top 39
def N_D__law_anew : List Str := (["pen"] : List String).map Str.ofString
abbrev S_D__law_anew : Stmt := top 40
def N_D__law_drawn_order : List Str := (["pen", "items", "place", "pool", "order"] : List String).map Str.ofString
abbrev S_D__law_drawn_order : Stmt := top 41
def N_D__law_last_first : List Str := (["order", "asks", "found", "item"] : List String).map Str.ofString
abbrev S_D__law_last_first : Stmt := top 42
def N_D_law : List Str := (["script", "pen", "items", "order", "asks", "item", "due", "word", "begun", "still", "seconds", "counts", "store", "now", "depth", "to", "k", "many"] : List String).map Str.ofString
abbrev S_D_law : Stmt := top 43
def gcF (x : Str) : Option PyData :=
  if x = "LEAST_ITEMS" then some (.int (2)) else
  if x = "MOST_ITEMS" then some (.int (4)) else
  if x = "MOST_KINDS" then some (.int (2)) else
  if x = "NAMES" then some (.tuple [(.str "front"), (.str "ahead"), (.str "still"), (.str "half"), (.str "second")]) else
  none
def T : Tb := ⟨TF, gcF, (["held", "now", "past"] : List String).map Str.ofString, (["is_whole", "is_below", "is_number_of_items", "is_order_of", "need_items", "need_item", "make_moved", "is_entry", "is_row", "is_rule", "need_rule", "named_row", "named_rule", "is_standing_of", "need_standing", "are_asks_of", "need_asks", "make_ask", "make_run", "run", "_law_spread", "_law_open", "_law_take", "_law_anew", "_law_drawn_order", "_law_last_first", "law"] : List String).map Str.ofString, [("Store", "ask"), ("Store", "rule"), ("Store", "standing"), ("Store", "asked")], (["Store"] : List String).map Str.ofString⟩
theorem m_D_is_whole : mSs T D_is_whole.body ⟨N_D_is_whole, (C8.fnScope S_D_is_whole).names, fun _ => true⟩ (C8.fnBody S_D_is_whole) = true := by decide +kernel
theorem s_D_is_whole : FnScope N_D_is_whole ((["value"] : List String).map Str.ofString) (C8.fnScope S_D_is_whole) := C8.fnScope_by (by decide +kernel)
theorem m_D_is_below : mSs T D_is_below.body ⟨N_D_is_below, (C8.fnScope S_D_is_below).names, fun _ => true⟩ (C8.fnBody S_D_is_below) = true := by decide +kernel
theorem s_D_is_below : FnScope N_D_is_below ((["value", "limit"] : List String).map Str.ofString) (C8.fnScope S_D_is_below) := C8.fnScope_by (by decide +kernel)
theorem m_D_is_number_of_items : mSs T D_is_number_of_items.body ⟨N_D_is_number_of_items, (C8.fnScope S_D_is_number_of_items).names, fun _ => true⟩ (C8.fnBody S_D_is_number_of_items) = true := by decide +kernel
theorem s_D_is_number_of_items : FnScope N_D_is_number_of_items ((["value"] : List String).map Str.ofString) (C8.fnScope S_D_is_number_of_items) := C8.fnScope_by (by decide +kernel)
theorem m_D_is_order_of : mSs T D_is_order_of.body ⟨N_D_is_order_of, (C8.fnScope S_D_is_order_of).names, fun _ => true⟩ (C8.fnBody S_D_is_order_of) = true := by decide +kernel
theorem s_D_is_order_of : FnScope N_D_is_order_of ((["items", "value"] : List String).map Str.ofString) (C8.fnScope S_D_is_order_of) := C8.fnScope_by (by decide +kernel)
theorem m_D_need_items : mSs T D_need_items.body ⟨N_D_need_items, (C8.fnScope S_D_need_items).names, fun _ => true⟩ (C8.fnBody S_D_need_items) = true := by decide +kernel
theorem s_D_need_items : FnScope N_D_need_items ((["items"] : List String).map Str.ofString) (C8.fnScope S_D_need_items) := C8.fnScope_by (by decide +kernel)
theorem m_D_need_item : mSs T D_need_item.body ⟨N_D_need_item, (C8.fnScope S_D_need_item).names, fun _ => true⟩ (C8.fnBody S_D_need_item) = true := by decide +kernel
theorem s_D_need_item : FnScope N_D_need_item ((["items", "item"] : List String).map Str.ofString) (C8.fnScope S_D_need_item) := C8.fnScope_by (by decide +kernel)
theorem m_D_make_moved : mSs T D_make_moved.body ⟨N_D_make_moved, (C8.fnScope S_D_make_moved).names, fun _ => true⟩ (C8.fnBody S_D_make_moved) = true := by decide +kernel
theorem s_D_make_moved : FnScope N_D_make_moved ((["order", "item", "place"] : List String).map Str.ofString) (C8.fnScope S_D_make_moved) := C8.fnScope_by (by decide +kernel)
theorem m_D_is_entry : mSs T D_is_entry.body ⟨N_D_is_entry, (C8.fnScope S_D_is_entry).names, fun _ => true⟩ (C8.fnBody S_D_is_entry) = true := by decide +kernel
theorem s_D_is_entry : FnScope N_D_is_entry ((["place", "marks", "value"] : List String).map Str.ofString) (C8.fnScope S_D_is_entry) := C8.fnScope_by (by decide +kernel)
theorem m_D_is_row : mSs T D_is_row.body ⟨N_D_is_row, (C8.fnScope S_D_is_row).names, fun _ => true⟩ (C8.fnBody S_D_is_row) = true := by decide +kernel
theorem s_D_is_row : FnScope N_D_is_row ((["place", "marks", "value"] : List String).map Str.ofString) (C8.fnScope S_D_is_row) := C8.fnScope_by (by decide +kernel)
theorem m_D_is_rule : mSs T D_is_rule.body ⟨N_D_is_rule, (C8.fnScope S_D_is_rule).names, fun _ => true⟩ (C8.fnBody S_D_is_rule) = true := by decide +kernel
theorem s_D_is_rule : FnScope N_D_is_rule ((["value"] : List String).map Str.ofString) (C8.fnScope S_D_is_rule) := C8.fnScope_by (by decide +kernel)
theorem m_D_need_rule : mSs T D_need_rule.body ⟨N_D_need_rule, (C8.fnScope S_D_need_rule).names, fun _ => true⟩ (C8.fnBody S_D_need_rule) = true := by decide +kernel
theorem s_D_need_rule : FnScope N_D_need_rule ((["rule"] : List String).map Str.ofString) (C8.fnScope S_D_need_rule) := C8.fnScope_by (by decide +kernel)
theorem m_D_named_row : mSs T D_named_row.body ⟨N_D_named_row, (C8.fnScope S_D_named_row).names, fun _ => true⟩ (C8.fnBody S_D_named_row) = true := by decide +kernel
theorem s_D_named_row : FnScope N_D_named_row ((["word", "place"] : List String).map Str.ofString) (C8.fnScope S_D_named_row) := C8.fnScope_by (by decide +kernel)
theorem m_D_named_rule : mSs T D_named_rule.body ⟨N_D_named_rule, (C8.fnScope S_D_named_rule).names, fun _ => true⟩ (C8.fnBody S_D_named_rule) = true := by decide +kernel
theorem s_D_named_rule : FnScope N_D_named_rule ((["items", "value"] : List String).map Str.ofString) (C8.fnScope S_D_named_rule) := C8.fnScope_by (by decide +kernel)
theorem m_D_is_standing_of : mSs T D_is_standing_of.body ⟨N_D_is_standing_of, (C8.fnScope S_D_is_standing_of).names, fun _ => true⟩ (C8.fnBody S_D_is_standing_of) = true := by decide +kernel
theorem s_D_is_standing_of : FnScope N_D_is_standing_of ((["rule", "value"] : List String).map Str.ofString) (C8.fnScope S_D_is_standing_of) := C8.fnScope_by (by decide +kernel)
theorem m_D_need_standing : mSs T D_need_standing.body ⟨N_D_need_standing, (C8.fnScope S_D_need_standing).names, fun _ => true⟩ (C8.fnBody S_D_need_standing) = true := by decide +kernel
theorem s_D_need_standing : FnScope N_D_need_standing ((["rule", "standing"] : List String).map Str.ofString) (C8.fnScope S_D_need_standing) := C8.fnScope_by (by decide +kernel)
theorem m_D_are_asks_of : mSs T D_are_asks_of.body ⟨N_D_are_asks_of, (C8.fnScope S_D_are_asks_of).names, fun _ => true⟩ (C8.fnBody S_D_are_asks_of) = true := by decide +kernel
theorem s_D_are_asks_of : FnScope N_D_are_asks_of ((["items", "value"] : List String).map Str.ofString) (C8.fnScope S_D_are_asks_of) := C8.fnScope_by (by decide +kernel)
theorem m_D_need_asks : mSs T D_need_asks.body ⟨N_D_need_asks, (C8.fnScope S_D_need_asks).names, fun _ => true⟩ (C8.fnBody S_D_need_asks) = true := by decide +kernel
theorem s_D_need_asks : FnScope N_D_need_asks ((["items", "asks"] : List String).map Str.ofString) (C8.fnScope S_D_need_asks) := C8.fnScope_by (by decide +kernel)
theorem m_D_make_ask : mSs T D_make_ask.body ⟨N_D_make_ask, (C8.fnScope S_D_make_ask).names, fun _ => true⟩ (C8.fnBody S_D_make_ask) = true := by decide +kernel
theorem s_D_make_ask : FnScope N_D_make_ask ((["rule", "standing", "item"] : List String).map Str.ofString) (C8.fnScope S_D_make_ask) := C8.fnScope_by (by decide +kernel)
theorem m_D_make_run : mSs T D_make_run.body ⟨N_D_make_run, (C8.fnScope S_D_make_run).names, fun _ => true⟩ (C8.fnBody S_D_make_run) = true := by decide +kernel
theorem s_D_make_run : FnScope N_D_make_run ((["rule", "standing", "asks"] : List String).map Str.ofString) (C8.fnScope S_D_make_run) := C8.fnScope_by (by decide +kernel)
theorem m_D_run : mSs T D_run.body ⟨N_D_run, (C8.fnScope S_D_run).names, fun _ => true⟩ (C8.fnBody S_D_run) = true := by decide +kernel
theorem s_D_run : FnScope N_D_run ((["rule", "standing", "asks"] : List String).map Str.ofString) (C8.fnScope S_D_run) := C8.fnScope_by (by decide +kernel)
theorem m_D_Store_u_init_u : mSs T D_Store_u_init_u.body ⟨N_D_Store_u_init_u, (C8.fnScope S_D_Store_u_init_u).names, fun _ => true⟩ (C8.fnBody S_D_Store_u_init_u) = true := by decide +kernel
theorem s_D_Store_u_init_u : FnScope N_D_Store_u_init_u ((["self", "rule", "standing"] : List String).map Str.ofString) (C8.fnScope S_D_Store_u_init_u) := C8.fnScope_by (by decide +kernel)
theorem m_D_Store_ask : mSs T D_Store_ask.body ⟨N_D_Store_ask, (C8.fnScope S_D_Store_ask).names, fun _ => true⟩ (C8.fnBody S_D_Store_ask) = true := by decide +kernel
theorem s_D_Store_ask : FnScope N_D_Store_ask ((["self", "item"] : List String).map Str.ofString) (C8.fnScope S_D_Store_ask) := C8.fnScope_by (by decide +kernel)
theorem m_D_Store_rule : mSs T D_Store_rule.body ⟨N_D_Store_rule, (C8.fnScope S_D_Store_rule).names, fun _ => true⟩ (C8.fnBody S_D_Store_rule) = true := by decide +kernel
theorem s_D_Store_rule : FnScope N_D_Store_rule ((["self"] : List String).map Str.ofString) (C8.fnScope S_D_Store_rule) := C8.fnScope_by (by decide +kernel)
theorem m_D_Store_standing : mSs T D_Store_standing.body ⟨N_D_Store_standing, (C8.fnScope S_D_Store_standing).names, fun _ => true⟩ (C8.fnBody S_D_Store_standing) = true := by decide +kernel
theorem s_D_Store_standing : FnScope N_D_Store_standing ((["self"] : List String).map Str.ofString) (C8.fnScope S_D_Store_standing) := C8.fnScope_by (by decide +kernel)
theorem m_D_Store_asked : mSs T D_Store_asked.body ⟨N_D_Store_asked, (C8.fnScope S_D_Store_asked).names, fun _ => true⟩ (C8.fnBody S_D_Store_asked) = true := by decide +kernel
theorem s_D_Store_asked : FnScope N_D_Store_asked ((["self"] : List String).map Str.ofString) (C8.fnScope S_D_Store_asked) := C8.fnScope_by (by decide +kernel)
theorem m_D__law_spread : mSs T D__law_spread.body ⟨N_D__law_spread, (C8.fnScope S_D__law_spread).names, fun _ => true⟩ (C8.fnBody S_D__law_spread) = true := by decide +kernel
theorem s_D__law_spread : FnScope N_D__law_spread ((["cell", "at"] : List String).map Str.ofString) (C8.fnScope S_D__law_spread) := C8.fnScope_by (by decide +kernel)
theorem m_D__law_open : mSs T D__law_open.body ⟨N_D__law_open, (C8.fnScope S_D__law_open).names, fun _ => true⟩ (C8.fnBody S_D__law_open) = true := by decide +kernel
theorem s_D__law_open : FnScope N_D__law_open ((["script"] : List String).map Str.ofString) (C8.fnScope S_D__law_open) := C8.fnScope_by (by decide +kernel)
theorem m_D__law_take : mSs T D__law_take.body ⟨N_D__law_take, (C8.fnScope S_D__law_take).names, fun _ => true⟩ (C8.fnBody S_D__law_take) = true := by decide +kernel
theorem s_D__law_take : FnScope N_D__law_take ((["pen", "many"] : List String).map Str.ofString) (C8.fnScope S_D__law_take) := C8.fnScope_by (by decide +kernel)
theorem m_D__law_anew : mSs T D__law_anew.body ⟨N_D__law_anew, (C8.fnScope S_D__law_anew).names, fun _ => true⟩ (C8.fnBody S_D__law_anew) = true := by decide +kernel
theorem s_D__law_anew : FnScope N_D__law_anew ((["pen"] : List String).map Str.ofString) (C8.fnScope S_D__law_anew) := C8.fnScope_by (by decide +kernel)
theorem m_D__law_drawn_order : mSs T D__law_drawn_order.body ⟨N_D__law_drawn_order, (C8.fnScope S_D__law_drawn_order).names, fun _ => true⟩ (C8.fnBody S_D__law_drawn_order) = true := by decide +kernel
theorem s_D__law_drawn_order : FnScope N_D__law_drawn_order ((["pen", "items"] : List String).map Str.ofString) (C8.fnScope S_D__law_drawn_order) := C8.fnScope_by (by decide +kernel)
theorem m_D__law_last_first : mSs T D__law_last_first.body ⟨N_D__law_last_first, (C8.fnScope S_D__law_last_first).names, fun _ => true⟩ (C8.fnBody S_D__law_last_first) = true := by decide +kernel
theorem s_D__law_last_first : FnScope N_D__law_last_first ((["order", "asks"] : List String).map Str.ofString) (C8.fnScope S_D__law_last_first) := C8.fnScope_by (by decide +kernel)
theorem m_D_law : mSs T D_law.body ⟨N_D_law, (C8.fnScope S_D_law).names, fun _ => true⟩ (C8.fnBody S_D_law) = true := by decide +kernel
theorem s_D_law : FnScope N_D_law ((["script"] : List String).map Str.ofString) (C8.fnScope S_D_law) := C8.fnScope_by (by decide +kernel)
section
variable {K : PySem.W.Frag} {mg : Str → Option Value} {h : Heap}
theorem d_D_is_whole {f : Addr} {od an : Option Addr} {sl : Array (Option Value)} {oc kV dc pm cd ct : Value} (l : K.lookup f = some ⟨oc, od, .func (PySem.W.fnOf "is_whole" "is_whole" (C8.fnArgs S_D_is_whole) (C8.fnBody S_D_is_whole) (C8.fnScope S_D_is_whole) .none kV dc pm an cd ct), sl⟩) (c : PySem.W.codeIn K cd "is_whole" = true) :
    DefOk T K D_is_whole f (PySem.W.fnOf "is_whole" "is_whole" (C8.fnArgs S_D_is_whole) (C8.fnBody S_D_is_whole) (C8.fnScope S_D_is_whole) .none kV dc pm an cd ct) ((["value"] : List String).map Str.ofString) := by
  have F : C8.Fun K "is_whole" "is_whole" S_D_is_whole f _ := ⟨oc, od, .none, kV, dc, pm, an, cd, ct, sl, rfl, l, c⟩
  exact ⟨⟨_, _, _, _, F, s_D_is_whole, m_D_is_whole, rfl, rfl⟩, F.binds rfl fun _ _ _ _ _ _ us hl => match us, hl with | [_], _ => rfl⟩
theorem d_D_is_below {f : Addr} {od an : Option Addr} {sl : Array (Option Value)} {oc kV dc pm cd ct : Value} (l : K.lookup f = some ⟨oc, od, .func (PySem.W.fnOf "is_below" "is_below" (C8.fnArgs S_D_is_below) (C8.fnBody S_D_is_below) (C8.fnScope S_D_is_below) .none kV dc pm an cd ct), sl⟩) (c : PySem.W.codeIn K cd "is_below" = true) :
    DefOk T K D_is_below f (PySem.W.fnOf "is_below" "is_below" (C8.fnArgs S_D_is_below) (C8.fnBody S_D_is_below) (C8.fnScope S_D_is_below) .none kV dc pm an cd ct) ((["value", "limit"] : List String).map Str.ofString) := by
  have F : C8.Fun K "is_below" "is_below" S_D_is_below f _ := ⟨oc, od, .none, kV, dc, pm, an, cd, ct, sl, rfl, l, c⟩
  exact ⟨⟨_, _, _, _, F, s_D_is_below, m_D_is_below, rfl, rfl⟩, F.binds rfl fun _ _ _ _ _ _ us hl => match us, hl with | [_, _], _ => rfl⟩
theorem d_D_is_number_of_items {f : Addr} {od an : Option Addr} {sl : Array (Option Value)} {oc kV dc pm cd ct : Value} (l : K.lookup f = some ⟨oc, od, .func (PySem.W.fnOf "is_number_of_items" "is_number_of_items" (C8.fnArgs S_D_is_number_of_items) (C8.fnBody S_D_is_number_of_items) (C8.fnScope S_D_is_number_of_items) .none kV dc pm an cd ct), sl⟩) (c : PySem.W.codeIn K cd "is_number_of_items" = true) :
    DefOk T K D_is_number_of_items f (PySem.W.fnOf "is_number_of_items" "is_number_of_items" (C8.fnArgs S_D_is_number_of_items) (C8.fnBody S_D_is_number_of_items) (C8.fnScope S_D_is_number_of_items) .none kV dc pm an cd ct) ((["value"] : List String).map Str.ofString) := by
  have F : C8.Fun K "is_number_of_items" "is_number_of_items" S_D_is_number_of_items f _ := ⟨oc, od, .none, kV, dc, pm, an, cd, ct, sl, rfl, l, c⟩
  exact ⟨⟨_, _, _, _, F, s_D_is_number_of_items, m_D_is_number_of_items, rfl, rfl⟩, F.binds rfl fun _ _ _ _ _ _ us hl => match us, hl with | [_], _ => rfl⟩
theorem d_D_is_order_of {f : Addr} {od an : Option Addr} {sl : Array (Option Value)} {oc kV dc pm cd ct : Value} (l : K.lookup f = some ⟨oc, od, .func (PySem.W.fnOf "is_order_of" "is_order_of" (C8.fnArgs S_D_is_order_of) (C8.fnBody S_D_is_order_of) (C8.fnScope S_D_is_order_of) .none kV dc pm an cd ct), sl⟩) (c : PySem.W.codeIn K cd "is_order_of" = true) :
    DefOk T K D_is_order_of f (PySem.W.fnOf "is_order_of" "is_order_of" (C8.fnArgs S_D_is_order_of) (C8.fnBody S_D_is_order_of) (C8.fnScope S_D_is_order_of) .none kV dc pm an cd ct) ((["items", "value"] : List String).map Str.ofString) := by
  have F : C8.Fun K "is_order_of" "is_order_of" S_D_is_order_of f _ := ⟨oc, od, .none, kV, dc, pm, an, cd, ct, sl, rfl, l, c⟩
  exact ⟨⟨_, _, _, _, F, s_D_is_order_of, m_D_is_order_of, rfl, rfl⟩, F.binds rfl fun _ _ _ _ _ _ us hl => match us, hl with | [_, _], _ => rfl⟩
theorem d_D_need_items {f : Addr} {od an : Option Addr} {sl : Array (Option Value)} {oc kV dc pm cd ct : Value} (l : K.lookup f = some ⟨oc, od, .func (PySem.W.fnOf "need_items" "need_items" (C8.fnArgs S_D_need_items) (C8.fnBody S_D_need_items) (C8.fnScope S_D_need_items) .none kV dc pm an cd ct), sl⟩) (c : PySem.W.codeIn K cd "need_items" = true) :
    DefOk T K D_need_items f (PySem.W.fnOf "need_items" "need_items" (C8.fnArgs S_D_need_items) (C8.fnBody S_D_need_items) (C8.fnScope S_D_need_items) .none kV dc pm an cd ct) ((["items"] : List String).map Str.ofString) := by
  have F : C8.Fun K "need_items" "need_items" S_D_need_items f _ := ⟨oc, od, .none, kV, dc, pm, an, cd, ct, sl, rfl, l, c⟩
  exact ⟨⟨_, _, _, _, F, s_D_need_items, m_D_need_items, rfl, rfl⟩, F.binds rfl fun _ _ _ _ _ _ us hl => match us, hl with | [_], _ => rfl⟩
theorem d_D_need_item {f : Addr} {od an : Option Addr} {sl : Array (Option Value)} {oc kV dc pm cd ct : Value} (l : K.lookup f = some ⟨oc, od, .func (PySem.W.fnOf "need_item" "need_item" (C8.fnArgs S_D_need_item) (C8.fnBody S_D_need_item) (C8.fnScope S_D_need_item) .none kV dc pm an cd ct), sl⟩) (c : PySem.W.codeIn K cd "need_item" = true) :
    DefOk T K D_need_item f (PySem.W.fnOf "need_item" "need_item" (C8.fnArgs S_D_need_item) (C8.fnBody S_D_need_item) (C8.fnScope S_D_need_item) .none kV dc pm an cd ct) ((["items", "item"] : List String).map Str.ofString) := by
  have F : C8.Fun K "need_item" "need_item" S_D_need_item f _ := ⟨oc, od, .none, kV, dc, pm, an, cd, ct, sl, rfl, l, c⟩
  exact ⟨⟨_, _, _, _, F, s_D_need_item, m_D_need_item, rfl, rfl⟩, F.binds rfl fun _ _ _ _ _ _ us hl => match us, hl with | [_, _], _ => rfl⟩
theorem d_D_make_moved {f : Addr} {od an : Option Addr} {sl : Array (Option Value)} {oc kV dc pm cd ct : Value} (l : K.lookup f = some ⟨oc, od, .func (PySem.W.fnOf "make_moved" "make_moved" (C8.fnArgs S_D_make_moved) (C8.fnBody S_D_make_moved) (C8.fnScope S_D_make_moved) .none kV dc pm an cd ct), sl⟩) (c : PySem.W.codeIn K cd "make_moved" = true) :
    DefOk T K D_make_moved f (PySem.W.fnOf "make_moved" "make_moved" (C8.fnArgs S_D_make_moved) (C8.fnBody S_D_make_moved) (C8.fnScope S_D_make_moved) .none kV dc pm an cd ct) ((["order", "item", "place"] : List String).map Str.ofString) := by
  have F : C8.Fun K "make_moved" "make_moved" S_D_make_moved f _ := ⟨oc, od, .none, kV, dc, pm, an, cd, ct, sl, rfl, l, c⟩
  exact ⟨⟨_, _, _, _, F, s_D_make_moved, m_D_make_moved, rfl, rfl⟩, F.binds rfl fun _ _ _ _ _ _ us hl => match us, hl with | [_, _, _], _ => rfl⟩
theorem d_D_is_entry {f : Addr} {od an : Option Addr} {sl : Array (Option Value)} {oc kV dc pm cd ct : Value} (l : K.lookup f = some ⟨oc, od, .func (PySem.W.fnOf "is_entry" "is_entry" (C8.fnArgs S_D_is_entry) (C8.fnBody S_D_is_entry) (C8.fnScope S_D_is_entry) .none kV dc pm an cd ct), sl⟩) (c : PySem.W.codeIn K cd "is_entry" = true) :
    DefOk T K D_is_entry f (PySem.W.fnOf "is_entry" "is_entry" (C8.fnArgs S_D_is_entry) (C8.fnBody S_D_is_entry) (C8.fnScope S_D_is_entry) .none kV dc pm an cd ct) ((["place", "marks", "value"] : List String).map Str.ofString) := by
  have F : C8.Fun K "is_entry" "is_entry" S_D_is_entry f _ := ⟨oc, od, .none, kV, dc, pm, an, cd, ct, sl, rfl, l, c⟩
  exact ⟨⟨_, _, _, _, F, s_D_is_entry, m_D_is_entry, rfl, rfl⟩, F.binds rfl fun _ _ _ _ _ _ us hl => match us, hl with | [_, _, _], _ => rfl⟩
theorem d_D_is_row {f : Addr} {od an : Option Addr} {sl : Array (Option Value)} {oc kV dc pm cd ct : Value} (l : K.lookup f = some ⟨oc, od, .func (PySem.W.fnOf "is_row" "is_row" (C8.fnArgs S_D_is_row) (C8.fnBody S_D_is_row) (C8.fnScope S_D_is_row) .none kV dc pm an cd ct), sl⟩) (c : PySem.W.codeIn K cd "is_row" = true) :
    DefOk T K D_is_row f (PySem.W.fnOf "is_row" "is_row" (C8.fnArgs S_D_is_row) (C8.fnBody S_D_is_row) (C8.fnScope S_D_is_row) .none kV dc pm an cd ct) ((["place", "marks", "value"] : List String).map Str.ofString) := by
  have F : C8.Fun K "is_row" "is_row" S_D_is_row f _ := ⟨oc, od, .none, kV, dc, pm, an, cd, ct, sl, rfl, l, c⟩
  exact ⟨⟨_, _, _, _, F, s_D_is_row, m_D_is_row, rfl, rfl⟩, F.binds rfl fun _ _ _ _ _ _ us hl => match us, hl with | [_, _, _], _ => rfl⟩
theorem d_D_is_rule {f : Addr} {od an : Option Addr} {sl : Array (Option Value)} {oc kV dc pm cd ct : Value} (l : K.lookup f = some ⟨oc, od, .func (PySem.W.fnOf "is_rule" "is_rule" (C8.fnArgs S_D_is_rule) (C8.fnBody S_D_is_rule) (C8.fnScope S_D_is_rule) .none kV dc pm an cd ct), sl⟩) (c : PySem.W.codeIn K cd "is_rule" = true) :
    DefOk T K D_is_rule f (PySem.W.fnOf "is_rule" "is_rule" (C8.fnArgs S_D_is_rule) (C8.fnBody S_D_is_rule) (C8.fnScope S_D_is_rule) .none kV dc pm an cd ct) ((["value"] : List String).map Str.ofString) := by
  have F : C8.Fun K "is_rule" "is_rule" S_D_is_rule f _ := ⟨oc, od, .none, kV, dc, pm, an, cd, ct, sl, rfl, l, c⟩
  exact ⟨⟨_, _, _, _, F, s_D_is_rule, m_D_is_rule, rfl, rfl⟩, F.binds rfl fun _ _ _ _ _ _ us hl => match us, hl with | [_], _ => rfl⟩
theorem d_D_need_rule {f : Addr} {od an : Option Addr} {sl : Array (Option Value)} {oc kV dc pm cd ct : Value} (l : K.lookup f = some ⟨oc, od, .func (PySem.W.fnOf "need_rule" "need_rule" (C8.fnArgs S_D_need_rule) (C8.fnBody S_D_need_rule) (C8.fnScope S_D_need_rule) .none kV dc pm an cd ct), sl⟩) (c : PySem.W.codeIn K cd "need_rule" = true) :
    DefOk T K D_need_rule f (PySem.W.fnOf "need_rule" "need_rule" (C8.fnArgs S_D_need_rule) (C8.fnBody S_D_need_rule) (C8.fnScope S_D_need_rule) .none kV dc pm an cd ct) ((["rule"] : List String).map Str.ofString) := by
  have F : C8.Fun K "need_rule" "need_rule" S_D_need_rule f _ := ⟨oc, od, .none, kV, dc, pm, an, cd, ct, sl, rfl, l, c⟩
  exact ⟨⟨_, _, _, _, F, s_D_need_rule, m_D_need_rule, rfl, rfl⟩, F.binds rfl fun _ _ _ _ _ _ us hl => match us, hl with | [_], _ => rfl⟩
theorem d_D_named_row {f : Addr} {od an : Option Addr} {sl : Array (Option Value)} {oc kV dc pm cd ct : Value} (l : K.lookup f = some ⟨oc, od, .func (PySem.W.fnOf "named_row" "named_row" (C8.fnArgs S_D_named_row) (C8.fnBody S_D_named_row) (C8.fnScope S_D_named_row) .none kV dc pm an cd ct), sl⟩) (c : PySem.W.codeIn K cd "named_row" = true) :
    DefOk T K D_named_row f (PySem.W.fnOf "named_row" "named_row" (C8.fnArgs S_D_named_row) (C8.fnBody S_D_named_row) (C8.fnScope S_D_named_row) .none kV dc pm an cd ct) ((["word", "place"] : List String).map Str.ofString) := by
  have F : C8.Fun K "named_row" "named_row" S_D_named_row f _ := ⟨oc, od, .none, kV, dc, pm, an, cd, ct, sl, rfl, l, c⟩
  exact ⟨⟨_, _, _, _, F, s_D_named_row, m_D_named_row, rfl, rfl⟩, F.binds rfl fun _ _ _ _ _ _ us hl => match us, hl with | [_, _], _ => rfl⟩
theorem d_D_named_rule {f : Addr} {od an : Option Addr} {sl : Array (Option Value)} {oc kV dc pm cd ct : Value} (l : K.lookup f = some ⟨oc, od, .func (PySem.W.fnOf "named_rule" "named_rule" (C8.fnArgs S_D_named_rule) (C8.fnBody S_D_named_rule) (C8.fnScope S_D_named_rule) .none kV dc pm an cd ct), sl⟩) (c : PySem.W.codeIn K cd "named_rule" = true) :
    DefOk T K D_named_rule f (PySem.W.fnOf "named_rule" "named_rule" (C8.fnArgs S_D_named_rule) (C8.fnBody S_D_named_rule) (C8.fnScope S_D_named_rule) .none kV dc pm an cd ct) ((["items", "value"] : List String).map Str.ofString) := by
  have F : C8.Fun K "named_rule" "named_rule" S_D_named_rule f _ := ⟨oc, od, .none, kV, dc, pm, an, cd, ct, sl, rfl, l, c⟩
  exact ⟨⟨_, _, _, _, F, s_D_named_rule, m_D_named_rule, rfl, rfl⟩, F.binds rfl fun _ _ _ _ _ _ us hl => match us, hl with | [_, _], _ => rfl⟩
theorem d_D_is_standing_of {f : Addr} {od an : Option Addr} {sl : Array (Option Value)} {oc kV dc pm cd ct : Value} (l : K.lookup f = some ⟨oc, od, .func (PySem.W.fnOf "is_standing_of" "is_standing_of" (C8.fnArgs S_D_is_standing_of) (C8.fnBody S_D_is_standing_of) (C8.fnScope S_D_is_standing_of) .none kV dc pm an cd ct), sl⟩) (c : PySem.W.codeIn K cd "is_standing_of" = true) :
    DefOk T K D_is_standing_of f (PySem.W.fnOf "is_standing_of" "is_standing_of" (C8.fnArgs S_D_is_standing_of) (C8.fnBody S_D_is_standing_of) (C8.fnScope S_D_is_standing_of) .none kV dc pm an cd ct) ((["rule", "value"] : List String).map Str.ofString) := by
  have F : C8.Fun K "is_standing_of" "is_standing_of" S_D_is_standing_of f _ := ⟨oc, od, .none, kV, dc, pm, an, cd, ct, sl, rfl, l, c⟩
  exact ⟨⟨_, _, _, _, F, s_D_is_standing_of, m_D_is_standing_of, rfl, rfl⟩, F.binds rfl fun _ _ _ _ _ _ us hl => match us, hl with | [_, _], _ => rfl⟩
theorem d_D_need_standing {f : Addr} {od an : Option Addr} {sl : Array (Option Value)} {oc kV dc pm cd ct : Value} (l : K.lookup f = some ⟨oc, od, .func (PySem.W.fnOf "need_standing" "need_standing" (C8.fnArgs S_D_need_standing) (C8.fnBody S_D_need_standing) (C8.fnScope S_D_need_standing) .none kV dc pm an cd ct), sl⟩) (c : PySem.W.codeIn K cd "need_standing" = true) :
    DefOk T K D_need_standing f (PySem.W.fnOf "need_standing" "need_standing" (C8.fnArgs S_D_need_standing) (C8.fnBody S_D_need_standing) (C8.fnScope S_D_need_standing) .none kV dc pm an cd ct) ((["rule", "standing"] : List String).map Str.ofString) := by
  have F : C8.Fun K "need_standing" "need_standing" S_D_need_standing f _ := ⟨oc, od, .none, kV, dc, pm, an, cd, ct, sl, rfl, l, c⟩
  exact ⟨⟨_, _, _, _, F, s_D_need_standing, m_D_need_standing, rfl, rfl⟩, F.binds rfl fun _ _ _ _ _ _ us hl => match us, hl with | [_, _], _ => rfl⟩
theorem d_D_are_asks_of {f : Addr} {od an : Option Addr} {sl : Array (Option Value)} {oc kV dc pm cd ct : Value} (l : K.lookup f = some ⟨oc, od, .func (PySem.W.fnOf "are_asks_of" "are_asks_of" (C8.fnArgs S_D_are_asks_of) (C8.fnBody S_D_are_asks_of) (C8.fnScope S_D_are_asks_of) .none kV dc pm an cd ct), sl⟩) (c : PySem.W.codeIn K cd "are_asks_of" = true) :
    DefOk T K D_are_asks_of f (PySem.W.fnOf "are_asks_of" "are_asks_of" (C8.fnArgs S_D_are_asks_of) (C8.fnBody S_D_are_asks_of) (C8.fnScope S_D_are_asks_of) .none kV dc pm an cd ct) ((["items", "value"] : List String).map Str.ofString) := by
  have F : C8.Fun K "are_asks_of" "are_asks_of" S_D_are_asks_of f _ := ⟨oc, od, .none, kV, dc, pm, an, cd, ct, sl, rfl, l, c⟩
  exact ⟨⟨_, _, _, _, F, s_D_are_asks_of, m_D_are_asks_of, rfl, rfl⟩, F.binds rfl fun _ _ _ _ _ _ us hl => match us, hl with | [_, _], _ => rfl⟩
theorem d_D_need_asks {f : Addr} {od an : Option Addr} {sl : Array (Option Value)} {oc kV dc pm cd ct : Value} (l : K.lookup f = some ⟨oc, od, .func (PySem.W.fnOf "need_asks" "need_asks" (C8.fnArgs S_D_need_asks) (C8.fnBody S_D_need_asks) (C8.fnScope S_D_need_asks) .none kV dc pm an cd ct), sl⟩) (c : PySem.W.codeIn K cd "need_asks" = true) :
    DefOk T K D_need_asks f (PySem.W.fnOf "need_asks" "need_asks" (C8.fnArgs S_D_need_asks) (C8.fnBody S_D_need_asks) (C8.fnScope S_D_need_asks) .none kV dc pm an cd ct) ((["items", "asks"] : List String).map Str.ofString) := by
  have F : C8.Fun K "need_asks" "need_asks" S_D_need_asks f _ := ⟨oc, od, .none, kV, dc, pm, an, cd, ct, sl, rfl, l, c⟩
  exact ⟨⟨_, _, _, _, F, s_D_need_asks, m_D_need_asks, rfl, rfl⟩, F.binds rfl fun _ _ _ _ _ _ us hl => match us, hl with | [_, _], _ => rfl⟩
theorem d_D_make_ask {f : Addr} {od an : Option Addr} {sl : Array (Option Value)} {oc kV dc pm cd ct : Value} (l : K.lookup f = some ⟨oc, od, .func (PySem.W.fnOf "make_ask" "make_ask" (C8.fnArgs S_D_make_ask) (C8.fnBody S_D_make_ask) (C8.fnScope S_D_make_ask) .none kV dc pm an cd ct), sl⟩) (c : PySem.W.codeIn K cd "make_ask" = true) :
    DefOk T K D_make_ask f (PySem.W.fnOf "make_ask" "make_ask" (C8.fnArgs S_D_make_ask) (C8.fnBody S_D_make_ask) (C8.fnScope S_D_make_ask) .none kV dc pm an cd ct) ((["rule", "standing", "item"] : List String).map Str.ofString) := by
  have F : C8.Fun K "make_ask" "make_ask" S_D_make_ask f _ := ⟨oc, od, .none, kV, dc, pm, an, cd, ct, sl, rfl, l, c⟩
  exact ⟨⟨_, _, _, _, F, s_D_make_ask, m_D_make_ask, rfl, rfl⟩, F.binds rfl fun _ _ _ _ _ _ us hl => match us, hl with | [_, _, _], _ => rfl⟩
theorem d_D_make_run {f : Addr} {od an : Option Addr} {sl : Array (Option Value)} {oc kV dc pm cd ct : Value} (l : K.lookup f = some ⟨oc, od, .func (PySem.W.fnOf "make_run" "make_run" (C8.fnArgs S_D_make_run) (C8.fnBody S_D_make_run) (C8.fnScope S_D_make_run) .none kV dc pm an cd ct), sl⟩) (c : PySem.W.codeIn K cd "make_run" = true) :
    DefOk T K D_make_run f (PySem.W.fnOf "make_run" "make_run" (C8.fnArgs S_D_make_run) (C8.fnBody S_D_make_run) (C8.fnScope S_D_make_run) .none kV dc pm an cd ct) ((["rule", "standing", "asks"] : List String).map Str.ofString) := by
  have F : C8.Fun K "make_run" "make_run" S_D_make_run f _ := ⟨oc, od, .none, kV, dc, pm, an, cd, ct, sl, rfl, l, c⟩
  exact ⟨⟨_, _, _, _, F, s_D_make_run, m_D_make_run, rfl, rfl⟩, F.binds rfl fun _ _ _ _ _ _ us hl => match us, hl with | [_, _, _], _ => rfl⟩
theorem d_D_run {f : Addr} {od an : Option Addr} {sl : Array (Option Value)} {oc kV dc pm cd ct : Value} (l : K.lookup f = some ⟨oc, od, .func (PySem.W.fnOf "run" "run" (C8.fnArgs S_D_run) (C8.fnBody S_D_run) (C8.fnScope S_D_run) .none kV dc pm an cd ct), sl⟩) (c : PySem.W.codeIn K cd "run" = true) :
    DefOk T K D_run f (PySem.W.fnOf "run" "run" (C8.fnArgs S_D_run) (C8.fnBody S_D_run) (C8.fnScope S_D_run) .none kV dc pm an cd ct) ((["rule", "standing", "asks"] : List String).map Str.ofString) := by
  have F : C8.Fun K "run" "run" S_D_run f _ := ⟨oc, od, .none, kV, dc, pm, an, cd, ct, sl, rfl, l, c⟩
  exact ⟨⟨_, _, _, _, F, s_D_run, m_D_run, rfl, rfl⟩, F.binds rfl fun _ _ _ _ _ _ us hl => match us, hl with | [_, _, _], _ => rfl⟩
theorem d_D_Store_u_init_u {f : Addr} {od an : Option Addr} {sl : Array (Option Value)} {oc kV dc pm cd ct : Value} (l : K.lookup f = some ⟨oc, od, .func (PySem.W.fnOf "__init__" "Store.__init__" (C8.fnArgs S_D_Store_u_init_u) (C8.fnBody S_D_Store_u_init_u) (C8.fnScope S_D_Store_u_init_u) .none kV dc pm an cd ct), sl⟩) (c : PySem.W.codeIn K cd "Store.__init__" = true) :
    DefOk T K D_Store_u_init_u f (PySem.W.fnOf "__init__" "Store.__init__" (C8.fnArgs S_D_Store_u_init_u) (C8.fnBody S_D_Store_u_init_u) (C8.fnScope S_D_Store_u_init_u) .none kV dc pm an cd ct) ((["self", "rule", "standing"] : List String).map Str.ofString) := by
  have F : C8.Fun K "__init__" "Store.__init__" S_D_Store_u_init_u f _ := ⟨oc, od, .none, kV, dc, pm, an, cd, ct, sl, rfl, l, c⟩
  exact ⟨⟨_, _, _, _, F, s_D_Store_u_init_u, m_D_Store_u_init_u, rfl, rfl⟩, F.binds rfl fun _ _ _ _ _ _ us hl => match us, hl with | [_, _, _], _ => rfl⟩
theorem d_D_Store_ask {f : Addr} {od an : Option Addr} {sl : Array (Option Value)} {oc kV dc pm cd ct : Value} (l : K.lookup f = some ⟨oc, od, .func (PySem.W.fnOf "ask" "Store.ask" (C8.fnArgs S_D_Store_ask) (C8.fnBody S_D_Store_ask) (C8.fnScope S_D_Store_ask) .none kV dc pm an cd ct), sl⟩) (c : PySem.W.codeIn K cd "Store.ask" = true) :
    DefOk T K D_Store_ask f (PySem.W.fnOf "ask" "Store.ask" (C8.fnArgs S_D_Store_ask) (C8.fnBody S_D_Store_ask) (C8.fnScope S_D_Store_ask) .none kV dc pm an cd ct) ((["self", "item"] : List String).map Str.ofString) := by
  have F : C8.Fun K "ask" "Store.ask" S_D_Store_ask f _ := ⟨oc, od, .none, kV, dc, pm, an, cd, ct, sl, rfl, l, c⟩
  exact ⟨⟨_, _, _, _, F, s_D_Store_ask, m_D_Store_ask, rfl, rfl⟩, F.binds rfl fun _ _ _ _ _ _ us hl => match us, hl with | [_, _], _ => rfl⟩
theorem d_D_Store_rule {f : Addr} {od an : Option Addr} {sl : Array (Option Value)} {oc kV dc pm cd ct : Value} (l : K.lookup f = some ⟨oc, od, .func (PySem.W.fnOf "rule" "Store.rule" (C8.fnArgs S_D_Store_rule) (C8.fnBody S_D_Store_rule) (C8.fnScope S_D_Store_rule) .none kV dc pm an cd ct), sl⟩) (c : PySem.W.codeIn K cd "Store.rule" = true) :
    DefOk T K D_Store_rule f (PySem.W.fnOf "rule" "Store.rule" (C8.fnArgs S_D_Store_rule) (C8.fnBody S_D_Store_rule) (C8.fnScope S_D_Store_rule) .none kV dc pm an cd ct) ((["self"] : List String).map Str.ofString) := by
  have F : C8.Fun K "rule" "Store.rule" S_D_Store_rule f _ := ⟨oc, od, .none, kV, dc, pm, an, cd, ct, sl, rfl, l, c⟩
  exact ⟨⟨_, _, _, _, F, s_D_Store_rule, m_D_Store_rule, rfl, rfl⟩, F.binds rfl fun _ _ _ _ _ _ us hl => match us, hl with | [_], _ => rfl⟩
theorem d_D_Store_standing {f : Addr} {od an : Option Addr} {sl : Array (Option Value)} {oc kV dc pm cd ct : Value} (l : K.lookup f = some ⟨oc, od, .func (PySem.W.fnOf "standing" "Store.standing" (C8.fnArgs S_D_Store_standing) (C8.fnBody S_D_Store_standing) (C8.fnScope S_D_Store_standing) .none kV dc pm an cd ct), sl⟩) (c : PySem.W.codeIn K cd "Store.standing" = true) :
    DefOk T K D_Store_standing f (PySem.W.fnOf "standing" "Store.standing" (C8.fnArgs S_D_Store_standing) (C8.fnBody S_D_Store_standing) (C8.fnScope S_D_Store_standing) .none kV dc pm an cd ct) ((["self"] : List String).map Str.ofString) := by
  have F : C8.Fun K "standing" "Store.standing" S_D_Store_standing f _ := ⟨oc, od, .none, kV, dc, pm, an, cd, ct, sl, rfl, l, c⟩
  exact ⟨⟨_, _, _, _, F, s_D_Store_standing, m_D_Store_standing, rfl, rfl⟩, F.binds rfl fun _ _ _ _ _ _ us hl => match us, hl with | [_], _ => rfl⟩
theorem d_D_Store_asked {f : Addr} {od an : Option Addr} {sl : Array (Option Value)} {oc kV dc pm cd ct : Value} (l : K.lookup f = some ⟨oc, od, .func (PySem.W.fnOf "asked" "Store.asked" (C8.fnArgs S_D_Store_asked) (C8.fnBody S_D_Store_asked) (C8.fnScope S_D_Store_asked) .none kV dc pm an cd ct), sl⟩) (c : PySem.W.codeIn K cd "Store.asked" = true) :
    DefOk T K D_Store_asked f (PySem.W.fnOf "asked" "Store.asked" (C8.fnArgs S_D_Store_asked) (C8.fnBody S_D_Store_asked) (C8.fnScope S_D_Store_asked) .none kV dc pm an cd ct) ((["self"] : List String).map Str.ofString) := by
  have F : C8.Fun K "asked" "Store.asked" S_D_Store_asked f _ := ⟨oc, od, .none, kV, dc, pm, an, cd, ct, sl, rfl, l, c⟩
  exact ⟨⟨_, _, _, _, F, s_D_Store_asked, m_D_Store_asked, rfl, rfl⟩, F.binds rfl fun _ _ _ _ _ _ us hl => match us, hl with | [_], _ => rfl⟩
theorem d_D__law_spread {f : Addr} {od an : Option Addr} {sl : Array (Option Value)} {oc kV dc pm cd ct : Value} (l : K.lookup f = some ⟨oc, od, .func (PySem.W.fnOf "_law_spread" "_law_spread" (C8.fnArgs S_D__law_spread) (C8.fnBody S_D__law_spread) (C8.fnScope S_D__law_spread) .none kV dc pm an cd ct), sl⟩) (c : PySem.W.codeIn K cd "_law_spread" = true) :
    DefOk T K D__law_spread f (PySem.W.fnOf "_law_spread" "_law_spread" (C8.fnArgs S_D__law_spread) (C8.fnBody S_D__law_spread) (C8.fnScope S_D__law_spread) .none kV dc pm an cd ct) ((["cell", "at"] : List String).map Str.ofString) := by
  have F : C8.Fun K "_law_spread" "_law_spread" S_D__law_spread f _ := ⟨oc, od, .none, kV, dc, pm, an, cd, ct, sl, rfl, l, c⟩
  exact ⟨⟨_, _, _, _, F, s_D__law_spread, m_D__law_spread, rfl, rfl⟩, F.binds rfl fun _ _ _ _ _ _ us hl => match us, hl with | [_, _], _ => rfl⟩
theorem d_D__law_open {f : Addr} {od an : Option Addr} {sl : Array (Option Value)} {oc kV dc pm cd ct : Value} (l : K.lookup f = some ⟨oc, od, .func (PySem.W.fnOf "_law_open" "_law_open" (C8.fnArgs S_D__law_open) (C8.fnBody S_D__law_open) (C8.fnScope S_D__law_open) .none kV dc pm an cd ct), sl⟩) (c : PySem.W.codeIn K cd "_law_open" = true) :
    DefOk T K D__law_open f (PySem.W.fnOf "_law_open" "_law_open" (C8.fnArgs S_D__law_open) (C8.fnBody S_D__law_open) (C8.fnScope S_D__law_open) .none kV dc pm an cd ct) ((["script"] : List String).map Str.ofString) := by
  have F : C8.Fun K "_law_open" "_law_open" S_D__law_open f _ := ⟨oc, od, .none, kV, dc, pm, an, cd, ct, sl, rfl, l, c⟩
  exact ⟨⟨_, _, _, _, F, s_D__law_open, m_D__law_open, rfl, rfl⟩, F.binds rfl fun _ _ _ _ _ _ us hl => match us, hl with | [_], _ => rfl⟩
theorem d_D__law_take {f : Addr} {od an : Option Addr} {sl : Array (Option Value)} {oc kV dc pm cd ct : Value} (l : K.lookup f = some ⟨oc, od, .func (PySem.W.fnOf "_law_take" "_law_take" (C8.fnArgs S_D__law_take) (C8.fnBody S_D__law_take) (C8.fnScope S_D__law_take) .none kV dc pm an cd ct), sl⟩) (c : PySem.W.codeIn K cd "_law_take" = true) :
    DefOk T K D__law_take f (PySem.W.fnOf "_law_take" "_law_take" (C8.fnArgs S_D__law_take) (C8.fnBody S_D__law_take) (C8.fnScope S_D__law_take) .none kV dc pm an cd ct) ((["pen", "many"] : List String).map Str.ofString) := by
  have F : C8.Fun K "_law_take" "_law_take" S_D__law_take f _ := ⟨oc, od, .none, kV, dc, pm, an, cd, ct, sl, rfl, l, c⟩
  exact ⟨⟨_, _, _, _, F, s_D__law_take, m_D__law_take, rfl, rfl⟩, F.binds rfl fun _ _ _ _ _ _ us hl => match us, hl with | [_, _], _ => rfl⟩
theorem d_D__law_anew {f : Addr} {od an : Option Addr} {sl : Array (Option Value)} {oc kV dc pm cd ct : Value} (l : K.lookup f = some ⟨oc, od, .func (PySem.W.fnOf "_law_anew" "_law_anew" (C8.fnArgs S_D__law_anew) (C8.fnBody S_D__law_anew) (C8.fnScope S_D__law_anew) .none kV dc pm an cd ct), sl⟩) (c : PySem.W.codeIn K cd "_law_anew" = true) :
    DefOk T K D__law_anew f (PySem.W.fnOf "_law_anew" "_law_anew" (C8.fnArgs S_D__law_anew) (C8.fnBody S_D__law_anew) (C8.fnScope S_D__law_anew) .none kV dc pm an cd ct) ((["pen"] : List String).map Str.ofString) := by
  have F : C8.Fun K "_law_anew" "_law_anew" S_D__law_anew f _ := ⟨oc, od, .none, kV, dc, pm, an, cd, ct, sl, rfl, l, c⟩
  exact ⟨⟨_, _, _, _, F, s_D__law_anew, m_D__law_anew, rfl, rfl⟩, F.binds rfl fun _ _ _ _ _ _ us hl => match us, hl with | [_], _ => rfl⟩
theorem d_D__law_drawn_order {f : Addr} {od an : Option Addr} {sl : Array (Option Value)} {oc kV dc pm cd ct : Value} (l : K.lookup f = some ⟨oc, od, .func (PySem.W.fnOf "_law_drawn_order" "_law_drawn_order" (C8.fnArgs S_D__law_drawn_order) (C8.fnBody S_D__law_drawn_order) (C8.fnScope S_D__law_drawn_order) .none kV dc pm an cd ct), sl⟩) (c : PySem.W.codeIn K cd "_law_drawn_order" = true) :
    DefOk T K D__law_drawn_order f (PySem.W.fnOf "_law_drawn_order" "_law_drawn_order" (C8.fnArgs S_D__law_drawn_order) (C8.fnBody S_D__law_drawn_order) (C8.fnScope S_D__law_drawn_order) .none kV dc pm an cd ct) ((["pen", "items"] : List String).map Str.ofString) := by
  have F : C8.Fun K "_law_drawn_order" "_law_drawn_order" S_D__law_drawn_order f _ := ⟨oc, od, .none, kV, dc, pm, an, cd, ct, sl, rfl, l, c⟩
  exact ⟨⟨_, _, _, _, F, s_D__law_drawn_order, m_D__law_drawn_order, rfl, rfl⟩, F.binds rfl fun _ _ _ _ _ _ us hl => match us, hl with | [_, _], _ => rfl⟩
theorem d_D__law_last_first {f : Addr} {od an : Option Addr} {sl : Array (Option Value)} {oc kV dc pm cd ct : Value} (l : K.lookup f = some ⟨oc, od, .func (PySem.W.fnOf "_law_last_first" "_law_last_first" (C8.fnArgs S_D__law_last_first) (C8.fnBody S_D__law_last_first) (C8.fnScope S_D__law_last_first) .none kV dc pm an cd ct), sl⟩) (c : PySem.W.codeIn K cd "_law_last_first" = true) :
    DefOk T K D__law_last_first f (PySem.W.fnOf "_law_last_first" "_law_last_first" (C8.fnArgs S_D__law_last_first) (C8.fnBody S_D__law_last_first) (C8.fnScope S_D__law_last_first) .none kV dc pm an cd ct) ((["order", "asks"] : List String).map Str.ofString) := by
  have F : C8.Fun K "_law_last_first" "_law_last_first" S_D__law_last_first f _ := ⟨oc, od, .none, kV, dc, pm, an, cd, ct, sl, rfl, l, c⟩
  exact ⟨⟨_, _, _, _, F, s_D__law_last_first, m_D__law_last_first, rfl, rfl⟩, F.binds rfl fun _ _ _ _ _ _ us hl => match us, hl with | [_, _], _ => rfl⟩
theorem d_D_law {f : Addr} {od an : Option Addr} {sl : Array (Option Value)} {oc kV dc pm cd ct : Value} (l : K.lookup f = some ⟨oc, od, .func (PySem.W.fnOf "law" "law" (C8.fnArgs S_D_law) (C8.fnBody S_D_law) (C8.fnScope S_D_law) .none kV dc pm an cd ct), sl⟩) (c : PySem.W.codeIn K cd "law" = true) :
    DefOk T K D_law f (PySem.W.fnOf "law" "law" (C8.fnArgs S_D_law) (C8.fnBody S_D_law) (C8.fnScope S_D_law) .none kV dc pm an cd ct) ((["script"] : List String).map Str.ofString) := by
  have F : C8.Fun K "law" "law" S_D_law f _ := ⟨oc, od, .none, kV, dc, pm, an, cd, ct, sl, rfl, l, c⟩
  exact ⟨⟨_, _, _, _, F, s_D_law, m_D_law, rfl, rfl⟩, F.binds rfl fun _ _ _ _ _ _ us hl => match us, hl with | [_], _ => rfl⟩
-- hyps: 125
theorem tab (X : K.In h) (G : h.Ns mainGlobals mg)
    {C_Store : Addr}
    (aC_Store : PySem.W.nsIn K mainGlobals "Store" = some (some (.ref C_Store)))
    (pg_Store : PySem.W.plainGet K C_Store Str.empty = true) (hd_Store : PySem.W.hasDictIn K C_Store = true) (po_Store : PySem.W.plainOver K C_Store = true) (sa_Store : PySem.W.findIn K (.ref C_Store) "__setattr__" = some (some (.builtin "object.__setattr__"))) (mk_Store : PySem.W.makesIn K C_Store = true) (kc_Store : PySem.W.keepIn K (.ref C_Store) = true)
    (nf_Store_held : PySem.W.findIn K (.ref C_Store) "held" = some none)
    (nf_Store_now : PySem.W.findIn K (.ref C_Store) "now" = some none)
    (nf_Store_past : PySem.W.findIn K (.ref C_Store) "past" = some none)
    {f_D_is_whole : Addr} {od_D_is_whole an_D_is_whole : Option Addr} {sl_D_is_whole : Array (Option Value)} {oc_D_is_whole kV_D_is_whole dc_D_is_whole pm_D_is_whole cd_D_is_whole ct_D_is_whole : Value}
    (a_D_is_whole : PySem.W.nsIn K mainGlobals "is_whole" = some (some (.ref f_D_is_whole)))
    (l_D_is_whole : K.lookup f_D_is_whole = some ⟨oc_D_is_whole, od_D_is_whole, .func (PySem.W.fnOf "is_whole" "is_whole" (C8.fnArgs S_D_is_whole) (C8.fnBody S_D_is_whole) (C8.fnScope S_D_is_whole) .none kV_D_is_whole dc_D_is_whole pm_D_is_whole an_D_is_whole cd_D_is_whole ct_D_is_whole), sl_D_is_whole⟩) (c_D_is_whole : PySem.W.codeIn K cd_D_is_whole "is_whole" = true) (k_D_is_whole : PySem.W.keepIn K (.ref f_D_is_whole) = true)
    {f_D_is_below : Addr} {od_D_is_below an_D_is_below : Option Addr} {sl_D_is_below : Array (Option Value)} {oc_D_is_below kV_D_is_below dc_D_is_below pm_D_is_below cd_D_is_below ct_D_is_below : Value}
    (a_D_is_below : PySem.W.nsIn K mainGlobals "is_below" = some (some (.ref f_D_is_below)))
    (l_D_is_below : K.lookup f_D_is_below = some ⟨oc_D_is_below, od_D_is_below, .func (PySem.W.fnOf "is_below" "is_below" (C8.fnArgs S_D_is_below) (C8.fnBody S_D_is_below) (C8.fnScope S_D_is_below) .none kV_D_is_below dc_D_is_below pm_D_is_below an_D_is_below cd_D_is_below ct_D_is_below), sl_D_is_below⟩) (c_D_is_below : PySem.W.codeIn K cd_D_is_below "is_below" = true) (k_D_is_below : PySem.W.keepIn K (.ref f_D_is_below) = true)
    {f_D_is_number_of_items : Addr} {od_D_is_number_of_items an_D_is_number_of_items : Option Addr} {sl_D_is_number_of_items : Array (Option Value)} {oc_D_is_number_of_items kV_D_is_number_of_items dc_D_is_number_of_items pm_D_is_number_of_items cd_D_is_number_of_items ct_D_is_number_of_items : Value}
    (a_D_is_number_of_items : PySem.W.nsIn K mainGlobals "is_number_of_items" = some (some (.ref f_D_is_number_of_items)))
    (l_D_is_number_of_items : K.lookup f_D_is_number_of_items = some ⟨oc_D_is_number_of_items, od_D_is_number_of_items, .func (PySem.W.fnOf "is_number_of_items" "is_number_of_items" (C8.fnArgs S_D_is_number_of_items) (C8.fnBody S_D_is_number_of_items) (C8.fnScope S_D_is_number_of_items) .none kV_D_is_number_of_items dc_D_is_number_of_items pm_D_is_number_of_items an_D_is_number_of_items cd_D_is_number_of_items ct_D_is_number_of_items), sl_D_is_number_of_items⟩) (c_D_is_number_of_items : PySem.W.codeIn K cd_D_is_number_of_items "is_number_of_items" = true) (k_D_is_number_of_items : PySem.W.keepIn K (.ref f_D_is_number_of_items) = true)
    {f_D_is_order_of : Addr} {od_D_is_order_of an_D_is_order_of : Option Addr} {sl_D_is_order_of : Array (Option Value)} {oc_D_is_order_of kV_D_is_order_of dc_D_is_order_of pm_D_is_order_of cd_D_is_order_of ct_D_is_order_of : Value}
    (a_D_is_order_of : PySem.W.nsIn K mainGlobals "is_order_of" = some (some (.ref f_D_is_order_of)))
    (l_D_is_order_of : K.lookup f_D_is_order_of = some ⟨oc_D_is_order_of, od_D_is_order_of, .func (PySem.W.fnOf "is_order_of" "is_order_of" (C8.fnArgs S_D_is_order_of) (C8.fnBody S_D_is_order_of) (C8.fnScope S_D_is_order_of) .none kV_D_is_order_of dc_D_is_order_of pm_D_is_order_of an_D_is_order_of cd_D_is_order_of ct_D_is_order_of), sl_D_is_order_of⟩) (c_D_is_order_of : PySem.W.codeIn K cd_D_is_order_of "is_order_of" = true) (k_D_is_order_of : PySem.W.keepIn K (.ref f_D_is_order_of) = true)
    {f_D_need_items : Addr} {od_D_need_items an_D_need_items : Option Addr} {sl_D_need_items : Array (Option Value)} {oc_D_need_items kV_D_need_items dc_D_need_items pm_D_need_items cd_D_need_items ct_D_need_items : Value}
    (a_D_need_items : PySem.W.nsIn K mainGlobals "need_items" = some (some (.ref f_D_need_items)))
    (l_D_need_items : K.lookup f_D_need_items = some ⟨oc_D_need_items, od_D_need_items, .func (PySem.W.fnOf "need_items" "need_items" (C8.fnArgs S_D_need_items) (C8.fnBody S_D_need_items) (C8.fnScope S_D_need_items) .none kV_D_need_items dc_D_need_items pm_D_need_items an_D_need_items cd_D_need_items ct_D_need_items), sl_D_need_items⟩) (c_D_need_items : PySem.W.codeIn K cd_D_need_items "need_items" = true) (k_D_need_items : PySem.W.keepIn K (.ref f_D_need_items) = true)
    {f_D_need_item : Addr} {od_D_need_item an_D_need_item : Option Addr} {sl_D_need_item : Array (Option Value)} {oc_D_need_item kV_D_need_item dc_D_need_item pm_D_need_item cd_D_need_item ct_D_need_item : Value}
    (a_D_need_item : PySem.W.nsIn K mainGlobals "need_item" = some (some (.ref f_D_need_item)))
    (l_D_need_item : K.lookup f_D_need_item = some ⟨oc_D_need_item, od_D_need_item, .func (PySem.W.fnOf "need_item" "need_item" (C8.fnArgs S_D_need_item) (C8.fnBody S_D_need_item) (C8.fnScope S_D_need_item) .none kV_D_need_item dc_D_need_item pm_D_need_item an_D_need_item cd_D_need_item ct_D_need_item), sl_D_need_item⟩) (c_D_need_item : PySem.W.codeIn K cd_D_need_item "need_item" = true) (k_D_need_item : PySem.W.keepIn K (.ref f_D_need_item) = true)
    {f_D_make_moved : Addr} {od_D_make_moved an_D_make_moved : Option Addr} {sl_D_make_moved : Array (Option Value)} {oc_D_make_moved kV_D_make_moved dc_D_make_moved pm_D_make_moved cd_D_make_moved ct_D_make_moved : Value}
    (a_D_make_moved : PySem.W.nsIn K mainGlobals "make_moved" = some (some (.ref f_D_make_moved)))
    (l_D_make_moved : K.lookup f_D_make_moved = some ⟨oc_D_make_moved, od_D_make_moved, .func (PySem.W.fnOf "make_moved" "make_moved" (C8.fnArgs S_D_make_moved) (C8.fnBody S_D_make_moved) (C8.fnScope S_D_make_moved) .none kV_D_make_moved dc_D_make_moved pm_D_make_moved an_D_make_moved cd_D_make_moved ct_D_make_moved), sl_D_make_moved⟩) (c_D_make_moved : PySem.W.codeIn K cd_D_make_moved "make_moved" = true) (k_D_make_moved : PySem.W.keepIn K (.ref f_D_make_moved) = true)
    {f_D_is_entry : Addr} {od_D_is_entry an_D_is_entry : Option Addr} {sl_D_is_entry : Array (Option Value)} {oc_D_is_entry kV_D_is_entry dc_D_is_entry pm_D_is_entry cd_D_is_entry ct_D_is_entry : Value}
    (a_D_is_entry : PySem.W.nsIn K mainGlobals "is_entry" = some (some (.ref f_D_is_entry)))
    (l_D_is_entry : K.lookup f_D_is_entry = some ⟨oc_D_is_entry, od_D_is_entry, .func (PySem.W.fnOf "is_entry" "is_entry" (C8.fnArgs S_D_is_entry) (C8.fnBody S_D_is_entry) (C8.fnScope S_D_is_entry) .none kV_D_is_entry dc_D_is_entry pm_D_is_entry an_D_is_entry cd_D_is_entry ct_D_is_entry), sl_D_is_entry⟩) (c_D_is_entry : PySem.W.codeIn K cd_D_is_entry "is_entry" = true) (k_D_is_entry : PySem.W.keepIn K (.ref f_D_is_entry) = true)
    {f_D_is_row : Addr} {od_D_is_row an_D_is_row : Option Addr} {sl_D_is_row : Array (Option Value)} {oc_D_is_row kV_D_is_row dc_D_is_row pm_D_is_row cd_D_is_row ct_D_is_row : Value}
    (a_D_is_row : PySem.W.nsIn K mainGlobals "is_row" = some (some (.ref f_D_is_row)))
    (l_D_is_row : K.lookup f_D_is_row = some ⟨oc_D_is_row, od_D_is_row, .func (PySem.W.fnOf "is_row" "is_row" (C8.fnArgs S_D_is_row) (C8.fnBody S_D_is_row) (C8.fnScope S_D_is_row) .none kV_D_is_row dc_D_is_row pm_D_is_row an_D_is_row cd_D_is_row ct_D_is_row), sl_D_is_row⟩) (c_D_is_row : PySem.W.codeIn K cd_D_is_row "is_row" = true) (k_D_is_row : PySem.W.keepIn K (.ref f_D_is_row) = true)
    {f_D_is_rule : Addr} {od_D_is_rule an_D_is_rule : Option Addr} {sl_D_is_rule : Array (Option Value)} {oc_D_is_rule kV_D_is_rule dc_D_is_rule pm_D_is_rule cd_D_is_rule ct_D_is_rule : Value}
    (a_D_is_rule : PySem.W.nsIn K mainGlobals "is_rule" = some (some (.ref f_D_is_rule)))
    (l_D_is_rule : K.lookup f_D_is_rule = some ⟨oc_D_is_rule, od_D_is_rule, .func (PySem.W.fnOf "is_rule" "is_rule" (C8.fnArgs S_D_is_rule) (C8.fnBody S_D_is_rule) (C8.fnScope S_D_is_rule) .none kV_D_is_rule dc_D_is_rule pm_D_is_rule an_D_is_rule cd_D_is_rule ct_D_is_rule), sl_D_is_rule⟩) (c_D_is_rule : PySem.W.codeIn K cd_D_is_rule "is_rule" = true) (k_D_is_rule : PySem.W.keepIn K (.ref f_D_is_rule) = true)
    {f_D_need_rule : Addr} {od_D_need_rule an_D_need_rule : Option Addr} {sl_D_need_rule : Array (Option Value)} {oc_D_need_rule kV_D_need_rule dc_D_need_rule pm_D_need_rule cd_D_need_rule ct_D_need_rule : Value}
    (a_D_need_rule : PySem.W.nsIn K mainGlobals "need_rule" = some (some (.ref f_D_need_rule)))
    (l_D_need_rule : K.lookup f_D_need_rule = some ⟨oc_D_need_rule, od_D_need_rule, .func (PySem.W.fnOf "need_rule" "need_rule" (C8.fnArgs S_D_need_rule) (C8.fnBody S_D_need_rule) (C8.fnScope S_D_need_rule) .none kV_D_need_rule dc_D_need_rule pm_D_need_rule an_D_need_rule cd_D_need_rule ct_D_need_rule), sl_D_need_rule⟩) (c_D_need_rule : PySem.W.codeIn K cd_D_need_rule "need_rule" = true) (k_D_need_rule : PySem.W.keepIn K (.ref f_D_need_rule) = true)
    {f_D_named_row : Addr} {od_D_named_row an_D_named_row : Option Addr} {sl_D_named_row : Array (Option Value)} {oc_D_named_row kV_D_named_row dc_D_named_row pm_D_named_row cd_D_named_row ct_D_named_row : Value}
    (a_D_named_row : PySem.W.nsIn K mainGlobals "named_row" = some (some (.ref f_D_named_row)))
    (l_D_named_row : K.lookup f_D_named_row = some ⟨oc_D_named_row, od_D_named_row, .func (PySem.W.fnOf "named_row" "named_row" (C8.fnArgs S_D_named_row) (C8.fnBody S_D_named_row) (C8.fnScope S_D_named_row) .none kV_D_named_row dc_D_named_row pm_D_named_row an_D_named_row cd_D_named_row ct_D_named_row), sl_D_named_row⟩) (c_D_named_row : PySem.W.codeIn K cd_D_named_row "named_row" = true) (k_D_named_row : PySem.W.keepIn K (.ref f_D_named_row) = true)
    {f_D_named_rule : Addr} {od_D_named_rule an_D_named_rule : Option Addr} {sl_D_named_rule : Array (Option Value)} {oc_D_named_rule kV_D_named_rule dc_D_named_rule pm_D_named_rule cd_D_named_rule ct_D_named_rule : Value}
    (a_D_named_rule : PySem.W.nsIn K mainGlobals "named_rule" = some (some (.ref f_D_named_rule)))
    (l_D_named_rule : K.lookup f_D_named_rule = some ⟨oc_D_named_rule, od_D_named_rule, .func (PySem.W.fnOf "named_rule" "named_rule" (C8.fnArgs S_D_named_rule) (C8.fnBody S_D_named_rule) (C8.fnScope S_D_named_rule) .none kV_D_named_rule dc_D_named_rule pm_D_named_rule an_D_named_rule cd_D_named_rule ct_D_named_rule), sl_D_named_rule⟩) (c_D_named_rule : PySem.W.codeIn K cd_D_named_rule "named_rule" = true) (k_D_named_rule : PySem.W.keepIn K (.ref f_D_named_rule) = true)
    {f_D_is_standing_of : Addr} {od_D_is_standing_of an_D_is_standing_of : Option Addr} {sl_D_is_standing_of : Array (Option Value)} {oc_D_is_standing_of kV_D_is_standing_of dc_D_is_standing_of pm_D_is_standing_of cd_D_is_standing_of ct_D_is_standing_of : Value}
    (a_D_is_standing_of : PySem.W.nsIn K mainGlobals "is_standing_of" = some (some (.ref f_D_is_standing_of)))
    (l_D_is_standing_of : K.lookup f_D_is_standing_of = some ⟨oc_D_is_standing_of, od_D_is_standing_of, .func (PySem.W.fnOf "is_standing_of" "is_standing_of" (C8.fnArgs S_D_is_standing_of) (C8.fnBody S_D_is_standing_of) (C8.fnScope S_D_is_standing_of) .none kV_D_is_standing_of dc_D_is_standing_of pm_D_is_standing_of an_D_is_standing_of cd_D_is_standing_of ct_D_is_standing_of), sl_D_is_standing_of⟩) (c_D_is_standing_of : PySem.W.codeIn K cd_D_is_standing_of "is_standing_of" = true) (k_D_is_standing_of : PySem.W.keepIn K (.ref f_D_is_standing_of) = true)
    {f_D_need_standing : Addr} {od_D_need_standing an_D_need_standing : Option Addr} {sl_D_need_standing : Array (Option Value)} {oc_D_need_standing kV_D_need_standing dc_D_need_standing pm_D_need_standing cd_D_need_standing ct_D_need_standing : Value}
    (a_D_need_standing : PySem.W.nsIn K mainGlobals "need_standing" = some (some (.ref f_D_need_standing)))
    (l_D_need_standing : K.lookup f_D_need_standing = some ⟨oc_D_need_standing, od_D_need_standing, .func (PySem.W.fnOf "need_standing" "need_standing" (C8.fnArgs S_D_need_standing) (C8.fnBody S_D_need_standing) (C8.fnScope S_D_need_standing) .none kV_D_need_standing dc_D_need_standing pm_D_need_standing an_D_need_standing cd_D_need_standing ct_D_need_standing), sl_D_need_standing⟩) (c_D_need_standing : PySem.W.codeIn K cd_D_need_standing "need_standing" = true) (k_D_need_standing : PySem.W.keepIn K (.ref f_D_need_standing) = true)
    {f_D_are_asks_of : Addr} {od_D_are_asks_of an_D_are_asks_of : Option Addr} {sl_D_are_asks_of : Array (Option Value)} {oc_D_are_asks_of kV_D_are_asks_of dc_D_are_asks_of pm_D_are_asks_of cd_D_are_asks_of ct_D_are_asks_of : Value}
    (a_D_are_asks_of : PySem.W.nsIn K mainGlobals "are_asks_of" = some (some (.ref f_D_are_asks_of)))
    (l_D_are_asks_of : K.lookup f_D_are_asks_of = some ⟨oc_D_are_asks_of, od_D_are_asks_of, .func (PySem.W.fnOf "are_asks_of" "are_asks_of" (C8.fnArgs S_D_are_asks_of) (C8.fnBody S_D_are_asks_of) (C8.fnScope S_D_are_asks_of) .none kV_D_are_asks_of dc_D_are_asks_of pm_D_are_asks_of an_D_are_asks_of cd_D_are_asks_of ct_D_are_asks_of), sl_D_are_asks_of⟩) (c_D_are_asks_of : PySem.W.codeIn K cd_D_are_asks_of "are_asks_of" = true) (k_D_are_asks_of : PySem.W.keepIn K (.ref f_D_are_asks_of) = true)
    {f_D_need_asks : Addr} {od_D_need_asks an_D_need_asks : Option Addr} {sl_D_need_asks : Array (Option Value)} {oc_D_need_asks kV_D_need_asks dc_D_need_asks pm_D_need_asks cd_D_need_asks ct_D_need_asks : Value}
    (a_D_need_asks : PySem.W.nsIn K mainGlobals "need_asks" = some (some (.ref f_D_need_asks)))
    (l_D_need_asks : K.lookup f_D_need_asks = some ⟨oc_D_need_asks, od_D_need_asks, .func (PySem.W.fnOf "need_asks" "need_asks" (C8.fnArgs S_D_need_asks) (C8.fnBody S_D_need_asks) (C8.fnScope S_D_need_asks) .none kV_D_need_asks dc_D_need_asks pm_D_need_asks an_D_need_asks cd_D_need_asks ct_D_need_asks), sl_D_need_asks⟩) (c_D_need_asks : PySem.W.codeIn K cd_D_need_asks "need_asks" = true) (k_D_need_asks : PySem.W.keepIn K (.ref f_D_need_asks) = true)
    {f_D_make_ask : Addr} {od_D_make_ask an_D_make_ask : Option Addr} {sl_D_make_ask : Array (Option Value)} {oc_D_make_ask kV_D_make_ask dc_D_make_ask pm_D_make_ask cd_D_make_ask ct_D_make_ask : Value}
    (a_D_make_ask : PySem.W.nsIn K mainGlobals "make_ask" = some (some (.ref f_D_make_ask)))
    (l_D_make_ask : K.lookup f_D_make_ask = some ⟨oc_D_make_ask, od_D_make_ask, .func (PySem.W.fnOf "make_ask" "make_ask" (C8.fnArgs S_D_make_ask) (C8.fnBody S_D_make_ask) (C8.fnScope S_D_make_ask) .none kV_D_make_ask dc_D_make_ask pm_D_make_ask an_D_make_ask cd_D_make_ask ct_D_make_ask), sl_D_make_ask⟩) (c_D_make_ask : PySem.W.codeIn K cd_D_make_ask "make_ask" = true) (k_D_make_ask : PySem.W.keepIn K (.ref f_D_make_ask) = true)
    {f_D_make_run : Addr} {od_D_make_run an_D_make_run : Option Addr} {sl_D_make_run : Array (Option Value)} {oc_D_make_run kV_D_make_run dc_D_make_run pm_D_make_run cd_D_make_run ct_D_make_run : Value}
    (a_D_make_run : PySem.W.nsIn K mainGlobals "make_run" = some (some (.ref f_D_make_run)))
    (l_D_make_run : K.lookup f_D_make_run = some ⟨oc_D_make_run, od_D_make_run, .func (PySem.W.fnOf "make_run" "make_run" (C8.fnArgs S_D_make_run) (C8.fnBody S_D_make_run) (C8.fnScope S_D_make_run) .none kV_D_make_run dc_D_make_run pm_D_make_run an_D_make_run cd_D_make_run ct_D_make_run), sl_D_make_run⟩) (c_D_make_run : PySem.W.codeIn K cd_D_make_run "make_run" = true) (k_D_make_run : PySem.W.keepIn K (.ref f_D_make_run) = true)
    {f_D_run : Addr} {od_D_run an_D_run : Option Addr} {sl_D_run : Array (Option Value)} {oc_D_run kV_D_run dc_D_run pm_D_run cd_D_run ct_D_run : Value}
    (a_D_run : PySem.W.nsIn K mainGlobals "run" = some (some (.ref f_D_run)))
    (l_D_run : K.lookup f_D_run = some ⟨oc_D_run, od_D_run, .func (PySem.W.fnOf "run" "run" (C8.fnArgs S_D_run) (C8.fnBody S_D_run) (C8.fnScope S_D_run) .none kV_D_run dc_D_run pm_D_run an_D_run cd_D_run ct_D_run), sl_D_run⟩) (c_D_run : PySem.W.codeIn K cd_D_run "run" = true) (k_D_run : PySem.W.keepIn K (.ref f_D_run) = true)
    {f_D_Store_u_init_u : Addr} {od_D_Store_u_init_u an_D_Store_u_init_u : Option Addr} {sl_D_Store_u_init_u : Array (Option Value)} {oc_D_Store_u_init_u kV_D_Store_u_init_u dc_D_Store_u_init_u pm_D_Store_u_init_u cd_D_Store_u_init_u ct_D_Store_u_init_u : Value}
    (a_D_Store_u_init_u : PySem.W.findIn K (.ref C_Store) "__init__" = some (some (.ref f_D_Store_u_init_u))) (i_D_Store_u_init_u : PySem.W.isFn K (.ref f_D_Store_u_init_u) = true)
    (l_D_Store_u_init_u : K.lookup f_D_Store_u_init_u = some ⟨oc_D_Store_u_init_u, od_D_Store_u_init_u, .func (PySem.W.fnOf "__init__" "Store.__init__" (C8.fnArgs S_D_Store_u_init_u) (C8.fnBody S_D_Store_u_init_u) (C8.fnScope S_D_Store_u_init_u) .none kV_D_Store_u_init_u dc_D_Store_u_init_u pm_D_Store_u_init_u an_D_Store_u_init_u cd_D_Store_u_init_u ct_D_Store_u_init_u), sl_D_Store_u_init_u⟩) (c_D_Store_u_init_u : PySem.W.codeIn K cd_D_Store_u_init_u "Store.__init__" = true) (k_D_Store_u_init_u : PySem.W.keepIn K (.ref f_D_Store_u_init_u) = true)
    {f_D_Store_ask : Addr} {od_D_Store_ask an_D_Store_ask : Option Addr} {sl_D_Store_ask : Array (Option Value)} {oc_D_Store_ask kV_D_Store_ask dc_D_Store_ask pm_D_Store_ask cd_D_Store_ask ct_D_Store_ask : Value}
    (a_D_Store_ask : PySem.W.findIn K (.ref C_Store) "ask" = some (some (.ref f_D_Store_ask))) (i_D_Store_ask : PySem.W.isFn K (.ref f_D_Store_ask) = true)
    (l_D_Store_ask : K.lookup f_D_Store_ask = some ⟨oc_D_Store_ask, od_D_Store_ask, .func (PySem.W.fnOf "ask" "Store.ask" (C8.fnArgs S_D_Store_ask) (C8.fnBody S_D_Store_ask) (C8.fnScope S_D_Store_ask) .none kV_D_Store_ask dc_D_Store_ask pm_D_Store_ask an_D_Store_ask cd_D_Store_ask ct_D_Store_ask), sl_D_Store_ask⟩) (c_D_Store_ask : PySem.W.codeIn K cd_D_Store_ask "Store.ask" = true) (k_D_Store_ask : PySem.W.keepIn K (.ref f_D_Store_ask) = true)
    {f_D_Store_rule : Addr} {od_D_Store_rule an_D_Store_rule : Option Addr} {sl_D_Store_rule : Array (Option Value)} {oc_D_Store_rule kV_D_Store_rule dc_D_Store_rule pm_D_Store_rule cd_D_Store_rule ct_D_Store_rule : Value}
    (a_D_Store_rule : PySem.W.findIn K (.ref C_Store) "rule" = some (some (.ref f_D_Store_rule))) (i_D_Store_rule : PySem.W.isFn K (.ref f_D_Store_rule) = true)
    (l_D_Store_rule : K.lookup f_D_Store_rule = some ⟨oc_D_Store_rule, od_D_Store_rule, .func (PySem.W.fnOf "rule" "Store.rule" (C8.fnArgs S_D_Store_rule) (C8.fnBody S_D_Store_rule) (C8.fnScope S_D_Store_rule) .none kV_D_Store_rule dc_D_Store_rule pm_D_Store_rule an_D_Store_rule cd_D_Store_rule ct_D_Store_rule), sl_D_Store_rule⟩) (c_D_Store_rule : PySem.W.codeIn K cd_D_Store_rule "Store.rule" = true) (k_D_Store_rule : PySem.W.keepIn K (.ref f_D_Store_rule) = true)
    {f_D_Store_standing : Addr} {od_D_Store_standing an_D_Store_standing : Option Addr} {sl_D_Store_standing : Array (Option Value)} {oc_D_Store_standing kV_D_Store_standing dc_D_Store_standing pm_D_Store_standing cd_D_Store_standing ct_D_Store_standing : Value}
    (a_D_Store_standing : PySem.W.findIn K (.ref C_Store) "standing" = some (some (.ref f_D_Store_standing))) (i_D_Store_standing : PySem.W.isFn K (.ref f_D_Store_standing) = true)
    (l_D_Store_standing : K.lookup f_D_Store_standing = some ⟨oc_D_Store_standing, od_D_Store_standing, .func (PySem.W.fnOf "standing" "Store.standing" (C8.fnArgs S_D_Store_standing) (C8.fnBody S_D_Store_standing) (C8.fnScope S_D_Store_standing) .none kV_D_Store_standing dc_D_Store_standing pm_D_Store_standing an_D_Store_standing cd_D_Store_standing ct_D_Store_standing), sl_D_Store_standing⟩) (c_D_Store_standing : PySem.W.codeIn K cd_D_Store_standing "Store.standing" = true) (k_D_Store_standing : PySem.W.keepIn K (.ref f_D_Store_standing) = true)
    {f_D_Store_asked : Addr} {od_D_Store_asked an_D_Store_asked : Option Addr} {sl_D_Store_asked : Array (Option Value)} {oc_D_Store_asked kV_D_Store_asked dc_D_Store_asked pm_D_Store_asked cd_D_Store_asked ct_D_Store_asked : Value}
    (a_D_Store_asked : PySem.W.findIn K (.ref C_Store) "asked" = some (some (.ref f_D_Store_asked))) (i_D_Store_asked : PySem.W.isFn K (.ref f_D_Store_asked) = true)
    (l_D_Store_asked : K.lookup f_D_Store_asked = some ⟨oc_D_Store_asked, od_D_Store_asked, .func (PySem.W.fnOf "asked" "Store.asked" (C8.fnArgs S_D_Store_asked) (C8.fnBody S_D_Store_asked) (C8.fnScope S_D_Store_asked) .none kV_D_Store_asked dc_D_Store_asked pm_D_Store_asked an_D_Store_asked cd_D_Store_asked ct_D_Store_asked), sl_D_Store_asked⟩) (c_D_Store_asked : PySem.W.codeIn K cd_D_Store_asked "Store.asked" = true) (k_D_Store_asked : PySem.W.keepIn K (.ref f_D_Store_asked) = true)
    {f_D__law_spread : Addr} {od_D__law_spread an_D__law_spread : Option Addr} {sl_D__law_spread : Array (Option Value)} {oc_D__law_spread kV_D__law_spread dc_D__law_spread pm_D__law_spread cd_D__law_spread ct_D__law_spread : Value}
    (a_D__law_spread : PySem.W.nsIn K mainGlobals "_law_spread" = some (some (.ref f_D__law_spread)))
    (l_D__law_spread : K.lookup f_D__law_spread = some ⟨oc_D__law_spread, od_D__law_spread, .func (PySem.W.fnOf "_law_spread" "_law_spread" (C8.fnArgs S_D__law_spread) (C8.fnBody S_D__law_spread) (C8.fnScope S_D__law_spread) .none kV_D__law_spread dc_D__law_spread pm_D__law_spread an_D__law_spread cd_D__law_spread ct_D__law_spread), sl_D__law_spread⟩) (c_D__law_spread : PySem.W.codeIn K cd_D__law_spread "_law_spread" = true) (k_D__law_spread : PySem.W.keepIn K (.ref f_D__law_spread) = true)
    {f_D__law_open : Addr} {od_D__law_open an_D__law_open : Option Addr} {sl_D__law_open : Array (Option Value)} {oc_D__law_open kV_D__law_open dc_D__law_open pm_D__law_open cd_D__law_open ct_D__law_open : Value}
    (a_D__law_open : PySem.W.nsIn K mainGlobals "_law_open" = some (some (.ref f_D__law_open)))
    (l_D__law_open : K.lookup f_D__law_open = some ⟨oc_D__law_open, od_D__law_open, .func (PySem.W.fnOf "_law_open" "_law_open" (C8.fnArgs S_D__law_open) (C8.fnBody S_D__law_open) (C8.fnScope S_D__law_open) .none kV_D__law_open dc_D__law_open pm_D__law_open an_D__law_open cd_D__law_open ct_D__law_open), sl_D__law_open⟩) (c_D__law_open : PySem.W.codeIn K cd_D__law_open "_law_open" = true) (k_D__law_open : PySem.W.keepIn K (.ref f_D__law_open) = true)
    {f_D__law_take : Addr} {od_D__law_take an_D__law_take : Option Addr} {sl_D__law_take : Array (Option Value)} {oc_D__law_take kV_D__law_take dc_D__law_take pm_D__law_take cd_D__law_take ct_D__law_take : Value}
    (a_D__law_take : PySem.W.nsIn K mainGlobals "_law_take" = some (some (.ref f_D__law_take)))
    (l_D__law_take : K.lookup f_D__law_take = some ⟨oc_D__law_take, od_D__law_take, .func (PySem.W.fnOf "_law_take" "_law_take" (C8.fnArgs S_D__law_take) (C8.fnBody S_D__law_take) (C8.fnScope S_D__law_take) .none kV_D__law_take dc_D__law_take pm_D__law_take an_D__law_take cd_D__law_take ct_D__law_take), sl_D__law_take⟩) (c_D__law_take : PySem.W.codeIn K cd_D__law_take "_law_take" = true) (k_D__law_take : PySem.W.keepIn K (.ref f_D__law_take) = true)
    {f_D__law_anew : Addr} {od_D__law_anew an_D__law_anew : Option Addr} {sl_D__law_anew : Array (Option Value)} {oc_D__law_anew kV_D__law_anew dc_D__law_anew pm_D__law_anew cd_D__law_anew ct_D__law_anew : Value}
    (a_D__law_anew : PySem.W.nsIn K mainGlobals "_law_anew" = some (some (.ref f_D__law_anew)))
    (l_D__law_anew : K.lookup f_D__law_anew = some ⟨oc_D__law_anew, od_D__law_anew, .func (PySem.W.fnOf "_law_anew" "_law_anew" (C8.fnArgs S_D__law_anew) (C8.fnBody S_D__law_anew) (C8.fnScope S_D__law_anew) .none kV_D__law_anew dc_D__law_anew pm_D__law_anew an_D__law_anew cd_D__law_anew ct_D__law_anew), sl_D__law_anew⟩) (c_D__law_anew : PySem.W.codeIn K cd_D__law_anew "_law_anew" = true) (k_D__law_anew : PySem.W.keepIn K (.ref f_D__law_anew) = true)
    {f_D__law_drawn_order : Addr} {od_D__law_drawn_order an_D__law_drawn_order : Option Addr} {sl_D__law_drawn_order : Array (Option Value)} {oc_D__law_drawn_order kV_D__law_drawn_order dc_D__law_drawn_order pm_D__law_drawn_order cd_D__law_drawn_order ct_D__law_drawn_order : Value}
    (a_D__law_drawn_order : PySem.W.nsIn K mainGlobals "_law_drawn_order" = some (some (.ref f_D__law_drawn_order)))
    (l_D__law_drawn_order : K.lookup f_D__law_drawn_order = some ⟨oc_D__law_drawn_order, od_D__law_drawn_order, .func (PySem.W.fnOf "_law_drawn_order" "_law_drawn_order" (C8.fnArgs S_D__law_drawn_order) (C8.fnBody S_D__law_drawn_order) (C8.fnScope S_D__law_drawn_order) .none kV_D__law_drawn_order dc_D__law_drawn_order pm_D__law_drawn_order an_D__law_drawn_order cd_D__law_drawn_order ct_D__law_drawn_order), sl_D__law_drawn_order⟩) (c_D__law_drawn_order : PySem.W.codeIn K cd_D__law_drawn_order "_law_drawn_order" = true) (k_D__law_drawn_order : PySem.W.keepIn K (.ref f_D__law_drawn_order) = true)
    {f_D__law_last_first : Addr} {od_D__law_last_first an_D__law_last_first : Option Addr} {sl_D__law_last_first : Array (Option Value)} {oc_D__law_last_first kV_D__law_last_first dc_D__law_last_first pm_D__law_last_first cd_D__law_last_first ct_D__law_last_first : Value}
    (a_D__law_last_first : PySem.W.nsIn K mainGlobals "_law_last_first" = some (some (.ref f_D__law_last_first)))
    (l_D__law_last_first : K.lookup f_D__law_last_first = some ⟨oc_D__law_last_first, od_D__law_last_first, .func (PySem.W.fnOf "_law_last_first" "_law_last_first" (C8.fnArgs S_D__law_last_first) (C8.fnBody S_D__law_last_first) (C8.fnScope S_D__law_last_first) .none kV_D__law_last_first dc_D__law_last_first pm_D__law_last_first an_D__law_last_first cd_D__law_last_first ct_D__law_last_first), sl_D__law_last_first⟩) (c_D__law_last_first : PySem.W.codeIn K cd_D__law_last_first "_law_last_first" = true) (k_D__law_last_first : PySem.W.keepIn K (.ref f_D__law_last_first) = true)
    {f_D_law : Addr} {od_D_law an_D_law : Option Addr} {sl_D_law : Array (Option Value)} {oc_D_law kV_D_law dc_D_law pm_D_law cd_D_law ct_D_law : Value}
    (a_D_law : PySem.W.nsIn K mainGlobals "law" = some (some (.ref f_D_law)))
    (l_D_law : K.lookup f_D_law = some ⟨oc_D_law, od_D_law, .func (PySem.W.fnOf "law" "law" (C8.fnArgs S_D_law) (C8.fnBody S_D_law) (C8.fnScope S_D_law) .none kV_D_law dc_D_law pm_D_law an_D_law cd_D_law ct_D_law), sl_D_law⟩) (c_D_law : PySem.W.codeIn K cd_D_law "law" = true) (k_D_law : PySem.W.keepIn K (.ref f_D_law) = true)
    (z_len : PySem.W.nsIn K mainGlobals "len" = some none)
    (z_int : PySem.W.nsIn K mainGlobals "int" = some none)
    (z_max : PySem.W.nsIn K mainGlobals "max" = some none)
    (z_min : PySem.W.nsIn K mainGlobals "min" = some none)
    (z_list : PySem.W.nsIn K mainGlobals "list" = some none)
    (z_tuple : PySem.W.nsIn K mainGlobals "tuple" = some none)
    (z_sorted : PySem.W.nsIn K mainGlobals "sorted" = some none)
    (z_all : PySem.W.nsIn K mainGlobals "all" = some none)
    (z_any : PySem.W.nsIn K mainGlobals "any" = some none)
    (z_repr : PySem.W.nsIn K mainGlobals "repr" = some none)
    (z_abs : PySem.W.nsIn K mainGlobals "abs" = some none)
    (z_range : PySem.W.nsIn K mainGlobals "range" = some none)
    (z_enumerate : PySem.W.nsIn K mainGlobals "enumerate" = some none)
    (z_zip : PySem.W.nsIn K mainGlobals "zip" = some none)
    (z_set : PySem.W.nsIn K mainGlobals "set" = some none)
    (z_dict : PySem.W.nsIn K mainGlobals "dict" = some none)
    (z_isinstance : PySem.W.nsIn K mainGlobals "isinstance" = some none)
    (z_bool : PySem.W.nsIn K mainGlobals "bool" = some none)
    (z_str : PySem.W.nsIn K mainGlobals "str" = some none)
    {t_LEAST_ITEMS : Tok} (g_LEAST_ITEMS : PySem.W.nsIn K mainGlobals "LEAST_ITEMS" = some (some (.int (2) t_LEAST_ITEMS)))
    {t_MOST_ITEMS : Tok} (g_MOST_ITEMS : PySem.W.nsIn K mainGlobals "MOST_ITEMS" = some (some (.int (4) t_MOST_ITEMS)))
    {t_MOST_KINDS : Tok} (g_MOST_KINDS : PySem.W.nsIn K mainGlobals "MOST_KINDS" = some (some (.int (2) t_MOST_KINDS)))
    {o_NAMES : Addr} {t_NAMES_0 t_NAMES_1 t_NAMES_2 t_NAMES_3 t_NAMES_4 : Tok} {n_NAMES : Nat} {sl_NAMES : Array (Option Value)} (g_NAMES : PySem.W.nsIn K mainGlobals "NAMES" = some (some (.ref o_NAMES))) (l_NAMES : K.lookup o_NAMES = some ⟨.type "tuple", none, .seq #[.str "front" t_NAMES_0, .str "ahead" t_NAMES_1, .str "still" t_NAMES_2, .str "half" t_NAMES_3, .str "second" t_NAMES_4] n_NAMES, sl_NAMES⟩)
    : TabOk T K mg (fun c => if c = "Store" then some C_Store else none) := by
  refine ⟨fun x d hx => ?_, fun c C hc => ?_, fun f d hf hd => ?_, fun c m d hm hd => ?_, fun c d hc hd => ?_, fun x hx => ?_⟩
  · have hx : gcF x = some d := hx
    unfold gcF at hx
    split at hx
    · rename_i e; subst e; cases hx; exact ⟨_, .int _, PySem.W.mg_of X G g_LEAST_ITEMS, ⟨_, rfl⟩, fun H Z => .int _⟩
    split at hx
    · rename_i e; subst e; cases hx; exact ⟨_, .int _, PySem.W.mg_of X G g_MOST_ITEMS, ⟨_, rfl⟩, fun H Z => .int _⟩
    split at hx
    · rename_i e; subst e; cases hx; exact ⟨_, .int _, PySem.W.mg_of X G g_MOST_KINDS, ⟨_, rfl⟩, fun H Z => .int _⟩
    split at hx
    · rename_i e; subst e; cases hx; exact ⟨_, .ref _, PySem.W.mg_of X G g_NAMES, rfl, fun H Z => .tup (.inr ⟨_, _, _, l_NAMES, rfl, rfl, rfl, by show 5 ≤ sizeLine; decide, (.cons (show RelV (.str "front") _ from ⟨_, rfl⟩) (.cons (show RelV (.str "ahead") _ from ⟨_, rfl⟩) (.cons (show RelV (.str "still") _ from ⟨_, rfl⟩) (.cons (show RelV (.str "half") _ from ⟨_, rfl⟩) (.cons (show RelV (.str "second") _ from ⟨_, rfl⟩) .nil)))))⟩) (.cons (.str _) (.cons (.str _) (.cons (.str _) (.cons (.str _) (.cons (.str _) .nil)))))⟩
    cases hx
  · skip
    split at hc
    · rename_i e; subst e; cases hc
      refine ⟨⟨pg_Store, hd_Store, po_Store, sa_Store⟩, fun f hf => ?_⟩
      have hf : f ∈ (["held", "now", "past"] : List String).map Str.ofString := hf
      simp only [List.map_cons, List.map_nil, List.mem_cons, List.not_mem_nil, or_false] at hf
      rcases hf with rfl | rfl | rfl
      · exact nf_Store_held
      · exact nf_Store_now
      · exact nf_Store_past
    cases hc
  · have hf : f ∈ (["is_whole", "is_below", "is_number_of_items", "is_order_of", "need_items", "need_item", "make_moved", "is_entry", "is_row", "is_rule", "need_rule", "named_row", "named_rule", "is_standing_of", "need_standing", "are_asks_of", "need_asks", "make_ask", "make_run", "run", "_law_spread", "_law_open", "_law_take", "_law_anew", "_law_drawn_order", "_law_last_first", "law"] : List String).map Str.ofString := hf
    simp only [List.map_cons, List.map_nil, List.mem_cons, List.not_mem_nil, or_false] at hf
    rcases hf with rfl | rfl | rfl | rfl | rfl | rfl | rfl | rfl | rfl | rfl | rfl | rfl | rfl | rfl | rfl | rfl | rfl | rfl | rfl | rfl | rfl | rfl | rfl | rfl | rfl | rfl | rfl
    · obtain rfl : D_is_whole = d := Option.some.inj ((show TF "is_whole" = some D_is_whole by kernel_rfl).symm.trans hd)
      exact ⟨_, _, _, d_D_is_whole l_D_is_whole c_D_is_whole, PySem.W.mg_of X G a_D_is_whole, k_D_is_whole, by decide +kernel⟩
    · obtain rfl : D_is_below = d := Option.some.inj ((show TF "is_below" = some D_is_below by kernel_rfl).symm.trans hd)
      exact ⟨_, _, _, d_D_is_below l_D_is_below c_D_is_below, PySem.W.mg_of X G a_D_is_below, k_D_is_below, by decide +kernel⟩
    · obtain rfl : D_is_number_of_items = d := Option.some.inj ((show TF "is_number_of_items" = some D_is_number_of_items by kernel_rfl).symm.trans hd)
      exact ⟨_, _, _, d_D_is_number_of_items l_D_is_number_of_items c_D_is_number_of_items, PySem.W.mg_of X G a_D_is_number_of_items, k_D_is_number_of_items, by decide +kernel⟩
    · obtain rfl : D_is_order_of = d := Option.some.inj ((show TF "is_order_of" = some D_is_order_of by kernel_rfl).symm.trans hd)
      exact ⟨_, _, _, d_D_is_order_of l_D_is_order_of c_D_is_order_of, PySem.W.mg_of X G a_D_is_order_of, k_D_is_order_of, by decide +kernel⟩
    · obtain rfl : D_need_items = d := Option.some.inj ((show TF "need_items" = some D_need_items by kernel_rfl).symm.trans hd)
      exact ⟨_, _, _, d_D_need_items l_D_need_items c_D_need_items, PySem.W.mg_of X G a_D_need_items, k_D_need_items, by decide +kernel⟩
    · obtain rfl : D_need_item = d := Option.some.inj ((show TF "need_item" = some D_need_item by kernel_rfl).symm.trans hd)
      exact ⟨_, _, _, d_D_need_item l_D_need_item c_D_need_item, PySem.W.mg_of X G a_D_need_item, k_D_need_item, by decide +kernel⟩
    · obtain rfl : D_make_moved = d := Option.some.inj ((show TF "make_moved" = some D_make_moved by kernel_rfl).symm.trans hd)
      exact ⟨_, _, _, d_D_make_moved l_D_make_moved c_D_make_moved, PySem.W.mg_of X G a_D_make_moved, k_D_make_moved, by decide +kernel⟩
    · obtain rfl : D_is_entry = d := Option.some.inj ((show TF "is_entry" = some D_is_entry by kernel_rfl).symm.trans hd)
      exact ⟨_, _, _, d_D_is_entry l_D_is_entry c_D_is_entry, PySem.W.mg_of X G a_D_is_entry, k_D_is_entry, by decide +kernel⟩
    · obtain rfl : D_is_row = d := Option.some.inj ((show TF "is_row" = some D_is_row by kernel_rfl).symm.trans hd)
      exact ⟨_, _, _, d_D_is_row l_D_is_row c_D_is_row, PySem.W.mg_of X G a_D_is_row, k_D_is_row, by decide +kernel⟩
    · obtain rfl : D_is_rule = d := Option.some.inj ((show TF "is_rule" = some D_is_rule by kernel_rfl).symm.trans hd)
      exact ⟨_, _, _, d_D_is_rule l_D_is_rule c_D_is_rule, PySem.W.mg_of X G a_D_is_rule, k_D_is_rule, by decide +kernel⟩
    · obtain rfl : D_need_rule = d := Option.some.inj ((show TF "need_rule" = some D_need_rule by kernel_rfl).symm.trans hd)
      exact ⟨_, _, _, d_D_need_rule l_D_need_rule c_D_need_rule, PySem.W.mg_of X G a_D_need_rule, k_D_need_rule, by decide +kernel⟩
    · obtain rfl : D_named_row = d := Option.some.inj ((show TF "named_row" = some D_named_row by kernel_rfl).symm.trans hd)
      exact ⟨_, _, _, d_D_named_row l_D_named_row c_D_named_row, PySem.W.mg_of X G a_D_named_row, k_D_named_row, by decide +kernel⟩
    · obtain rfl : D_named_rule = d := Option.some.inj ((show TF "named_rule" = some D_named_rule by kernel_rfl).symm.trans hd)
      exact ⟨_, _, _, d_D_named_rule l_D_named_rule c_D_named_rule, PySem.W.mg_of X G a_D_named_rule, k_D_named_rule, by decide +kernel⟩
    · obtain rfl : D_is_standing_of = d := Option.some.inj ((show TF "is_standing_of" = some D_is_standing_of by kernel_rfl).symm.trans hd)
      exact ⟨_, _, _, d_D_is_standing_of l_D_is_standing_of c_D_is_standing_of, PySem.W.mg_of X G a_D_is_standing_of, k_D_is_standing_of, by decide +kernel⟩
    · obtain rfl : D_need_standing = d := Option.some.inj ((show TF "need_standing" = some D_need_standing by kernel_rfl).symm.trans hd)
      exact ⟨_, _, _, d_D_need_standing l_D_need_standing c_D_need_standing, PySem.W.mg_of X G a_D_need_standing, k_D_need_standing, by decide +kernel⟩
    · obtain rfl : D_are_asks_of = d := Option.some.inj ((show TF "are_asks_of" = some D_are_asks_of by kernel_rfl).symm.trans hd)
      exact ⟨_, _, _, d_D_are_asks_of l_D_are_asks_of c_D_are_asks_of, PySem.W.mg_of X G a_D_are_asks_of, k_D_are_asks_of, by decide +kernel⟩
    · obtain rfl : D_need_asks = d := Option.some.inj ((show TF "need_asks" = some D_need_asks by kernel_rfl).symm.trans hd)
      exact ⟨_, _, _, d_D_need_asks l_D_need_asks c_D_need_asks, PySem.W.mg_of X G a_D_need_asks, k_D_need_asks, by decide +kernel⟩
    · obtain rfl : D_make_ask = d := Option.some.inj ((show TF "make_ask" = some D_make_ask by kernel_rfl).symm.trans hd)
      exact ⟨_, _, _, d_D_make_ask l_D_make_ask c_D_make_ask, PySem.W.mg_of X G a_D_make_ask, k_D_make_ask, by decide +kernel⟩
    · obtain rfl : D_make_run = d := Option.some.inj ((show TF "make_run" = some D_make_run by kernel_rfl).symm.trans hd)
      exact ⟨_, _, _, d_D_make_run l_D_make_run c_D_make_run, PySem.W.mg_of X G a_D_make_run, k_D_make_run, by decide +kernel⟩
    · obtain rfl : D_run = d := Option.some.inj ((show TF "run" = some D_run by kernel_rfl).symm.trans hd)
      exact ⟨_, _, _, d_D_run l_D_run c_D_run, PySem.W.mg_of X G a_D_run, k_D_run, by decide +kernel⟩
    · obtain rfl : D__law_spread = d := Option.some.inj ((show TF "_law_spread" = some D__law_spread by kernel_rfl).symm.trans hd)
      exact ⟨_, _, _, d_D__law_spread l_D__law_spread c_D__law_spread, PySem.W.mg_of X G a_D__law_spread, k_D__law_spread, by decide +kernel⟩
    · obtain rfl : D__law_open = d := Option.some.inj ((show TF "_law_open" = some D__law_open by kernel_rfl).symm.trans hd)
      exact ⟨_, _, _, d_D__law_open l_D__law_open c_D__law_open, PySem.W.mg_of X G a_D__law_open, k_D__law_open, by decide +kernel⟩
    · obtain rfl : D__law_take = d := Option.some.inj ((show TF "_law_take" = some D__law_take by kernel_rfl).symm.trans hd)
      exact ⟨_, _, _, d_D__law_take l_D__law_take c_D__law_take, PySem.W.mg_of X G a_D__law_take, k_D__law_take, by decide +kernel⟩
    · obtain rfl : D__law_anew = d := Option.some.inj ((show TF "_law_anew" = some D__law_anew by kernel_rfl).symm.trans hd)
      exact ⟨_, _, _, d_D__law_anew l_D__law_anew c_D__law_anew, PySem.W.mg_of X G a_D__law_anew, k_D__law_anew, by decide +kernel⟩
    · obtain rfl : D__law_drawn_order = d := Option.some.inj ((show TF "_law_drawn_order" = some D__law_drawn_order by kernel_rfl).symm.trans hd)
      exact ⟨_, _, _, d_D__law_drawn_order l_D__law_drawn_order c_D__law_drawn_order, PySem.W.mg_of X G a_D__law_drawn_order, k_D__law_drawn_order, by decide +kernel⟩
    · obtain rfl : D__law_last_first = d := Option.some.inj ((show TF "_law_last_first" = some D__law_last_first by kernel_rfl).symm.trans hd)
      exact ⟨_, _, _, d_D__law_last_first l_D__law_last_first c_D__law_last_first, PySem.W.mg_of X G a_D__law_last_first, k_D__law_last_first, by decide +kernel⟩
    · obtain rfl : D_law = d := Option.some.inj ((show TF "law" = some D_law by kernel_rfl).symm.trans hd)
      exact ⟨_, _, _, d_D_law l_D_law c_D_law, PySem.W.mg_of X G a_D_law, k_D_law, by decide +kernel⟩
  · have hm : (c, m) ∈ T.ms := hm
    simp only [T, List.mem_cons, List.not_mem_nil, or_false, Prod.mk.injEq] at hm
    rcases hm with ⟨rfl, rfl⟩ | ⟨rfl, rfl⟩ | ⟨rfl, rfl⟩ | ⟨rfl, rfl⟩
    · obtain rfl : D_Store_ask = d := Option.some.inj ((show TF "Store.ask" = some D_Store_ask by kernel_rfl).symm.trans hd)
      exact ⟨C_Store, _, _, _, if_pos rfl, ⟨a_D_Store_ask, i_D_Store_ask, k_D_Store_ask⟩, d_D_Store_ask l_D_Store_ask c_D_Store_ask⟩
    · obtain rfl : D_Store_rule = d := Option.some.inj ((show TF "Store.rule" = some D_Store_rule by kernel_rfl).symm.trans hd)
      exact ⟨C_Store, _, _, _, if_pos rfl, ⟨a_D_Store_rule, i_D_Store_rule, k_D_Store_rule⟩, d_D_Store_rule l_D_Store_rule c_D_Store_rule⟩
    · obtain rfl : D_Store_standing = d := Option.some.inj ((show TF "Store.standing" = some D_Store_standing by kernel_rfl).symm.trans hd)
      exact ⟨C_Store, _, _, _, if_pos rfl, ⟨a_D_Store_standing, i_D_Store_standing, k_D_Store_standing⟩, d_D_Store_standing l_D_Store_standing c_D_Store_standing⟩
    · obtain rfl : D_Store_asked = d := Option.some.inj ((show TF "Store.asked" = some D_Store_asked by kernel_rfl).symm.trans hd)
      exact ⟨C_Store, _, _, _, if_pos rfl, ⟨a_D_Store_asked, i_D_Store_asked, k_D_Store_asked⟩, d_D_Store_asked l_D_Store_asked c_D_Store_asked⟩
  · have hc : c ∈ (["Store"] : List String).map Str.ofString := hc
    simp only [List.map_cons, List.map_nil, List.mem_cons, List.not_mem_nil, or_false] at hc
    subst hc
    · obtain rfl : D_Store_u_init_u = d := Option.some.inj ((show TF "Store.__init__" = some D_Store_u_init_u by kernel_rfl).symm.trans hd)
      exact ⟨rfl, C_Store, _, _, _, if_pos rfl, ⟨mk_Store, a_D_Store_u_init_u, i_D_Store_u_init_u, kc_Store⟩, d_D_Store_u_init_u l_D_Store_u_init_u c_D_Store_u_init_u, PySem.W.mg_of X G aC_Store, by decide +kernel⟩
  · simp only [bltNames, List.mem_cons, List.not_mem_nil, or_false] at hx
    rcases hx with rfl | rfl | rfl | rfl | rfl | rfl | rfl | rfl | rfl | rfl | rfl | rfl | rfl | rfl | rfl | rfl | rfl | rfl | rfl
    · exact PySem.W.mg_none_of X G z_len
    · exact PySem.W.mg_none_of X G z_int
    · exact PySem.W.mg_none_of X G z_max
    · exact PySem.W.mg_none_of X G z_min
    · exact PySem.W.mg_none_of X G z_list
    · exact PySem.W.mg_none_of X G z_tuple
    · exact PySem.W.mg_none_of X G z_sorted
    · exact PySem.W.mg_none_of X G z_all
    · exact PySem.W.mg_none_of X G z_any
    · exact PySem.W.mg_none_of X G z_repr
    · exact PySem.W.mg_none_of X G z_abs
    · exact PySem.W.mg_none_of X G z_range
    · exact PySem.W.mg_none_of X G z_enumerate
    · exact PySem.W.mg_none_of X G z_zip
    · exact PySem.W.mg_none_of X G z_set
    · exact PySem.W.mg_none_of X G z_dict
    · exact PySem.W.mg_none_of X G z_isinstance
    · exact PySem.W.mg_none_of X G z_bool
    · exact PySem.W.mg_none_of X G z_str
theorem law_end {l : PySem.W.OpenLaw} {w : World} {fa : Addr} {D : Nat} (truth : ∀ ns : List Int, ns.length ≤ 63 → callN T.fn VL.lineN D "law" [.scr ns] = some (.bool true, [])) (X : K.In h) (G : h.Ns mainGlobals mg) (hfa : mg "law" = some (.ref fa))
    {C_Store : Addr}
    (aC_Store : PySem.W.nsIn K mainGlobals "Store" = some (some (.ref C_Store)))
    (pg_Store : PySem.W.plainGet K C_Store Str.empty = true) (hd_Store : PySem.W.hasDictIn K C_Store = true) (po_Store : PySem.W.plainOver K C_Store = true) (sa_Store : PySem.W.findIn K (.ref C_Store) "__setattr__" = some (some (.builtin "object.__setattr__"))) (mk_Store : PySem.W.makesIn K C_Store = true) (kc_Store : PySem.W.keepIn K (.ref C_Store) = true)
    (nf_Store_held : PySem.W.findIn K (.ref C_Store) "held" = some none)
    (nf_Store_now : PySem.W.findIn K (.ref C_Store) "now" = some none)
    (nf_Store_past : PySem.W.findIn K (.ref C_Store) "past" = some none)
    {f_D_is_whole : Addr} {od_D_is_whole an_D_is_whole : Option Addr} {sl_D_is_whole : Array (Option Value)} {oc_D_is_whole kV_D_is_whole dc_D_is_whole pm_D_is_whole cd_D_is_whole ct_D_is_whole : Value}
    (a_D_is_whole : PySem.W.nsIn K mainGlobals "is_whole" = some (some (.ref f_D_is_whole)))
    (l_D_is_whole : K.lookup f_D_is_whole = some ⟨oc_D_is_whole, od_D_is_whole, .func (PySem.W.fnOf "is_whole" "is_whole" (C8.fnArgs S_D_is_whole) (C8.fnBody S_D_is_whole) (C8.fnScope S_D_is_whole) .none kV_D_is_whole dc_D_is_whole pm_D_is_whole an_D_is_whole cd_D_is_whole ct_D_is_whole), sl_D_is_whole⟩) (c_D_is_whole : PySem.W.codeIn K cd_D_is_whole "is_whole" = true) (k_D_is_whole : PySem.W.keepIn K (.ref f_D_is_whole) = true)
    {f_D_is_below : Addr} {od_D_is_below an_D_is_below : Option Addr} {sl_D_is_below : Array (Option Value)} {oc_D_is_below kV_D_is_below dc_D_is_below pm_D_is_below cd_D_is_below ct_D_is_below : Value}
    (a_D_is_below : PySem.W.nsIn K mainGlobals "is_below" = some (some (.ref f_D_is_below)))
    (l_D_is_below : K.lookup f_D_is_below = some ⟨oc_D_is_below, od_D_is_below, .func (PySem.W.fnOf "is_below" "is_below" (C8.fnArgs S_D_is_below) (C8.fnBody S_D_is_below) (C8.fnScope S_D_is_below) .none kV_D_is_below dc_D_is_below pm_D_is_below an_D_is_below cd_D_is_below ct_D_is_below), sl_D_is_below⟩) (c_D_is_below : PySem.W.codeIn K cd_D_is_below "is_below" = true) (k_D_is_below : PySem.W.keepIn K (.ref f_D_is_below) = true)
    {f_D_is_number_of_items : Addr} {od_D_is_number_of_items an_D_is_number_of_items : Option Addr} {sl_D_is_number_of_items : Array (Option Value)} {oc_D_is_number_of_items kV_D_is_number_of_items dc_D_is_number_of_items pm_D_is_number_of_items cd_D_is_number_of_items ct_D_is_number_of_items : Value}
    (a_D_is_number_of_items : PySem.W.nsIn K mainGlobals "is_number_of_items" = some (some (.ref f_D_is_number_of_items)))
    (l_D_is_number_of_items : K.lookup f_D_is_number_of_items = some ⟨oc_D_is_number_of_items, od_D_is_number_of_items, .func (PySem.W.fnOf "is_number_of_items" "is_number_of_items" (C8.fnArgs S_D_is_number_of_items) (C8.fnBody S_D_is_number_of_items) (C8.fnScope S_D_is_number_of_items) .none kV_D_is_number_of_items dc_D_is_number_of_items pm_D_is_number_of_items an_D_is_number_of_items cd_D_is_number_of_items ct_D_is_number_of_items), sl_D_is_number_of_items⟩) (c_D_is_number_of_items : PySem.W.codeIn K cd_D_is_number_of_items "is_number_of_items" = true) (k_D_is_number_of_items : PySem.W.keepIn K (.ref f_D_is_number_of_items) = true)
    {f_D_is_order_of : Addr} {od_D_is_order_of an_D_is_order_of : Option Addr} {sl_D_is_order_of : Array (Option Value)} {oc_D_is_order_of kV_D_is_order_of dc_D_is_order_of pm_D_is_order_of cd_D_is_order_of ct_D_is_order_of : Value}
    (a_D_is_order_of : PySem.W.nsIn K mainGlobals "is_order_of" = some (some (.ref f_D_is_order_of)))
    (l_D_is_order_of : K.lookup f_D_is_order_of = some ⟨oc_D_is_order_of, od_D_is_order_of, .func (PySem.W.fnOf "is_order_of" "is_order_of" (C8.fnArgs S_D_is_order_of) (C8.fnBody S_D_is_order_of) (C8.fnScope S_D_is_order_of) .none kV_D_is_order_of dc_D_is_order_of pm_D_is_order_of an_D_is_order_of cd_D_is_order_of ct_D_is_order_of), sl_D_is_order_of⟩) (c_D_is_order_of : PySem.W.codeIn K cd_D_is_order_of "is_order_of" = true) (k_D_is_order_of : PySem.W.keepIn K (.ref f_D_is_order_of) = true)
    {f_D_need_items : Addr} {od_D_need_items an_D_need_items : Option Addr} {sl_D_need_items : Array (Option Value)} {oc_D_need_items kV_D_need_items dc_D_need_items pm_D_need_items cd_D_need_items ct_D_need_items : Value}
    (a_D_need_items : PySem.W.nsIn K mainGlobals "need_items" = some (some (.ref f_D_need_items)))
    (l_D_need_items : K.lookup f_D_need_items = some ⟨oc_D_need_items, od_D_need_items, .func (PySem.W.fnOf "need_items" "need_items" (C8.fnArgs S_D_need_items) (C8.fnBody S_D_need_items) (C8.fnScope S_D_need_items) .none kV_D_need_items dc_D_need_items pm_D_need_items an_D_need_items cd_D_need_items ct_D_need_items), sl_D_need_items⟩) (c_D_need_items : PySem.W.codeIn K cd_D_need_items "need_items" = true) (k_D_need_items : PySem.W.keepIn K (.ref f_D_need_items) = true)
    {f_D_need_item : Addr} {od_D_need_item an_D_need_item : Option Addr} {sl_D_need_item : Array (Option Value)} {oc_D_need_item kV_D_need_item dc_D_need_item pm_D_need_item cd_D_need_item ct_D_need_item : Value}
    (a_D_need_item : PySem.W.nsIn K mainGlobals "need_item" = some (some (.ref f_D_need_item)))
    (l_D_need_item : K.lookup f_D_need_item = some ⟨oc_D_need_item, od_D_need_item, .func (PySem.W.fnOf "need_item" "need_item" (C8.fnArgs S_D_need_item) (C8.fnBody S_D_need_item) (C8.fnScope S_D_need_item) .none kV_D_need_item dc_D_need_item pm_D_need_item an_D_need_item cd_D_need_item ct_D_need_item), sl_D_need_item⟩) (c_D_need_item : PySem.W.codeIn K cd_D_need_item "need_item" = true) (k_D_need_item : PySem.W.keepIn K (.ref f_D_need_item) = true)
    {f_D_make_moved : Addr} {od_D_make_moved an_D_make_moved : Option Addr} {sl_D_make_moved : Array (Option Value)} {oc_D_make_moved kV_D_make_moved dc_D_make_moved pm_D_make_moved cd_D_make_moved ct_D_make_moved : Value}
    (a_D_make_moved : PySem.W.nsIn K mainGlobals "make_moved" = some (some (.ref f_D_make_moved)))
    (l_D_make_moved : K.lookup f_D_make_moved = some ⟨oc_D_make_moved, od_D_make_moved, .func (PySem.W.fnOf "make_moved" "make_moved" (C8.fnArgs S_D_make_moved) (C8.fnBody S_D_make_moved) (C8.fnScope S_D_make_moved) .none kV_D_make_moved dc_D_make_moved pm_D_make_moved an_D_make_moved cd_D_make_moved ct_D_make_moved), sl_D_make_moved⟩) (c_D_make_moved : PySem.W.codeIn K cd_D_make_moved "make_moved" = true) (k_D_make_moved : PySem.W.keepIn K (.ref f_D_make_moved) = true)
    {f_D_is_entry : Addr} {od_D_is_entry an_D_is_entry : Option Addr} {sl_D_is_entry : Array (Option Value)} {oc_D_is_entry kV_D_is_entry dc_D_is_entry pm_D_is_entry cd_D_is_entry ct_D_is_entry : Value}
    (a_D_is_entry : PySem.W.nsIn K mainGlobals "is_entry" = some (some (.ref f_D_is_entry)))
    (l_D_is_entry : K.lookup f_D_is_entry = some ⟨oc_D_is_entry, od_D_is_entry, .func (PySem.W.fnOf "is_entry" "is_entry" (C8.fnArgs S_D_is_entry) (C8.fnBody S_D_is_entry) (C8.fnScope S_D_is_entry) .none kV_D_is_entry dc_D_is_entry pm_D_is_entry an_D_is_entry cd_D_is_entry ct_D_is_entry), sl_D_is_entry⟩) (c_D_is_entry : PySem.W.codeIn K cd_D_is_entry "is_entry" = true) (k_D_is_entry : PySem.W.keepIn K (.ref f_D_is_entry) = true)
    {f_D_is_row : Addr} {od_D_is_row an_D_is_row : Option Addr} {sl_D_is_row : Array (Option Value)} {oc_D_is_row kV_D_is_row dc_D_is_row pm_D_is_row cd_D_is_row ct_D_is_row : Value}
    (a_D_is_row : PySem.W.nsIn K mainGlobals "is_row" = some (some (.ref f_D_is_row)))
    (l_D_is_row : K.lookup f_D_is_row = some ⟨oc_D_is_row, od_D_is_row, .func (PySem.W.fnOf "is_row" "is_row" (C8.fnArgs S_D_is_row) (C8.fnBody S_D_is_row) (C8.fnScope S_D_is_row) .none kV_D_is_row dc_D_is_row pm_D_is_row an_D_is_row cd_D_is_row ct_D_is_row), sl_D_is_row⟩) (c_D_is_row : PySem.W.codeIn K cd_D_is_row "is_row" = true) (k_D_is_row : PySem.W.keepIn K (.ref f_D_is_row) = true)
    {f_D_is_rule : Addr} {od_D_is_rule an_D_is_rule : Option Addr} {sl_D_is_rule : Array (Option Value)} {oc_D_is_rule kV_D_is_rule dc_D_is_rule pm_D_is_rule cd_D_is_rule ct_D_is_rule : Value}
    (a_D_is_rule : PySem.W.nsIn K mainGlobals "is_rule" = some (some (.ref f_D_is_rule)))
    (l_D_is_rule : K.lookup f_D_is_rule = some ⟨oc_D_is_rule, od_D_is_rule, .func (PySem.W.fnOf "is_rule" "is_rule" (C8.fnArgs S_D_is_rule) (C8.fnBody S_D_is_rule) (C8.fnScope S_D_is_rule) .none kV_D_is_rule dc_D_is_rule pm_D_is_rule an_D_is_rule cd_D_is_rule ct_D_is_rule), sl_D_is_rule⟩) (c_D_is_rule : PySem.W.codeIn K cd_D_is_rule "is_rule" = true) (k_D_is_rule : PySem.W.keepIn K (.ref f_D_is_rule) = true)
    {f_D_need_rule : Addr} {od_D_need_rule an_D_need_rule : Option Addr} {sl_D_need_rule : Array (Option Value)} {oc_D_need_rule kV_D_need_rule dc_D_need_rule pm_D_need_rule cd_D_need_rule ct_D_need_rule : Value}
    (a_D_need_rule : PySem.W.nsIn K mainGlobals "need_rule" = some (some (.ref f_D_need_rule)))
    (l_D_need_rule : K.lookup f_D_need_rule = some ⟨oc_D_need_rule, od_D_need_rule, .func (PySem.W.fnOf "need_rule" "need_rule" (C8.fnArgs S_D_need_rule) (C8.fnBody S_D_need_rule) (C8.fnScope S_D_need_rule) .none kV_D_need_rule dc_D_need_rule pm_D_need_rule an_D_need_rule cd_D_need_rule ct_D_need_rule), sl_D_need_rule⟩) (c_D_need_rule : PySem.W.codeIn K cd_D_need_rule "need_rule" = true) (k_D_need_rule : PySem.W.keepIn K (.ref f_D_need_rule) = true)
    {f_D_named_row : Addr} {od_D_named_row an_D_named_row : Option Addr} {sl_D_named_row : Array (Option Value)} {oc_D_named_row kV_D_named_row dc_D_named_row pm_D_named_row cd_D_named_row ct_D_named_row : Value}
    (a_D_named_row : PySem.W.nsIn K mainGlobals "named_row" = some (some (.ref f_D_named_row)))
    (l_D_named_row : K.lookup f_D_named_row = some ⟨oc_D_named_row, od_D_named_row, .func (PySem.W.fnOf "named_row" "named_row" (C8.fnArgs S_D_named_row) (C8.fnBody S_D_named_row) (C8.fnScope S_D_named_row) .none kV_D_named_row dc_D_named_row pm_D_named_row an_D_named_row cd_D_named_row ct_D_named_row), sl_D_named_row⟩) (c_D_named_row : PySem.W.codeIn K cd_D_named_row "named_row" = true) (k_D_named_row : PySem.W.keepIn K (.ref f_D_named_row) = true)
    {f_D_named_rule : Addr} {od_D_named_rule an_D_named_rule : Option Addr} {sl_D_named_rule : Array (Option Value)} {oc_D_named_rule kV_D_named_rule dc_D_named_rule pm_D_named_rule cd_D_named_rule ct_D_named_rule : Value}
    (a_D_named_rule : PySem.W.nsIn K mainGlobals "named_rule" = some (some (.ref f_D_named_rule)))
    (l_D_named_rule : K.lookup f_D_named_rule = some ⟨oc_D_named_rule, od_D_named_rule, .func (PySem.W.fnOf "named_rule" "named_rule" (C8.fnArgs S_D_named_rule) (C8.fnBody S_D_named_rule) (C8.fnScope S_D_named_rule) .none kV_D_named_rule dc_D_named_rule pm_D_named_rule an_D_named_rule cd_D_named_rule ct_D_named_rule), sl_D_named_rule⟩) (c_D_named_rule : PySem.W.codeIn K cd_D_named_rule "named_rule" = true) (k_D_named_rule : PySem.W.keepIn K (.ref f_D_named_rule) = true)
    {f_D_is_standing_of : Addr} {od_D_is_standing_of an_D_is_standing_of : Option Addr} {sl_D_is_standing_of : Array (Option Value)} {oc_D_is_standing_of kV_D_is_standing_of dc_D_is_standing_of pm_D_is_standing_of cd_D_is_standing_of ct_D_is_standing_of : Value}
    (a_D_is_standing_of : PySem.W.nsIn K mainGlobals "is_standing_of" = some (some (.ref f_D_is_standing_of)))
    (l_D_is_standing_of : K.lookup f_D_is_standing_of = some ⟨oc_D_is_standing_of, od_D_is_standing_of, .func (PySem.W.fnOf "is_standing_of" "is_standing_of" (C8.fnArgs S_D_is_standing_of) (C8.fnBody S_D_is_standing_of) (C8.fnScope S_D_is_standing_of) .none kV_D_is_standing_of dc_D_is_standing_of pm_D_is_standing_of an_D_is_standing_of cd_D_is_standing_of ct_D_is_standing_of), sl_D_is_standing_of⟩) (c_D_is_standing_of : PySem.W.codeIn K cd_D_is_standing_of "is_standing_of" = true) (k_D_is_standing_of : PySem.W.keepIn K (.ref f_D_is_standing_of) = true)
    {f_D_need_standing : Addr} {od_D_need_standing an_D_need_standing : Option Addr} {sl_D_need_standing : Array (Option Value)} {oc_D_need_standing kV_D_need_standing dc_D_need_standing pm_D_need_standing cd_D_need_standing ct_D_need_standing : Value}
    (a_D_need_standing : PySem.W.nsIn K mainGlobals "need_standing" = some (some (.ref f_D_need_standing)))
    (l_D_need_standing : K.lookup f_D_need_standing = some ⟨oc_D_need_standing, od_D_need_standing, .func (PySem.W.fnOf "need_standing" "need_standing" (C8.fnArgs S_D_need_standing) (C8.fnBody S_D_need_standing) (C8.fnScope S_D_need_standing) .none kV_D_need_standing dc_D_need_standing pm_D_need_standing an_D_need_standing cd_D_need_standing ct_D_need_standing), sl_D_need_standing⟩) (c_D_need_standing : PySem.W.codeIn K cd_D_need_standing "need_standing" = true) (k_D_need_standing : PySem.W.keepIn K (.ref f_D_need_standing) = true)
    {f_D_are_asks_of : Addr} {od_D_are_asks_of an_D_are_asks_of : Option Addr} {sl_D_are_asks_of : Array (Option Value)} {oc_D_are_asks_of kV_D_are_asks_of dc_D_are_asks_of pm_D_are_asks_of cd_D_are_asks_of ct_D_are_asks_of : Value}
    (a_D_are_asks_of : PySem.W.nsIn K mainGlobals "are_asks_of" = some (some (.ref f_D_are_asks_of)))
    (l_D_are_asks_of : K.lookup f_D_are_asks_of = some ⟨oc_D_are_asks_of, od_D_are_asks_of, .func (PySem.W.fnOf "are_asks_of" "are_asks_of" (C8.fnArgs S_D_are_asks_of) (C8.fnBody S_D_are_asks_of) (C8.fnScope S_D_are_asks_of) .none kV_D_are_asks_of dc_D_are_asks_of pm_D_are_asks_of an_D_are_asks_of cd_D_are_asks_of ct_D_are_asks_of), sl_D_are_asks_of⟩) (c_D_are_asks_of : PySem.W.codeIn K cd_D_are_asks_of "are_asks_of" = true) (k_D_are_asks_of : PySem.W.keepIn K (.ref f_D_are_asks_of) = true)
    {f_D_need_asks : Addr} {od_D_need_asks an_D_need_asks : Option Addr} {sl_D_need_asks : Array (Option Value)} {oc_D_need_asks kV_D_need_asks dc_D_need_asks pm_D_need_asks cd_D_need_asks ct_D_need_asks : Value}
    (a_D_need_asks : PySem.W.nsIn K mainGlobals "need_asks" = some (some (.ref f_D_need_asks)))
    (l_D_need_asks : K.lookup f_D_need_asks = some ⟨oc_D_need_asks, od_D_need_asks, .func (PySem.W.fnOf "need_asks" "need_asks" (C8.fnArgs S_D_need_asks) (C8.fnBody S_D_need_asks) (C8.fnScope S_D_need_asks) .none kV_D_need_asks dc_D_need_asks pm_D_need_asks an_D_need_asks cd_D_need_asks ct_D_need_asks), sl_D_need_asks⟩) (c_D_need_asks : PySem.W.codeIn K cd_D_need_asks "need_asks" = true) (k_D_need_asks : PySem.W.keepIn K (.ref f_D_need_asks) = true)
    {f_D_make_ask : Addr} {od_D_make_ask an_D_make_ask : Option Addr} {sl_D_make_ask : Array (Option Value)} {oc_D_make_ask kV_D_make_ask dc_D_make_ask pm_D_make_ask cd_D_make_ask ct_D_make_ask : Value}
    (a_D_make_ask : PySem.W.nsIn K mainGlobals "make_ask" = some (some (.ref f_D_make_ask)))
    (l_D_make_ask : K.lookup f_D_make_ask = some ⟨oc_D_make_ask, od_D_make_ask, .func (PySem.W.fnOf "make_ask" "make_ask" (C8.fnArgs S_D_make_ask) (C8.fnBody S_D_make_ask) (C8.fnScope S_D_make_ask) .none kV_D_make_ask dc_D_make_ask pm_D_make_ask an_D_make_ask cd_D_make_ask ct_D_make_ask), sl_D_make_ask⟩) (c_D_make_ask : PySem.W.codeIn K cd_D_make_ask "make_ask" = true) (k_D_make_ask : PySem.W.keepIn K (.ref f_D_make_ask) = true)
    {f_D_make_run : Addr} {od_D_make_run an_D_make_run : Option Addr} {sl_D_make_run : Array (Option Value)} {oc_D_make_run kV_D_make_run dc_D_make_run pm_D_make_run cd_D_make_run ct_D_make_run : Value}
    (a_D_make_run : PySem.W.nsIn K mainGlobals "make_run" = some (some (.ref f_D_make_run)))
    (l_D_make_run : K.lookup f_D_make_run = some ⟨oc_D_make_run, od_D_make_run, .func (PySem.W.fnOf "make_run" "make_run" (C8.fnArgs S_D_make_run) (C8.fnBody S_D_make_run) (C8.fnScope S_D_make_run) .none kV_D_make_run dc_D_make_run pm_D_make_run an_D_make_run cd_D_make_run ct_D_make_run), sl_D_make_run⟩) (c_D_make_run : PySem.W.codeIn K cd_D_make_run "make_run" = true) (k_D_make_run : PySem.W.keepIn K (.ref f_D_make_run) = true)
    {f_D_run : Addr} {od_D_run an_D_run : Option Addr} {sl_D_run : Array (Option Value)} {oc_D_run kV_D_run dc_D_run pm_D_run cd_D_run ct_D_run : Value}
    (a_D_run : PySem.W.nsIn K mainGlobals "run" = some (some (.ref f_D_run)))
    (l_D_run : K.lookup f_D_run = some ⟨oc_D_run, od_D_run, .func (PySem.W.fnOf "run" "run" (C8.fnArgs S_D_run) (C8.fnBody S_D_run) (C8.fnScope S_D_run) .none kV_D_run dc_D_run pm_D_run an_D_run cd_D_run ct_D_run), sl_D_run⟩) (c_D_run : PySem.W.codeIn K cd_D_run "run" = true) (k_D_run : PySem.W.keepIn K (.ref f_D_run) = true)
    {f_D_Store_u_init_u : Addr} {od_D_Store_u_init_u an_D_Store_u_init_u : Option Addr} {sl_D_Store_u_init_u : Array (Option Value)} {oc_D_Store_u_init_u kV_D_Store_u_init_u dc_D_Store_u_init_u pm_D_Store_u_init_u cd_D_Store_u_init_u ct_D_Store_u_init_u : Value}
    (a_D_Store_u_init_u : PySem.W.findIn K (.ref C_Store) "__init__" = some (some (.ref f_D_Store_u_init_u))) (i_D_Store_u_init_u : PySem.W.isFn K (.ref f_D_Store_u_init_u) = true)
    (l_D_Store_u_init_u : K.lookup f_D_Store_u_init_u = some ⟨oc_D_Store_u_init_u, od_D_Store_u_init_u, .func (PySem.W.fnOf "__init__" "Store.__init__" (C8.fnArgs S_D_Store_u_init_u) (C8.fnBody S_D_Store_u_init_u) (C8.fnScope S_D_Store_u_init_u) .none kV_D_Store_u_init_u dc_D_Store_u_init_u pm_D_Store_u_init_u an_D_Store_u_init_u cd_D_Store_u_init_u ct_D_Store_u_init_u), sl_D_Store_u_init_u⟩) (c_D_Store_u_init_u : PySem.W.codeIn K cd_D_Store_u_init_u "Store.__init__" = true) (k_D_Store_u_init_u : PySem.W.keepIn K (.ref f_D_Store_u_init_u) = true)
    {f_D_Store_ask : Addr} {od_D_Store_ask an_D_Store_ask : Option Addr} {sl_D_Store_ask : Array (Option Value)} {oc_D_Store_ask kV_D_Store_ask dc_D_Store_ask pm_D_Store_ask cd_D_Store_ask ct_D_Store_ask : Value}
    (a_D_Store_ask : PySem.W.findIn K (.ref C_Store) "ask" = some (some (.ref f_D_Store_ask))) (i_D_Store_ask : PySem.W.isFn K (.ref f_D_Store_ask) = true)
    (l_D_Store_ask : K.lookup f_D_Store_ask = some ⟨oc_D_Store_ask, od_D_Store_ask, .func (PySem.W.fnOf "ask" "Store.ask" (C8.fnArgs S_D_Store_ask) (C8.fnBody S_D_Store_ask) (C8.fnScope S_D_Store_ask) .none kV_D_Store_ask dc_D_Store_ask pm_D_Store_ask an_D_Store_ask cd_D_Store_ask ct_D_Store_ask), sl_D_Store_ask⟩) (c_D_Store_ask : PySem.W.codeIn K cd_D_Store_ask "Store.ask" = true) (k_D_Store_ask : PySem.W.keepIn K (.ref f_D_Store_ask) = true)
    {f_D_Store_rule : Addr} {od_D_Store_rule an_D_Store_rule : Option Addr} {sl_D_Store_rule : Array (Option Value)} {oc_D_Store_rule kV_D_Store_rule dc_D_Store_rule pm_D_Store_rule cd_D_Store_rule ct_D_Store_rule : Value}
    (a_D_Store_rule : PySem.W.findIn K (.ref C_Store) "rule" = some (some (.ref f_D_Store_rule))) (i_D_Store_rule : PySem.W.isFn K (.ref f_D_Store_rule) = true)
    (l_D_Store_rule : K.lookup f_D_Store_rule = some ⟨oc_D_Store_rule, od_D_Store_rule, .func (PySem.W.fnOf "rule" "Store.rule" (C8.fnArgs S_D_Store_rule) (C8.fnBody S_D_Store_rule) (C8.fnScope S_D_Store_rule) .none kV_D_Store_rule dc_D_Store_rule pm_D_Store_rule an_D_Store_rule cd_D_Store_rule ct_D_Store_rule), sl_D_Store_rule⟩) (c_D_Store_rule : PySem.W.codeIn K cd_D_Store_rule "Store.rule" = true) (k_D_Store_rule : PySem.W.keepIn K (.ref f_D_Store_rule) = true)
    {f_D_Store_standing : Addr} {od_D_Store_standing an_D_Store_standing : Option Addr} {sl_D_Store_standing : Array (Option Value)} {oc_D_Store_standing kV_D_Store_standing dc_D_Store_standing pm_D_Store_standing cd_D_Store_standing ct_D_Store_standing : Value}
    (a_D_Store_standing : PySem.W.findIn K (.ref C_Store) "standing" = some (some (.ref f_D_Store_standing))) (i_D_Store_standing : PySem.W.isFn K (.ref f_D_Store_standing) = true)
    (l_D_Store_standing : K.lookup f_D_Store_standing = some ⟨oc_D_Store_standing, od_D_Store_standing, .func (PySem.W.fnOf "standing" "Store.standing" (C8.fnArgs S_D_Store_standing) (C8.fnBody S_D_Store_standing) (C8.fnScope S_D_Store_standing) .none kV_D_Store_standing dc_D_Store_standing pm_D_Store_standing an_D_Store_standing cd_D_Store_standing ct_D_Store_standing), sl_D_Store_standing⟩) (c_D_Store_standing : PySem.W.codeIn K cd_D_Store_standing "Store.standing" = true) (k_D_Store_standing : PySem.W.keepIn K (.ref f_D_Store_standing) = true)
    {f_D_Store_asked : Addr} {od_D_Store_asked an_D_Store_asked : Option Addr} {sl_D_Store_asked : Array (Option Value)} {oc_D_Store_asked kV_D_Store_asked dc_D_Store_asked pm_D_Store_asked cd_D_Store_asked ct_D_Store_asked : Value}
    (a_D_Store_asked : PySem.W.findIn K (.ref C_Store) "asked" = some (some (.ref f_D_Store_asked))) (i_D_Store_asked : PySem.W.isFn K (.ref f_D_Store_asked) = true)
    (l_D_Store_asked : K.lookup f_D_Store_asked = some ⟨oc_D_Store_asked, od_D_Store_asked, .func (PySem.W.fnOf "asked" "Store.asked" (C8.fnArgs S_D_Store_asked) (C8.fnBody S_D_Store_asked) (C8.fnScope S_D_Store_asked) .none kV_D_Store_asked dc_D_Store_asked pm_D_Store_asked an_D_Store_asked cd_D_Store_asked ct_D_Store_asked), sl_D_Store_asked⟩) (c_D_Store_asked : PySem.W.codeIn K cd_D_Store_asked "Store.asked" = true) (k_D_Store_asked : PySem.W.keepIn K (.ref f_D_Store_asked) = true)
    {f_D__law_spread : Addr} {od_D__law_spread an_D__law_spread : Option Addr} {sl_D__law_spread : Array (Option Value)} {oc_D__law_spread kV_D__law_spread dc_D__law_spread pm_D__law_spread cd_D__law_spread ct_D__law_spread : Value}
    (a_D__law_spread : PySem.W.nsIn K mainGlobals "_law_spread" = some (some (.ref f_D__law_spread)))
    (l_D__law_spread : K.lookup f_D__law_spread = some ⟨oc_D__law_spread, od_D__law_spread, .func (PySem.W.fnOf "_law_spread" "_law_spread" (C8.fnArgs S_D__law_spread) (C8.fnBody S_D__law_spread) (C8.fnScope S_D__law_spread) .none kV_D__law_spread dc_D__law_spread pm_D__law_spread an_D__law_spread cd_D__law_spread ct_D__law_spread), sl_D__law_spread⟩) (c_D__law_spread : PySem.W.codeIn K cd_D__law_spread "_law_spread" = true) (k_D__law_spread : PySem.W.keepIn K (.ref f_D__law_spread) = true)
    {f_D__law_open : Addr} {od_D__law_open an_D__law_open : Option Addr} {sl_D__law_open : Array (Option Value)} {oc_D__law_open kV_D__law_open dc_D__law_open pm_D__law_open cd_D__law_open ct_D__law_open : Value}
    (a_D__law_open : PySem.W.nsIn K mainGlobals "_law_open" = some (some (.ref f_D__law_open)))
    (l_D__law_open : K.lookup f_D__law_open = some ⟨oc_D__law_open, od_D__law_open, .func (PySem.W.fnOf "_law_open" "_law_open" (C8.fnArgs S_D__law_open) (C8.fnBody S_D__law_open) (C8.fnScope S_D__law_open) .none kV_D__law_open dc_D__law_open pm_D__law_open an_D__law_open cd_D__law_open ct_D__law_open), sl_D__law_open⟩) (c_D__law_open : PySem.W.codeIn K cd_D__law_open "_law_open" = true) (k_D__law_open : PySem.W.keepIn K (.ref f_D__law_open) = true)
    {f_D__law_take : Addr} {od_D__law_take an_D__law_take : Option Addr} {sl_D__law_take : Array (Option Value)} {oc_D__law_take kV_D__law_take dc_D__law_take pm_D__law_take cd_D__law_take ct_D__law_take : Value}
    (a_D__law_take : PySem.W.nsIn K mainGlobals "_law_take" = some (some (.ref f_D__law_take)))
    (l_D__law_take : K.lookup f_D__law_take = some ⟨oc_D__law_take, od_D__law_take, .func (PySem.W.fnOf "_law_take" "_law_take" (C8.fnArgs S_D__law_take) (C8.fnBody S_D__law_take) (C8.fnScope S_D__law_take) .none kV_D__law_take dc_D__law_take pm_D__law_take an_D__law_take cd_D__law_take ct_D__law_take), sl_D__law_take⟩) (c_D__law_take : PySem.W.codeIn K cd_D__law_take "_law_take" = true) (k_D__law_take : PySem.W.keepIn K (.ref f_D__law_take) = true)
    {f_D__law_anew : Addr} {od_D__law_anew an_D__law_anew : Option Addr} {sl_D__law_anew : Array (Option Value)} {oc_D__law_anew kV_D__law_anew dc_D__law_anew pm_D__law_anew cd_D__law_anew ct_D__law_anew : Value}
    (a_D__law_anew : PySem.W.nsIn K mainGlobals "_law_anew" = some (some (.ref f_D__law_anew)))
    (l_D__law_anew : K.lookup f_D__law_anew = some ⟨oc_D__law_anew, od_D__law_anew, .func (PySem.W.fnOf "_law_anew" "_law_anew" (C8.fnArgs S_D__law_anew) (C8.fnBody S_D__law_anew) (C8.fnScope S_D__law_anew) .none kV_D__law_anew dc_D__law_anew pm_D__law_anew an_D__law_anew cd_D__law_anew ct_D__law_anew), sl_D__law_anew⟩) (c_D__law_anew : PySem.W.codeIn K cd_D__law_anew "_law_anew" = true) (k_D__law_anew : PySem.W.keepIn K (.ref f_D__law_anew) = true)
    {f_D__law_drawn_order : Addr} {od_D__law_drawn_order an_D__law_drawn_order : Option Addr} {sl_D__law_drawn_order : Array (Option Value)} {oc_D__law_drawn_order kV_D__law_drawn_order dc_D__law_drawn_order pm_D__law_drawn_order cd_D__law_drawn_order ct_D__law_drawn_order : Value}
    (a_D__law_drawn_order : PySem.W.nsIn K mainGlobals "_law_drawn_order" = some (some (.ref f_D__law_drawn_order)))
    (l_D__law_drawn_order : K.lookup f_D__law_drawn_order = some ⟨oc_D__law_drawn_order, od_D__law_drawn_order, .func (PySem.W.fnOf "_law_drawn_order" "_law_drawn_order" (C8.fnArgs S_D__law_drawn_order) (C8.fnBody S_D__law_drawn_order) (C8.fnScope S_D__law_drawn_order) .none kV_D__law_drawn_order dc_D__law_drawn_order pm_D__law_drawn_order an_D__law_drawn_order cd_D__law_drawn_order ct_D__law_drawn_order), sl_D__law_drawn_order⟩) (c_D__law_drawn_order : PySem.W.codeIn K cd_D__law_drawn_order "_law_drawn_order" = true) (k_D__law_drawn_order : PySem.W.keepIn K (.ref f_D__law_drawn_order) = true)
    {f_D__law_last_first : Addr} {od_D__law_last_first an_D__law_last_first : Option Addr} {sl_D__law_last_first : Array (Option Value)} {oc_D__law_last_first kV_D__law_last_first dc_D__law_last_first pm_D__law_last_first cd_D__law_last_first ct_D__law_last_first : Value}
    (a_D__law_last_first : PySem.W.nsIn K mainGlobals "_law_last_first" = some (some (.ref f_D__law_last_first)))
    (l_D__law_last_first : K.lookup f_D__law_last_first = some ⟨oc_D__law_last_first, od_D__law_last_first, .func (PySem.W.fnOf "_law_last_first" "_law_last_first" (C8.fnArgs S_D__law_last_first) (C8.fnBody S_D__law_last_first) (C8.fnScope S_D__law_last_first) .none kV_D__law_last_first dc_D__law_last_first pm_D__law_last_first an_D__law_last_first cd_D__law_last_first ct_D__law_last_first), sl_D__law_last_first⟩) (c_D__law_last_first : PySem.W.codeIn K cd_D__law_last_first "_law_last_first" = true) (k_D__law_last_first : PySem.W.keepIn K (.ref f_D__law_last_first) = true)
    {f_D_law : Addr} {od_D_law an_D_law : Option Addr} {sl_D_law : Array (Option Value)} {oc_D_law kV_D_law dc_D_law pm_D_law cd_D_law ct_D_law : Value}
    (a_D_law : PySem.W.nsIn K mainGlobals "law" = some (some (.ref f_D_law)))
    (l_D_law : K.lookup f_D_law = some ⟨oc_D_law, od_D_law, .func (PySem.W.fnOf "law" "law" (C8.fnArgs S_D_law) (C8.fnBody S_D_law) (C8.fnScope S_D_law) .none kV_D_law dc_D_law pm_D_law an_D_law cd_D_law ct_D_law), sl_D_law⟩) (c_D_law : PySem.W.codeIn K cd_D_law "law" = true) (k_D_law : PySem.W.keepIn K (.ref f_D_law) = true)
    (z_len : PySem.W.nsIn K mainGlobals "len" = some none)
    (z_int : PySem.W.nsIn K mainGlobals "int" = some none)
    (z_max : PySem.W.nsIn K mainGlobals "max" = some none)
    (z_min : PySem.W.nsIn K mainGlobals "min" = some none)
    (z_list : PySem.W.nsIn K mainGlobals "list" = some none)
    (z_tuple : PySem.W.nsIn K mainGlobals "tuple" = some none)
    (z_sorted : PySem.W.nsIn K mainGlobals "sorted" = some none)
    (z_all : PySem.W.nsIn K mainGlobals "all" = some none)
    (z_any : PySem.W.nsIn K mainGlobals "any" = some none)
    (z_repr : PySem.W.nsIn K mainGlobals "repr" = some none)
    (z_abs : PySem.W.nsIn K mainGlobals "abs" = some none)
    (z_range : PySem.W.nsIn K mainGlobals "range" = some none)
    (z_enumerate : PySem.W.nsIn K mainGlobals "enumerate" = some none)
    (z_zip : PySem.W.nsIn K mainGlobals "zip" = some none)
    (z_set : PySem.W.nsIn K mainGlobals "set" = some none)
    (z_dict : PySem.W.nsIn K mainGlobals "dict" = some none)
    (z_isinstance : PySem.W.nsIn K mainGlobals "isinstance" = some none)
    (z_bool : PySem.W.nsIn K mainGlobals "bool" = some none)
    (z_str : PySem.W.nsIn K mainGlobals "str" = some none)
    {t_LEAST_ITEMS : Tok} (g_LEAST_ITEMS : PySem.W.nsIn K mainGlobals "LEAST_ITEMS" = some (some (.int (2) t_LEAST_ITEMS)))
    {t_MOST_ITEMS : Tok} (g_MOST_ITEMS : PySem.W.nsIn K mainGlobals "MOST_ITEMS" = some (some (.int (4) t_MOST_ITEMS)))
    {t_MOST_KINDS : Tok} (g_MOST_KINDS : PySem.W.nsIn K mainGlobals "MOST_KINDS" = some (some (.int (2) t_MOST_KINDS)))
    {o_NAMES : Addr} {t_NAMES_0 t_NAMES_1 t_NAMES_2 t_NAMES_3 t_NAMES_4 : Tok} {n_NAMES : Nat} {sl_NAMES : Array (Option Value)} (g_NAMES : PySem.W.nsIn K mainGlobals "NAMES" = some (some (.ref o_NAMES))) (l_NAMES : K.lookup o_NAMES = some ⟨.type "tuple", none, .seq #[.str "front" t_NAMES_0, .str "ahead" t_NAMES_1, .str "still" t_NAMES_2, .str "half" t_NAMES_3, .str "second" t_NAMES_4] n_NAMES, sl_NAMES⟩)
    : ∃ fd : FuncData, (∀ (s : Shared) (v : Value), BindsTo s fd ⟨[v], []⟩ [("script", v)]) ∧ ∀ base : Heap, K.In base → base.Ns mainGlobals mg → FnOk l.prog w K mg base CX0 (2 * D) fa fd ["script"] (spL K 63) := by
  have e := hfa.symm.trans (PySem.W.mg_of X G a_D_law)
  cases e
  have t := tab X G aC_Store pg_Store hd_Store po_Store sa_Store mk_Store kc_Store nf_Store_held nf_Store_now nf_Store_past a_D_is_whole l_D_is_whole c_D_is_whole k_D_is_whole a_D_is_below l_D_is_below c_D_is_below k_D_is_below a_D_is_number_of_items l_D_is_number_of_items c_D_is_number_of_items k_D_is_number_of_items a_D_is_order_of l_D_is_order_of c_D_is_order_of k_D_is_order_of a_D_need_items l_D_need_items c_D_need_items k_D_need_items a_D_need_item l_D_need_item c_D_need_item k_D_need_item a_D_make_moved l_D_make_moved c_D_make_moved k_D_make_moved a_D_is_entry l_D_is_entry c_D_is_entry k_D_is_entry a_D_is_row l_D_is_row c_D_is_row k_D_is_row a_D_is_rule l_D_is_rule c_D_is_rule k_D_is_rule a_D_need_rule l_D_need_rule c_D_need_rule k_D_need_rule a_D_named_row l_D_named_row c_D_named_row k_D_named_row a_D_named_rule l_D_named_rule c_D_named_rule k_D_named_rule a_D_is_standing_of l_D_is_standing_of c_D_is_standing_of k_D_is_standing_of a_D_need_standing l_D_need_standing c_D_need_standing k_D_need_standing a_D_are_asks_of l_D_are_asks_of c_D_are_asks_of k_D_are_asks_of a_D_need_asks l_D_need_asks c_D_need_asks k_D_need_asks a_D_make_ask l_D_make_ask c_D_make_ask k_D_make_ask a_D_make_run l_D_make_run c_D_make_run k_D_make_run a_D_run l_D_run c_D_run k_D_run a_D_Store_u_init_u i_D_Store_u_init_u l_D_Store_u_init_u c_D_Store_u_init_u k_D_Store_u_init_u a_D_Store_ask i_D_Store_ask l_D_Store_ask c_D_Store_ask k_D_Store_ask a_D_Store_rule i_D_Store_rule l_D_Store_rule c_D_Store_rule k_D_Store_rule a_D_Store_standing i_D_Store_standing l_D_Store_standing c_D_Store_standing k_D_Store_standing a_D_Store_asked i_D_Store_asked l_D_Store_asked c_D_Store_asked k_D_Store_asked a_D__law_spread l_D__law_spread c_D__law_spread k_D__law_spread a_D__law_open l_D__law_open c_D__law_open k_D__law_open a_D__law_take l_D__law_take c_D__law_take k_D__law_take a_D__law_anew l_D__law_anew c_D__law_anew k_D__law_anew a_D__law_drawn_order l_D__law_drawn_order c_D__law_drawn_order k_D__law_drawn_order a_D__law_last_first l_D__law_last_first c_D__law_last_first k_D__law_last_first a_D_law l_D_law c_D_law k_D_law z_len z_int z_max z_min z_list z_tuple z_sorted z_all z_any z_repr z_abs z_range z_enumerate z_zip z_set z_dict z_isinstance z_bool z_str g_LEAST_ITEMS g_MOST_ITEMS g_MOST_KINDS g_NAMES l_NAMES
  exact ⟨_, fun s v => .of_eq rfl, fun base _ _ => (def_ok (NN := VL.lineN) t D (g := "law") (show TF "law" = some D_law by kernel_rfl) (d_D_law l_D_law c_D_law)).imp fun vs H Q E q => spL_sp truth q⟩
end
theorem walk {l : PySem.W.OpenLaw} {q : Program} {loose : List Str} {XP : (Str → Option Value) → Heap → Prop} {YP : World → Heap → Prop} {d : DefRec} {K : Params → PySem.W.Frag} {D : Nat} (hn : l.most = some 63) (hdf : d.params.defaults = []) (hr : Room (2 * D) callerA)
    (hY : ∀ (w : World) (h : Heap), YP w h → (K w.params).In h)
    (F : ∀ (w : World) (mg : Str → Option Value) (fa : Addr) (h : Heap), (K w.params).In h → h.Ns mainGlobals mg → mg d.name = some (.ref fa) →
      ∃ fd : FuncData, (∀ (s : Shared) (u : Value), BindsTo s fd ⟨[u], []⟩ [("script", u)]) ∧ ∀ base : Heap, (K w.params).In base → base.Ns mainGlobals mg → FnOk l.prog w (K w.params) mg base CX0 (2 * D) fa fd ["script"] (spL (K w.params) 63)) :
    PySem.W.WalkO q loose XP YP l.row.toRowW d [] (fun f vs => PySem.call f vs) :=
  L2.walk_of (n := 63) (k := 2 * D) (x := "script") (CX := fun _ => CX0) (sp := fun w => spL (K w.params) 63) hn (by decide) hdf hr hY F (fun _ _ a ns hl ho hS => ⟨a, ns, rfl, hl, ho, hS, fun _ => rfl⟩) fun _ _ _ _ _ z => z
end KL

set_option Elab.async false
def KL.depth : Nat := 21
theorem KL.truth' (ns : List Int) (h : ns.length ≤ 63) : VL.callN KL.T.fn VL.lineN KL.depth "law" [.scr ns] = some (.bool true, []) := KL.truth (n := 0) ns h
open PySem PySem.W PyProof.Rows
set_option maxRecDepth 100000 in
set_option maxHeartbeats 0 in
theorem PySem.Challenge.cw_selfsort_k31_whole_named_rules_holds : PySem.Challenge.rw_selfsort_k31_whole_named_rules.Holds := by
  w_on; o_law; k_head; (case hw => w_witness2)
  k_fill
  refine KL.walk (D := KL.depth) (l := PySem.Challenge.rw_selfsort_k31_whole_named_rules) rfl rfl ⟨rfl, by decide, by decide⟩ (fun w h Y => PySem.W.kIn_of Y) ?F
  case F =>
    intro w mg fa h KX G hmg
    refine' KL.law_end KL.truth' KX G hmg ?aC_Store ?pg_Store ?hd_Store ?po_Store ?sa_Store ?mk_Store ?kc_Store ?nf_Store_held ?nf_Store_now ?nf_Store_past ?a_D_is_whole ?l_D_is_whole ?c_D_is_whole ?k_D_is_whole ?a_D_is_below ?l_D_is_below ?c_D_is_below ?k_D_is_below ?a_D_is_number_of_items ?l_D_is_number_of_items ?c_D_is_number_of_items ?k_D_is_number_of_items ?a_D_is_order_of ?l_D_is_order_of ?c_D_is_order_of ?k_D_is_order_of ?a_D_need_items ?l_D_need_items ?c_D_need_items ?k_D_need_items ?a_D_need_item ?l_D_need_item ?c_D_need_item ?k_D_need_item ?a_D_make_moved ?l_D_make_moved ?c_D_make_moved ?k_D_make_moved ?a_D_is_entry ?l_D_is_entry ?c_D_is_entry ?k_D_is_entry ?a_D_is_row ?l_D_is_row ?c_D_is_row ?k_D_is_row ?a_D_is_rule ?l_D_is_rule ?c_D_is_rule ?k_D_is_rule ?a_D_need_rule ?l_D_need_rule ?c_D_need_rule ?k_D_need_rule ?a_D_named_row ?l_D_named_row ?c_D_named_row ?k_D_named_row ?a_D_named_rule ?l_D_named_rule ?c_D_named_rule ?k_D_named_rule ?a_D_is_standing_of ?l_D_is_standing_of ?c_D_is_standing_of ?k_D_is_standing_of ?a_D_need_standing ?l_D_need_standing ?c_D_need_standing ?k_D_need_standing ?a_D_are_asks_of ?l_D_are_asks_of ?c_D_are_asks_of ?k_D_are_asks_of ?a_D_need_asks ?l_D_need_asks ?c_D_need_asks ?k_D_need_asks ?a_D_make_ask ?l_D_make_ask ?c_D_make_ask ?k_D_make_ask ?a_D_make_run ?l_D_make_run ?c_D_make_run ?k_D_make_run ?a_D_run ?l_D_run ?c_D_run ?k_D_run ?a_D_Store_u_init_u ?i_D_Store_u_init_u ?l_D_Store_u_init_u ?c_D_Store_u_init_u ?k_D_Store_u_init_u ?a_D_Store_ask ?i_D_Store_ask ?l_D_Store_ask ?c_D_Store_ask ?k_D_Store_ask ?a_D_Store_rule ?i_D_Store_rule ?l_D_Store_rule ?c_D_Store_rule ?k_D_Store_rule ?a_D_Store_standing ?i_D_Store_standing ?l_D_Store_standing ?c_D_Store_standing ?k_D_Store_standing ?a_D_Store_asked ?i_D_Store_asked ?l_D_Store_asked ?c_D_Store_asked ?k_D_Store_asked ?a_D__law_spread ?l_D__law_spread ?c_D__law_spread ?k_D__law_spread ?a_D__law_open ?l_D__law_open ?c_D__law_open ?k_D__law_open ?a_D__law_take ?l_D__law_take ?c_D__law_take ?k_D__law_take ?a_D__law_anew ?l_D__law_anew ?c_D__law_anew ?k_D__law_anew ?a_D__law_drawn_order ?l_D__law_drawn_order ?c_D__law_drawn_order ?k_D__law_drawn_order ?a_D__law_last_first ?l_D__law_last_first ?c_D__law_last_first ?k_D__law_last_first ?a_D_law ?l_D_law ?c_D_law ?k_D_law ?z_len ?z_int ?z_max ?z_min ?z_list ?z_tuple ?z_sorted ?z_all ?z_any ?z_repr ?z_abs ?z_range ?z_enumerate ?z_zip ?z_set ?z_dict ?z_isinstance ?z_bool ?z_str ?g_LEAST_ITEMS ?g_MOST_ITEMS ?g_MOST_KINDS ?g_NAMES ?l_NAMES
    (case aC_Store => k_is)
    (case pg_Store => k_is)
    (case hd_Store => k_is)
    (case po_Store => k_is)
    (case sa_Store => k_is)
    (case mk_Store => k_is)
    (case kc_Store => k_is)
    (case nf_Store_held => k_is)
    (case nf_Store_now => k_is)
    (case nf_Store_past => k_is)
    (case a_D_is_whole => k_is)
    (case l_D_is_whole => k_is)
    (case c_D_is_whole => k_is)
    (case k_D_is_whole => k_is)
    (case a_D_is_below => k_is)
    (case l_D_is_below => k_is)
    (case c_D_is_below => k_is)
    (case k_D_is_below => k_is)
    (case a_D_is_number_of_items => k_is)
    (case l_D_is_number_of_items => k_is)
    (case c_D_is_number_of_items => k_is)
    (case k_D_is_number_of_items => k_is)
    (case a_D_is_order_of => k_is)
    (case l_D_is_order_of => k_is)
    (case c_D_is_order_of => k_is)
    (case k_D_is_order_of => k_is)
    (case a_D_need_items => k_is)
    (case l_D_need_items => k_is)
    (case c_D_need_items => k_is)
    (case k_D_need_items => k_is)
    (case a_D_need_item => k_is)
    (case l_D_need_item => k_is)
    (case c_D_need_item => k_is)
    (case k_D_need_item => k_is)
    (case a_D_make_moved => k_is)
    (case l_D_make_moved => k_is)
    (case c_D_make_moved => k_is)
    (case k_D_make_moved => k_is)
    (case a_D_is_entry => k_is)
    (case l_D_is_entry => k_is)
    (case c_D_is_entry => k_is)
    (case k_D_is_entry => k_is)
    (case a_D_is_row => k_is)
    (case l_D_is_row => k_is)
    (case c_D_is_row => k_is)
    (case k_D_is_row => k_is)
    (case a_D_is_rule => k_is)
    (case l_D_is_rule => k_is)
    (case c_D_is_rule => k_is)
    (case k_D_is_rule => k_is)
    (case a_D_need_rule => k_is)
    (case l_D_need_rule => k_is)
    (case c_D_need_rule => k_is)
    (case k_D_need_rule => k_is)
    (case a_D_named_row => k_is)
    (case l_D_named_row => k_is)
    (case c_D_named_row => k_is)
    (case k_D_named_row => k_is)
    (case a_D_named_rule => k_is)
    (case l_D_named_rule => k_is)
    (case c_D_named_rule => k_is)
    (case k_D_named_rule => k_is)
    (case a_D_is_standing_of => k_is)
    (case l_D_is_standing_of => k_is)
    (case c_D_is_standing_of => k_is)
    (case k_D_is_standing_of => k_is)
    (case a_D_need_standing => k_is)
    (case l_D_need_standing => k_is)
    (case c_D_need_standing => k_is)
    (case k_D_need_standing => k_is)
    (case a_D_are_asks_of => k_is)
    (case l_D_are_asks_of => k_is)
    (case c_D_are_asks_of => k_is)
    (case k_D_are_asks_of => k_is)
    (case a_D_need_asks => k_is)
    (case l_D_need_asks => k_is)
    (case c_D_need_asks => k_is)
    (case k_D_need_asks => k_is)
    (case a_D_make_ask => k_is)
    (case l_D_make_ask => k_is)
    (case c_D_make_ask => k_is)
    (case k_D_make_ask => k_is)
    (case a_D_make_run => k_is)
    (case l_D_make_run => k_is)
    (case c_D_make_run => k_is)
    (case k_D_make_run => k_is)
    (case a_D_run => k_is)
    (case l_D_run => k_is)
    (case c_D_run => k_is)
    (case k_D_run => k_is)
    (case a_D_Store_u_init_u => k_is)
    (case i_D_Store_u_init_u => k_is)
    (case l_D_Store_u_init_u => k_is)
    (case c_D_Store_u_init_u => k_is)
    (case k_D_Store_u_init_u => k_is)
    (case a_D_Store_ask => k_is)
    (case i_D_Store_ask => k_is)
    (case l_D_Store_ask => k_is)
    (case c_D_Store_ask => k_is)
    (case k_D_Store_ask => k_is)
    (case a_D_Store_rule => k_is)
    (case i_D_Store_rule => k_is)
    (case l_D_Store_rule => k_is)
    (case c_D_Store_rule => k_is)
    (case k_D_Store_rule => k_is)
    (case a_D_Store_standing => k_is)
    (case i_D_Store_standing => k_is)
    (case l_D_Store_standing => k_is)
    (case c_D_Store_standing => k_is)
    (case k_D_Store_standing => k_is)
    (case a_D_Store_asked => k_is)
    (case i_D_Store_asked => k_is)
    (case l_D_Store_asked => k_is)
    (case c_D_Store_asked => k_is)
    (case k_D_Store_asked => k_is)
    (case a_D__law_spread => k_is)
    (case l_D__law_spread => k_is)
    (case c_D__law_spread => k_is)
    (case k_D__law_spread => k_is)
    (case a_D__law_open => k_is)
    (case l_D__law_open => k_is)
    (case c_D__law_open => k_is)
    (case k_D__law_open => k_is)
    (case a_D__law_take => k_is)
    (case l_D__law_take => k_is)
    (case c_D__law_take => k_is)
    (case k_D__law_take => k_is)
    (case a_D__law_anew => k_is)
    (case l_D__law_anew => k_is)
    (case c_D__law_anew => k_is)
    (case k_D__law_anew => k_is)
    (case a_D__law_drawn_order => k_is)
    (case l_D__law_drawn_order => k_is)
    (case c_D__law_drawn_order => k_is)
    (case k_D__law_drawn_order => k_is)
    (case a_D__law_last_first => k_is)
    (case l_D__law_last_first => k_is)
    (case c_D__law_last_first => k_is)
    (case k_D__law_last_first => k_is)
    (case a_D_law => k_is)
    (case l_D_law => k_is)
    (case c_D_law => k_is)
    (case k_D_law => k_is)
    (case z_len => k_is)
    (case z_int => k_is)
    (case z_max => k_is)
    (case z_min => k_is)
    (case z_list => k_is)
    (case z_tuple => k_is)
    (case z_sorted => k_is)
    (case z_all => k_is)
    (case z_any => k_is)
    (case z_repr => k_is)
    (case z_abs => k_is)
    (case z_range => k_is)
    (case z_enumerate => k_is)
    (case z_zip => k_is)
    (case z_set => k_is)
    (case z_dict => k_is)
    (case z_isinstance => k_is)
    (case z_bool => k_is)
    (case z_str => k_is)
    (case g_LEAST_ITEMS => k_is)
    (case g_MOST_ITEMS => k_is)
    (case g_MOST_KINDS => k_is)
    (case g_NAMES => k_is)
    (case l_NAMES => k_is)

