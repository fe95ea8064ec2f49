import PyProof.Rows.All
import Wide.All
import OpenK.AllK
import Wide.FinOn
import HandS.ForMost
import HandS.Flow
import HandS.Wide
import HandS.IsInst
import HandS.TupMul
import HandS.TupAny
import HandS.WideBits
import HandS.ForExc
import KE.KStar
import HandS.SortInts
import HandS.Style
import HandS.Deep
import HandS.Star
import KE.GoesEnum
import HandS.Zip
import HandS.Conv
import HandS.Head0
import HandS.Head1
import HandS.Head2
import HandS.HeadEnd
import HandS.HeadHook1
import HandS.HeadHook2
import HandS.EndBits
import HandS.Words
import HandS.WordsExc
import HandS.Defaults
import PySem.Challenge.RW_restlands_k22_whole_lit_stretches
set_option Elab.async false
set_option linter.all false
set_option maxRecDepth 100000
set_option maxHeartbeats 4000000
/-! A small functional reading of the programs' language: values without addresses, slots, a total evaluator. -/
namespace MI
open PySem PySem.Spec PyProof.Rows L2

/-! ### values -/
inductive D where
  | non | bl (b : Bool) | int (i : Int) | str (x : Str) | ty (n : String) | fn (k : Nat) | cl (k : Nat)
  | lst (xs : List D) | tup (xs : List D)
/-- what a slot or an expression holds: a datum; a list that nobody else holds (tag: a parameter's own list); a parameter's list that was handed on -/
inductive Vl where
  | d (x : D) | own (tag : Bool) (xs : List D) | fz (xs : List D)
abbrev S := List (Option Vl)
inductive R (α : Type) where
  | ok (a : α) (s : S) | ex (c : Nat) (fs : List D) (s : S) | no
def R.bind {α β : Type} (r : R α) (f : α → S → R β) : R β := match r with
  | .ok a s => f a s
  | .ex c fs s => .ex c fs s
  | .no => .no
/-- a value as a slot takes it: an own list is no parameter's -/
def Vl.fresh : Vl → Vl
  | .own _ xs => .own false xs
  | .fz xs => .d (.lst xs)
  | .d x => .d x
def Vl.dat : Vl → D
  | .d x => x
  | .own _ xs => .lst xs
  | .fz xs => .lst xs
def R.ofO {α : Type} (o : Option α) (s : S) : R α := match o with
  | some a => .ok a s
  | none => .no

/-! ### the text -/
inductive Bf where
  | len | abs | max | min | int | isinst | divmod | repr | all | any | sum | sorted | list | tuple | bool | str
  deriving DecidableEq
inductive T where
  | var (i : Nat) | con (x : D) | nil | cons (a r : T) | star (a r : T)
  | bin (op : Operator) (a b : T) | neg (a : T) | nt (a : T) | cmp (op : CmpOp) (a b : T) | chain (op op' : CmpOp) (a b c : T)
  | and (a b : T) | or (a b : T) | ite (c a b : T)
  | tup (es : T) | lst (es : T) | idx (a i : T) | slc (a lo hi : T) | sl1 (a : T)
  | call (f : Nat) (args : T) | callk (f : Nat) (perm : List Nat) (args kw : T) | bf (b : Bf) (args : T)
  | comp (own : List Nat) (p it c e : T) | mem (n : Bool) (a b : T)
  | par (is : List Nat) (es : T) | rng (args : T) | enum (a : T) | zip (a b : T) | it (a : T) | itv (i : Nat) | part (a : T)
  | popE (i : Nat) (e : T) | lrg (t : Bool) (args : T)
  | asg (p e : T) | ex (e : T) | app (i : Nat) (e : T) | ext (i : Nat) (e : T) | augs (i : Nat) (ix : T) (op : Operator) (e : T) | pop (i : Nat) | aug (i : Nat) (op : Operator) (e : T) | iff (c a b : T) | whl (c b : T) | for (p it b : T) | ret (e : T) | retN | pass | brk | cont | seq (a b : T)

/-! ### operators -/
def W64 : Nat := 2 ^ 64
def W4 : Nat := 2 ^ 4000
def WM : Nat := 2 ^ 100000
def mulOk (i j : Int) : Bool := decide (i.natAbs < W64) || decide (j.natAbs < W64) || (decide (i.natAbs < WM) && decide (j.natAbs < WM))
def divOk (j : Int) : Bool := decide (j ≠ 0) && decide (j.natAbs < W4)
def fitsL (n : Nat) : Bool := decide (n ≤ 16777216)
def bin (op : Operator) (a b : D) : Option Vl := match op, a, b with
  | .Add, .int i, .int j => some (.d (.int (i + j)))
  | .Sub, .int i, .int j => some (.d (.int (i - j)))
  | .Mult, .int i, .int j => if mulOk i j then some (.d (.int (i * j))) else none
  | .FloorDiv, .int i, .int j => if divOk j then some (.d (.int (if 0 < j then i / j else i.fdiv j))) else none
  | .Mod, .int i, .int j => if j = 0 then none else some (.d (.int (if 0 < j then i % j else i.fmod j)))
  | .Pow, .int i, .int j => if decide (0 ≤ j) && decide (j ≤ 1000000) && decide (i.natAbs < W64) then some (.d (.int (i ^ j.toNat))) else none
  | .Add, .lst xs, .lst ys => if fitsL (xs.length + ys.length) then some (.own false (xs ++ ys)) else none
  | .Add, .tup xs, .tup ys => if fitsL (xs.length + ys.length) then some (.d (.tup (xs ++ ys))) else none
  | .Mult, .lst xs, .int k => if decide (-(2 ^ 63) ≤ k) && decide (k < 2 ^ 63) && fitsL (xs.length * k.toNat) then some (.own false (List.replicate k.toNat xs).flatten) else none
  | .Mult, .tup xs, .int k => if decide (-(2 ^ 63) ≤ k) && decide (k < 2 ^ 63) && fitsL (xs.length * k.toNat) then some (.d (.tup (List.replicate k.toNat xs).flatten)) else none
  | _, _, _ => none
mutual
def toPy : D → Option PyData
  | .non => some .none
  | .bl b => some (.bool b)
  | .int i => some (.int i)
  | .str x => some (.str x)
  | .lst xs => (toPys xs).map .list
  | .tup xs => (toPys xs).map .tuple
  | _ => none
def toPys : List D → Option (List PyData)
  | [] => some []
  | x :: xs => match toPy x, toPys xs with
    | some d, some ds => some (d :: ds)
    | _, _ => none
end
def eqD (a b : D) : Option Bool := match a, b with
  | .int i, .int j => some (decide (i = j))
  | .str i, .str j => some (decide (i = j))
  | a, b => match toPy a, toPy b with
    | some d, some e => if SeqAt.shaped d && SeqAt.shaped e then some (PyData.eqv d e) else none
    | _, _ => none
def cmp (op : CmpOp) (a b : D) : Option Bool := match op with
  | .Eq => eqD a b
  | .NotEq => (eqD a b).map not
  | .Lt => (match a, b with | .int i, .int j => some (decide (i < j)) | _, _ => none)
  | .LtE => (match a, b with | .int i, .int j => some (decide (i ≤ j)) | _, _ => none)
  | .Gt => (match a, b with | .int i, .int j => some (decide (j < i)) | _, _ => none)
  | .GtE => (match a, b with | .int i, .int j => some (decide (j ≤ i)) | _, _ => none)
  | .Is => (match a, b with | .non, .non => some true | .lst _, .non => some false | .tup _, .non => some false | .int _, .non => some false | .bl _, .non => some false | .str _, .non => some false | _, _ => none)
  | .IsNot => (match a, b with | .non, .non => some false | .lst _, .non => some true | .tup _, .non => some true | .int _, .non => some true | .bl _, .non => some true | .str _, .non => some true | _, _ => none)
  | _ => none
/-- x in y -/
def memD (x y : D) : Option Bool := match y with
  | .lst ys => (match toPy x, toPys ys with
    | some d, some ds => if SeqAt.shaped d && SeqAt.shaped (.list ds) then some (ds.any fun z => PyData.eqv z d) else none
    | _, _ => none)
  | .tup ys => (match toPy x, toPys ys with
    | some d, some ds => if SeqAt.shaped d && SeqAt.shaped (.tuple ds) then some (ds.any fun z => PyData.eqv z d) else none
    | _, _ => none)
  | _ => none
def memV (n : Bool) (x y : D) : Option Vl := (memD x y).map fun b => .d (.bl (b != n))
/-- xs[::-1] -/
def revD : D → Option Vl
  | .lst xs => some (.own false xs.reverse)
  | .tup xs => some (.d (.tup xs.reverse))
  | _ => none
/-- x op= y of whole numbers -/
def augD (op : Operator) (a b : D) : Option D := match op, a, b with
  | .Add, .int i, .int j => some (.int (i + j))
  | .Sub, .int i, .int j => some (.int (i - j))
  | _, _, _ => none
def tru : D → Option Bool
  | .non => some false
  | .bl b => some b
  | .int i => some (i != 0)
  | .lst xs => some (!xs.isEmpty)
  | .tup xs => some (!xs.isEmpty)
  | _ => none
def at_ (xs : List D) (i : Int) : Option D := if 0 ≤ i then xs[i.toNat]? else if -(xs.length : Int) ≤ i then xs[(i + xs.length).toNat]? else none
def index (a i : D) : Option D := match a, i with
  | .lst xs, .int k => at_ xs k
  | .tup xs, .int k => at_ xs k
  | _, _ => none
def clip (n d : Nat) (o : Option Int) : Nat := match o with
  | none => d
  | some i => if i < 0 then (i + n).toNat else min i.toNat n
def cut (xs : List D) (lo hi : Option Int) : List D := (xs.drop (clip xs.length 0 lo)).take (clip xs.length xs.length hi - clip xs.length 0 lo)
def slice (a : D) (lo hi : Option Int) : Option Vl := match a with
  | .lst xs => some (.own false (cut xs lo hi))
  | .tup xs => some (.d (.tup (cut xs lo hi)))
  | _ => none

/-! ### built-in functions -/
def tyNames : List String := ["int", "bool", "tuple", "list", "str", "dict"]
def isTy (x : D) (n : String) : Option Bool := match x with
  | .non => some false
  | .bl _ => some (n == "bool" || n == "int")
  | .int _ => some (n == "int")
  | .str _ => some (n == "str")
  | .lst _ => some (n == "list")
  | .tup _ => some (n == "tuple")
  | _ => none
def intsOf : List D → Option (List Int)
  | [] => some []
  | .int i :: r => (intsOf r).map (i :: ·)
  | _ => none
def boolsOf : List D → Option (List Bool)
  | [] => some []
  | .bl i :: r => (boolsOf r).map (i :: ·)
  | _ => none
def bf1 (b : Bf) (args : List D) : Option Vl := match b, args with
  | .len, [.lst xs] => some (.d (.int xs.length))
  | .len, [.tup xs] => some (.d (.int xs.length))
  | .abs, [.int i] => some (.d (.int i.natAbs))
  | .max, [.int i, .int j] => some (.d (.int (if j > i then j else i)))
  | .min, [.int i, .int j] => some (.d (.int (if j < i then j else i)))
  | .int, [.int i] => some (.d (.int i))
  | .isinst, [x, .ty n] => if tyNames.contains n then (isTy x n).map (.d ∘ .bl) else none
  | .divmod, [.int i, .int j] => if decide (0 < j) && decide (j.natAbs < W4) then some (.d (.tup [.int (i / j), .int (i % j)])) else none
  | .repr, [x] => match toPy x with
    | some d => if d.showable && !d.hasDict && decide (d.depth ≤ 64) && fitsL d.shown.length then some (.d (.str d.shown)) else none
    | none => none
  | .all, [.lst xs] => (boolsOf xs).map fun bs => .d (.bl (bs.all id))
  | .any, [.lst xs] => (boolsOf xs).map fun bs => .d (.bl (bs.any id))
  | .sum, [.lst xs] => (intsOf xs).map fun ns => .d (.int ns.sum)
  | .max, [.lst xs] => (intsOf xs).bind fun ns => ns.max?.map fun m => .d (.int m)
  | .min, [.lst xs] => (intsOf xs).bind fun ns => ns.min?.map fun m => .d (.int m)
  | .sorted, [.lst xs] => (intsOf xs).map fun ns => .own false ((ns.mergeSort fun a b => decide (a ≤ b)).map .int)
  | .bool, [.int i] => some (.d (.bl (i != 0)))
  | .bool, [.bl b] => some (.d (.bl b))
  | .tuple, [.lst xs] => some (.d (.tup xs))
  | .tuple, [.tup xs] => some (.d (.tup xs))
  | .list, [.lst xs] => some (.own false xs)
  | .list, [.tup xs] => some (.own false xs)
  | _, _ => none

/-! ### the evaluator -/
structure Fn where
  np : Nat
  n : Nat
  body : T
/-- a call: the function, the arguments; its value, what its parameters' own lists have become -/
abbrev Call := Nat → List Vl → R (Vl × List (Option Vl))

def rdV (i : Nat) (s : S) : R Vl := match s[i]? with
  | some (some (.d x)) => .ok (.d x) s
  | some (some (.own true xs)) => .ok (.d (.lst xs)) (s.set i (some (.fz xs)))
  | some (some (.own false xs)) => .ok (.d (.lst xs)) (s.set i (some (.d (.lst xs))))
  | some (some (.fz xs)) => .ok (.d (.lst xs)) s
  | _ => .no
/-- a slot's datum, as it stands -/
def peek (i : Nat) (s : S) : Option D := match s[i]? with
  | some (some v) => some v.dat
  | _ => none
/-- an argument: a value, or a slot whose own list is lent -/
inductive Ag where
  | val (v : Vl) | ref (i : Nat)
def lend : List Ag → S → Option (List Vl × S)
  | [], s => some ([], s)
  | .val v :: r, s => (lend r s).map fun p => (v :: p.1, p.2)
  | .ref i :: r, s => match s[i]? with
    | some (some (.own _ xs)) => (lend r (s.set i none)).map fun p => (.own true xs :: p.1, p.2)
    | some (some (.fz xs)) => (lend r s).map fun p => (.d (.lst xs) :: p.1, p.2)
    | some (some (.d x)) => (lend r s).map fun p => (.d x :: p.1, p.2)
    | _ => none
/-- a lent list, back in its slot -/
def back1 (o : Option Vl) (tag : Bool) : Option Vl := match o with
  | some (.own _ ys) => some (.own tag ys)
  | some (.fz ys) => some (if tag then .fz ys else .d (.lst ys))
  | _ => none
/-- behind the call: s as it stood ahead of the lending -/
def back : List Ag → List (Option Vl) → S → S
  | .ref i :: r, o :: os, s => back r os (match s[i]? with
    | some (some (.own tag _)) => s.set i (back1 o tag)
    | _ => s)
  | .val _ :: r, _ :: os, s => back r os s
  | _, _, s => s
/-- what is left of the parameters' own lists -/
def outs (args : List Vl) (s : S) : List (Option Vl) := (args.zip (s ++ List.replicate args.length none)).map fun p => match p.1, p.2 with
  | .own _ _, some (.own true ys) => some (.own true ys)
  | .own _ _, some (.fz ys) => some (.fz ys)
  | _, _ => none
/-- the arguments in the parameters' order -/
def pick {α : Type} (perm : List Nat) (vs : List α) : List α := perm.filterMap fun j => vs[j]?

/-- what a target does with a value -/
inductive P where
  | slot (i : Nat) | tup (ps : List P) | sub (i : Nat) (ix : T)

inductive O where
  | nx (s : S) | rt (v : Vl) (s : S) | bk (s : S) | ct (s : S) | ex (c : Nat) (fs : List D) (s : S) | no

def onlyN : O → O
  | .nx s => .nx s
  | .ex c fs s => .ex c fs s
  | _ => .no
def loopN (n : Nat) (step : S → O) (s : S) : O := match n with
  | 0 => .no
  | n + 1 => match step s with
    | .nx s' => loopN n step s'
    | .bk s' => .nx s'
    | o => o
/-- one turn after another over what is walked -/
def loopL (step : D → S → O) : List D → S → O
  | [], s => .nx s
  | x :: r, s => match step x s with
    | .nx s' => loopL step r s'
    | .ct s' => loopL step r s'
    | .bk s' => .nx s'
    | o => o
def joinO : Option D → List D → List D
  | some y, r => y :: r
  | none, r => r
def compL (step : D → S → Option (Option D × S)) : List D → S → Option (List D × S)
  | [], s => some ([], s)
  | x :: r, s => match step x s with
    | none => none
    | some (y, s1) => match compL step r s1 with
      | none => none
      | some (ys, s2) => some (joinO y ys, s2)
def wipeS (s : S) : List Nat → S
  | [] => s
  | i :: r => (wipeS s r).set i none
/-- the slots own of s as they stand in s0 -/
def unwipe (s0 s : S) : List Nat → S
  | [] => s
  | i :: r => (unwipe s0 s r).set i (match s0[i]? with | some (some (.d x)) => some (.d x) | _ => none)
def rangeL (lo : Int) (n : Nat) : List D := (List.range n).map fun (k : Nat) => .int (lo + (k : Int))
def rangeL3 (lo c : Int) (n : Nat) : List D := (List.range n).map fun (k : Nat) => .int (lo + (k : Int) * c)
def rg3Ok (i j c : Int) : Bool := decide (c ≠ 0) && decide (c.natAbs < 1073741824) && Builtin.Range.small i j c && decide (0 ≤ PySem.Builtin.Range.rangeSize i j c)
def items : D → Option (List D)
  | .lst xs => some xs
  | .tup xs => some xs
  | _ => none
def in62 (i : Int) : Bool := decide (-(2 ^ 62) ≤ i) && decide (i < 2 ^ 62)
def enumL : Nat → List D → List D
  | _, [] => []
  | k, x :: r => .tup [.int k, x] :: enumL (k + 1) r
def zipL : List D → List D → List D
  | x :: r, y :: q => .tup [x, y] :: zipL r q
  | _, _ => []
/-- a walk over a list that a slot holds for itself -/
def ownIt : T → S → Option (Nat × Bool × List D)
  | .itv i, s => match s[i]? with
    | some (some (.own tag xs)) => some (i, tag, xs)
    | _ => none
  | _, _ => none
def setAll : List Nat → List Vl → S → S
  | i :: is, v :: vs, s => setAll is vs (s.set i (some v))
  | _, _, s => s
/-- xs.pop(k), behind k -/
def popR (i : Nat) (v : Vl) (s : S) : R Vl := match s[i]?, v with
  | some (some (.own tag xs)), .d (.int k) => if decide (0 ≤ k) && decide (k < 2 ^ 62) then (match xs[k.toNat]? with
    | some y => .ok (.d y) (s.set i (some (.own tag (xs.eraseIdx k.toNat))))
    | none => .no) else .no
  | _, _ => .no
/-- list(range(i, j)), tuple(range(i, j)) -/
def lrgV (t : Bool) (i j : Int) : Option Vl := if in62 i && in62 j && fitsL (j - i).toNat then some (if t then .d (.tup (rangeL i (j - i).toNat)) else .own false (rangeL i (j - i).toNat)) else none
def lrgO (t : Bool) (xs : List D) : Option Vl := match xs with
  | [.int j] => lrgV t 0 j
  | [.int i, .int j] => lrgV t i j
  | _ => none
/-- xs.extend(v) -/
def extO (i : Nat) (v : Vl) (s : S) : O := match s[i]?, v.dat with
  | some (some (.own tag xs)), .lst ys => if fitsL (xs.length + ys.length) then .nx (s.set i (some (.own tag (xs ++ ys)))) else .no
  | _, _ => .no
/-- xs[k] op= v, x the item as it stood -/
def augO (i : Nat) (op : Operator) (k : Int) (x : D) (v : Vl) (s : S) : O := match augD op x v.dat, s[i]? with
  | some y, some (some (.own tag xs)) => if decide (0 ≤ k) && decide (k.toNat < xs.length) then .nx (s.set i (some (.own tag (xs.set k.toNat y)))) else .no
  | _, _ => .no
/-- the item at k of a slot's own list -/
def itemAt (i : Nat) (k : Int) (s : S) : Option D := match s[i]? with
  | some (some (.own _ xs)) => if decide (0 ≤ k) then xs[k.toNat]? else none
  | _ => none
def FUEL : Nat := 1000000000000
/-- a value behind which nobody else holds its list -/
def evD (r : R Vl) : R D := r.bind fun v s => .ok v.dat s

/-- how many of them, none with a star -/
def plainLen : T → Option Nat
  | .nil => some 0
  | .cons _ r => (plainLen r).map (· + 1)
  | _ => none
section
variable (Φ : Call)
mutual
def evE : T → S → R Vl
  | .var i, s => rdV i s
  | .con x, s => .ok (.d x) s
  | .bin op a b, s => (evE a s).bind fun x s => (evE b s).bind fun y s => R.ofO (bin op x.dat y.dat) s
  | .neg a, s => (evE a s).bind fun x s => match x with
    | .d (.int i) => .ok (.d (.int (-i))) s
    | _ => .no
  | .nt a, s => (evE a s).bind fun x s => R.ofO ((tru x.dat).map fun b => .d (.bl (!b))) s
  | .cmp op a b, s => (evE a s).bind fun x s => (evE b s).bind fun y s => R.ofO ((cmp op x.dat y.dat).map fun b => .d (.bl b)) s
  | .chain op op' a b c, s => (evE a s).bind fun x s => (evE b s).bind fun y s => match cmp op x.dat y.dat with
    | some true => (evE c s).bind fun z s => R.ofO ((cmp op' y.dat z.dat).map fun b => .d (.bl b)) s
    | some false => .ok (.d (.bl false)) s
    | none => .no
  | .and a b, s => (evE a s).bind fun x s => match tru x.dat with
    | some true => evE b s
    | some false => .ok (.d x.dat) s
    | none => .no
  | .or a b, s => (evE a s).bind fun x s => match tru x.dat with
    | some true => .ok (.d x.dat) s
    | some false => evE b s
    | none => .no
  | .ite c a b, s => (evE c s).bind fun x s => match tru x.dat with
    | some true => evE a s
    | some false => evE b s
    | none => .no
  | .tup es, s => (evL es s).bind fun xs s => if fitsL xs.length then .ok (.d (.tup xs)) s else .no
  | .lst es, s => (evL es s).bind fun xs s => if fitsL xs.length then .ok (.own false xs) s else .no
  | .idx (.var i) e, s => match peek i s with
    | none => .no
    | some _ => (evE e s).bind fun y s => match peek i s with
      | some x => R.ofO ((index x y.dat).map .d) s
      | none => .no
  | .idx a e, s => (evE a s).bind fun x s => (evE e s).bind fun y s => R.ofO ((index x.dat y.dat).map .d) s
  | .slc a lo hi, s => (evE a s).bind fun x s => (evP lo s).bind fun l s => (evP hi s).bind fun h s => R.ofO (slice x.dat l h) s
  | .call f args, s => (evA args s).bind fun vs s => match lend vs s with
    | none => .no
    | some (us, _) => match Φ f us with
      | .ok (v, os) _ => .ok v (back vs os s)
      | .ex c fs os => .ex c fs (back vs os s)
      | .no => .no
  | .callk f perm args kw, s => (evL args s).bind fun xs s => (evL kw s).bind fun ys s => match Φ f ((pick perm (xs ++ ys)).map .d) with
    | .ok (v, _) _ => .ok v s
    | .ex c fs _ => .ex c fs s
    | .no => .no
  | .sl1 a, s => (evE a s).bind fun x s => R.ofO (revD x.dat) s
  | .mem n a (.var i), s => (evE a s).bind fun x s => match peek i s with
    | some y => R.ofO (memV n x.dat y) s
    | none => .no
  | .mem n a b, s => (evE a s).bind fun x s => (evE b s).bind fun y s => R.ofO (memV n x.dat y.dat) s
  | .bf b (.cons (.var i) .nil), s => match peek i s with
    | some x => R.ofO (bf1 b [x]) s
    | none => .no
  | .bf b args, s => (evL args s).bind fun xs s => R.ofO (bf1 b xs) s
  | .popE i .nil, s => match s[i]? with
    | some (some (.own tag xs)) => (match xs.getLast? with
      | some y => .ok (.d y) (s.set i (some (.own tag xs.dropLast)))
      | none => .no)
    | _ => .no
  | .popE i e, s => match s[i]? with
    | some (some (.own _ _)) => (evE e s).bind fun v s => popR i v s
    | _ => .no
  | .lrg t args, s => (evL args s).bind fun xs s => R.ofO (lrgO t xs) s
  | .comp own p it c e, s => match ownIt it s with
    | some (i, tag, xs) => (match compL (fun x s => match bindP p x s with
        | .nx s => (match evE c s with
          | .ok b s => (match tru b.dat with
            | some true => (match evE e s with
              | .ok v s => some (some v.dat, wipeS s own)
              | _ => none)
            | some false => some (none, wipeS s own)
            | none => none)
          | _ => none)
        | _ => none) xs (wipeS (s.set i none) own) with
      | some (ys, s') => if fitsL ys.length && !own.contains i then .ok (.own false ys) ((unwipe (s.set i none) s' own).set i (some (.own tag xs))) else .no
      | none => .no)
    | none => (evI it s).bind fun xs s =>
      match compL (fun x s => match bindP p x s with
        | .nx s => (match evE c s with
          | .ok b s => (match tru b.dat with
            | some true => (match evE e s with
              | .ok v s => some (some v.dat, wipeS s own)
              | _ => none)
            | some false => some (none, wipeS s own)
            | none => none)
          | _ => none)
        | _ => none) xs (wipeS s own) with
      | some (ys, s') => if fitsL ys.length then .ok (.own false ys) (unwipe s s' own) else .no
      | none => .no
  | _, _ => .no
termination_by structural t => t
/-- the items of a display -/
def evL : T → S → R (List D)
  | .nil, s => .ok [] s
  | .cons a r, s => (evE a s).bind fun x s => (evL r s).bind fun xs s => .ok (x.dat :: xs) s
  | .star (.var i) r, s => match (peek i s).bind items with
    | some ys => (evL r s).bind fun xs s => .ok (ys ++ xs) s
    | none => .no
  | .star a r, s => (evE a s).bind fun x s => match items x.dat with
    | some ys => (evL r s).bind fun xs s => .ok (ys ++ xs) s
    | none => .no
  | _, _ => .no
termination_by structural t => t
/-- a call's arguments -/
def evA : T → S → R (List Ag)
  | .nil, s => .ok [] s
  | .cons (.var i) r, s => match s[i]? with
    | some (some (.own _ _)) => (evA r s).bind fun vs s => .ok (.ref i :: vs) s
    | _ => (rdV i s).bind fun x s => (evA r s).bind fun vs s => .ok (.val x :: vs) s
  | .cons a r, s => (evE a s).bind fun x s => (evA r s).bind fun vs s => .ok (.val x :: vs) s
  | _, _ => .no
termination_by structural t => t
/-- values side by side -/
def evV : T → S → R (List Vl)
  | .nil, s => .ok [] s
  | .cons a r, s => (evE a s).bind fun x s => (evV r s).bind fun vs s => .ok (x :: vs) s
  | _, _ => .no
termination_by structural t => t
/-- a part of a slice -/
def evP : T → S → R (Option Int)
  | .nil, s => .ok none s
  | .part a, s => (evE a s).bind fun x s => match x with
    | .d (.int i) => .ok (some i) s
    | _ => .no
  | _, _ => .no
termination_by structural t => t
/-- what a for walks -/
def evI : T → S → R (List D)
  | .rng (.cons a .nil), s => (evE a s).bind fun x s => match x with
    | .d (.int j) => if in62 j then .ok (rangeL 0 j.toNat) s else .no
    | _ => .no
  | .rng (.cons a (.cons b .nil)), s => (evE a s).bind fun x s => (evE b s).bind fun y s => match x, y with
    | .d (.int i), .d (.int j) => if in62 i && in62 j then .ok (rangeL i (j - i).toNat) s else .no
    | _, _ => .no
  | .rng (.cons a (.cons b (.cons c .nil))), s => (evE a s).bind fun x s => (evE b s).bind fun y s => (evE c s).bind fun z s => match x, y, z with
    | .d (.int i), .d (.int j), .d (.int k) => if rg3Ok i j k then .ok (rangeL3 i k (PySem.Builtin.Range.rangeSize i j k).toNat) s else .no
    | _, _, _ => .no
  | .enum a, s => (evE a s).bind fun x s => match x.dat with
    | .lst xs => .ok (enumL 0 xs) s
    | .tup xs => .ok (enumL 0 xs) s
    | _ => .no
  | .zip a b, s => (evE a s).bind fun x s => (evE b s).bind fun y s => match x.dat, y.dat with
    | .lst xs, .lst ys => .ok (zipL xs ys) s
    | .tup xs, .tup ys => .ok (zipL xs ys) s
    | _, _ => .no
  | .it a, s => (evE a s).bind fun x s => match items x.dat with
    | some xs => .ok xs s
    | none => .no
  | .itv i, s => (rdV i s).bind fun x s => match items x.dat with
    | some xs => .ok xs s
    | none => .no
  | _, _ => .no
termination_by structural t => t
/-- a target takes a datum -/
def bindP : T → D → S → O
  | .var i, x, s => if i < s.length then .nx (s.set i (some (.d x))) else .no
  | .tup ps, x, s => match x with
    | .tup xs => if plainLen ps = some xs.length then bindPs ps xs s else .no
    | _ => .no
  | .idx (.var i) e, x, s => match peek i s with
    | none => .no
    | some _ => match evE e s with
      | .ok (.d (.int k)) s => (match s[i]? with
        | some (some (.own tag xs)) => if 0 ≤ k && k.toNat < xs.length then .nx (s.set i (some (.own tag (xs.set k.toNat x)))) else .no
        | _ => .no)
      | .ex c fs s => .ex c fs s
      | _ => .no
  | _, _, _ => .no
termination_by structural t => t
def bindPs : T → List D → S → O
  | .nil, [], s => .nx s
  | .cons p r, x :: xs, s => match bindP p x s with
    | .nx s => bindPs r xs s
    | o => o
  | _, _, _ => .no
termination_by structural t => t
def exS : T → S → O
  | .seq a b, s => match exS a s with
    | .nx s => exS b s
    | o => o
  | .pass, s => .nx s
  | .brk, s => .bk s
  | .cont, s => .ct s
  | .asg (.var i) e, s => match evE e s with
    | .ok v s => if i < s.length then .nx (s.set i (some v.fresh)) else .no
    | .ex c fs s => .ex c fs s
    | .no => .no
  | .par is es, s => match evV es s with
    | .ok vs s => if is.length = vs.length && is.all (fun i => decide (i < s.length)) then .nx (setAll is (vs.map Vl.fresh) s) else .no
    | .ex c fs s => .ex c fs s
    | .no => .no
  | .asg p e, s => match evE e s with
    | .ok v s => onlyN (bindP p v.dat s)
    | .ex c fs s => .ex c fs s
    | .no => .no
  | .ex e, s => match evE e s with
    | .ok _ s => .nx s
    | .ex c fs s => .ex c fs s
    | .no => .no
  | .app i e, s => match s[i]? with
    | some (some (.own _ _)) => (match evE e s with
      | .ok v s => (match s[i]? with
        | some (some (.own tag xs)) => if fitsL (xs.length + 1) then .nx (s.set i (some (.own tag (xs ++ [v.dat])))) else .no
        | _ => .no)
      | .ex c fs s => .ex c fs s
      | .no => .no)
    | _ => .no
  | .ext i e, s => match s[i]? with
    | some (some (.own _ _)) => (match evE e s with
      | .ok v s => extO i v s
      | .ex c fs s => .ex c fs s
      | .no => .no)
    | _ => .no
  | .augs i ix op e, s => match s[i]? with
    | some (some (.own _ _)) => (match evE ix s with
      | .ok (.d (.int k)) s => (match itemAt i k s with
        | some x => (match evE e s with
          | .ok v s => augO i op k x v s
          | .ex c fs s => .ex c fs s
          | .no => .no)
        | none => .no)
      | .ex c fs s => .ex c fs s
      | _ => .no)
    | _ => .no
  | .pop i, s => match s[i]? with
    | some (some (.own tag xs)) => if xs.isEmpty then .no else .nx (s.set i (some (.own tag xs.dropLast)))
    | _ => .no
  | .aug i op e, s => match s[i]? with
    | some (some (.d x)) => (match evE e s with
      | .ok v s => (match augD op x v.dat with
        | some y => .nx (s.set i (some (.d y)))
        | none => .no)
      | .ex c fs s => .ex c fs s
      | .no => .no)
    | _ => .no
  | .iff c a b, s => match evE c s with
    | .ok v s => (match tru v.dat with
      | some true => exS a s
      | some false => exS b s
      | none => .no)
    | .ex c fs s => .ex c fs s
    | .no => .no
  | .whl c b, s => loopN FUEL (fun s => match evE c s with
    | .ok v s => (match tru v.dat with
      | some true => (match exS b s with | .ct s => .nx s | o => o)
      | some false => .bk s
      | none => .no)
    | .ex c fs s => .ex c fs s
    | .no => .no) s
  | .for p it b, s => match evI it s with
    | .ok xs s => loopL (fun x s => match onlyN (bindP p x s) with
      | .nx s => exS b s
      | o => o) xs s
    | .ex c fs s => .ex c fs s
    | .no => .no
  | .ret e, s => match evE e s with
    | .ok v s => .rt v s
    | .ex c fs s => .ex c fs s
    | .no => .no
  | .retN, s => .rt (.d .non) s
  | _, _ => .no
termination_by structural t => t
end
end
def startS (n : Nat) (args : List Vl) : S := args.map some ++ List.replicate (n - args.length) none
/-- a call of the k-th function, calls nested d deep -/
def run (fns : List Fn) : Nat → Call
  | 0, _, _ => .no
  | d + 1, k, args => match fns[k]? with
    | none => .no
    | some f => if args.length = f.np then (match exS (run fns d) f.body (startS f.n args) with
      | .rt v s => .ok (v, outs args s) []
      | .nx s => .ok (.d .non, outs args s) []
      | .ex c fs s => .ex c fs (outs args s)
      | _ => .no) else .no
end MI

set_option Elab.async false
set_option linter.all false
set_option maxRecDepth 100000
set_option maxHeartbeats 4000000
/-! A parameter's own list stays in its slot, or is gone: no other slot is marked as one. -/
namespace MI
def Tg (s : S) (i : Nat) : Prop := ∃ ys, s[i]? = some (some (.own true ys)) ∨ s[i]? = some (some (.fz ys))
def TL (s' s : S) : Prop := ∀ i, Tg s' i → Tg s i
def RT {α : Type} (s : S) (r : R α) : Prop := match r with
  | .ok _ s' => TL s' s
  | .ex _ _ s' => TL s' s
  | .no => True
def OT (s : S) (o : O) : Prop := match o with
  | .nx s' => TL s' s
  | .ex _ _ s' => TL s' s
  | .rt _ s' => TL s' s
  | .bk s' => TL s' s
  | .ct s' => TL s' s
  | .no => True
theorem TL.refl {s : S} : TL s s := fun _ h => h
theorem TL.trans {a b c : S} (h : TL a b) (k : TL b c) : TL a c := fun i q => k i (h i q)
theorem RT.le {α : Type} {s s1 : S} {r : R α} (k : TL s1 s) (h : RT s1 r) : RT s r := by
  cases r with
  | ok v s' => exact TL.trans h k
  | ex c fs s' => exact TL.trans h k
  | no => trivial
theorem OT.le {s s1 : S} {r : O} (k : TL s1 s) (h : OT s1 r) : OT s r := by
  cases r <;> first | exact TL.trans h k | trivial
theorem RT.bind {α β : Type} {s : S} {r : R α} {f : α → S → R β} (h : RT s r) (k : ∀ v s', RT s' (f v s')) : RT s (r.bind f) := by
  cases r with
  | ok v s' => exact (k v s').le h
  | ex c fs s' => exact h
  | no => trivial
theorem RT.ofO {α : Type} {s : S} {o : Option α} : RT s (R.ofO o s) := by
  cases o with
  | none => trivial
  | some a => exact TL.refl
theorem Tg.of_set {s : S} {i j : Nat} {o : Option Vl} (h : Tg (s.set i o) j) : (j ≠ i ∧ Tg s j) ∨ (j = i ∧ i < s.length ∧ ∃ ys, o = some (.own true ys) ∨ o = some (.fz ys)) := by
  obtain ⟨ys, h⟩ := h
  by_cases e : i = j
  · subst e
    have hl : i < s.length := by
      rcases h with h | h
      · have := (List.getElem?_eq_some_iff.mp h).1
        simpa using this
      · have := (List.getElem?_eq_some_iff.mp h).1
        simpa using this
    rw [List.getElem?_set_self hl] at h
    exact .inr ⟨rfl, hl, ys, by simpa using h⟩
  · rw [List.getElem?_set_ne e] at h
    exact .inl ⟨fun z => e z.symm, ys, h⟩
theorem TL.set {s : S} {i : Nat} {o : Option Vl} (h : ∀ ys, (o = some (.own true ys) ∨ o = some (.fz ys)) → i < s.length → Tg s i) : TL (s.set i o) s := fun j q => by
  rcases q.of_set with ⟨_, q⟩ | ⟨rfl, l, ys, e⟩
  · exact q
  · exact h ys e l
theorem TL.d {s : S} {i : Nat} {x : D} : TL (s.set i (some (.d x))) s := TL.set fun ys e _ => by rcases e with e | e <;> cases e
theorem TL.none {s : S} {i : Nat} : TL (s.set i none) s := TL.set fun ys e _ => by rcases e with e | e <;> cases e
theorem rt_rdV (i : Nat) (s : S) : RT s (rdV i s) := by
  unfold rdV
  split
  · exact TL.refl
  · rename_i xs e
    exact TL.set fun ys q l => ⟨xs, .inl e⟩
  · exact TL.d
  · exact TL.refl
  · trivial
theorem tl_back : ∀ (vs : List Ag) (os : List (Option Vl)) (s : S), TL (back vs os s) s
  | [], os, s => by unfold back; exact TL.refl
  | .ref i :: r, [], s => TL.refl
  | .val _ :: r, [], s => TL.refl
  | .ref i :: r, o :: os, s => by
    have key : TL (match s[i]? with | some (some (.own tag _)) => s.set i (back1 o tag) | _ => s) s := by
      split
      · rename_i tag xs e
        refine TL.set fun ys q l => ?_
        cases tag with
        | true => exact ⟨xs, .inl e⟩
        | false =>
          exfalso
          unfold back1 at q
          split at q
          · rcases q with q | q <;> cases q
          · rcases q with q | q <;> cases q
          · rcases q with q | q <;> cases q
      · exact TL.refl
    exact (tl_back r os _).trans key
  | .val v :: r, o :: os, s => tl_back r os s
theorem tl_wipe {s : S} : ∀ {own : List Nat}, TL (wipeS s own) s
  | [] => TL.refl
  | i :: r => TL.none.trans (tl_wipe (own := r))
theorem tl_unwipe {s0 s : S} : ∀ {own : List Nat}, TL (unwipe s0 s own) s
  | [] => TL.refl
  | i :: r => by
    refine TL.trans (TL.set fun ys e l => ?_) (tl_unwipe (own := r))
    split at e <;> rcases e with e | e <;> cases e
theorem tl_compL {step : D → S → Option (Option D × S)} (h : ∀ x s y s', step x s = some (y, s') → TL s' s) : ∀ {xs : List D} {s : S} {ys : List D} {s' : S}, compL step xs s = some (ys, s') → TL s' s
  | [], s, ys, s', e => by cases e; exact TL.refl
  | x :: r, s, ys, s', e => by
    unfold compL at e
    split at e
    · cases e
    · rename_i y s1 e1
      split at e
      · cases e
      · rename_i zs s2 e2
        cases e
        exact (tl_compL h e2).trans (h _ _ _ _ e1)
structure TagA (Φ : Call) (t : T) : Prop where
  E : ∀ s, RT s (evE Φ t s)
  L : ∀ s, RT s (evL Φ t s)
  A : ∀ s, RT s (evA Φ t s)
  V : ∀ s, RT s (evV Φ t s)
  P : ∀ s, RT s (evP Φ t s)
  I : ∀ s, RT s (evI Φ t s)
  B : ∀ x s, OT s (bindP Φ t x s)
  Bs : ∀ xs s, OT s (bindPs Φ t xs s)
variable {Φ : Call}
theorem TagA.only {t : T} (E : ∀ s, RT s (evE Φ t s)) (L : ∀ s, evL Φ t s = .no) (A : ∀ s, evA Φ t s = .no) (V : ∀ s, evV Φ t s = .no) (P : ∀ s, evP Φ t s = .no) (I : ∀ s, evI Φ t s = .no) (B : ∀ x s, bindP Φ t x s = .no) (Bs : ∀ x s, bindPs Φ t x s = .no) : TagA Φ t :=
  ⟨E, fun s => by rw [L]; trivial, fun s => by rw [A]; trivial, fun s => by rw [V]; trivial, fun s => by rw [P]; trivial, fun s => by rw [I]; trivial, fun x s => by rw [B]; trivial, fun x s => by rw [Bs]; trivial⟩
theorem TagA.onlyE {t : T} (E : ∀ s, RT s (evE Φ t s)) (L : ∀ s, evL Φ t s = .no := by intros; rfl) (A : ∀ s, evA Φ t s = .no := by intros; rfl) (V : ∀ s, evV Φ t s = .no := by intros; rfl) (P : ∀ s, evP Φ t s = .no := by intros; rfl) (I : ∀ s, evI Φ t s = .no := by intros; rfl) (B : ∀ x s, bindP Φ t x s = .no := by intros; rfl) (Bs : ∀ x s, bindPs Φ t x s = .no := by intros; rfl) : TagA Φ t := TagA.only E L A V P I B Bs
theorem rt_ite {α : Type} {s : S} {b : Bool} {v : α} {s' : S} (h : TL s' s) : RT s (if b = true then .ok v s' else .no) := by
  split
  · exact h
  · trivial
theorem ta : ∀ t, TagA Φ t := fun t => by
  induction t with
  | var i => exact ⟨fun s => rt_rdV i s, fun _ => trivial, fun _ => trivial, fun _ => trivial, fun _ => trivial, fun _ => trivial, fun x s => by
      show OT s (if i < s.length then .nx (s.set i (some (.d x))) else .no)
      split
      · exact TL.d
      · trivial, fun xs s => by cases xs <;> trivial⟩
  | con x => exact .onlyE fun s => TL.refl
  | nil => exact ⟨fun _ => trivial, fun _ => TL.refl, fun _ => TL.refl, fun _ => TL.refl, fun _ => TL.refl, fun _ => trivial, fun _ _ => trivial, fun xs s => by
      cases xs with
      | nil => exact TL.refl
      | cons x xs => trivial⟩
  | cons a r ha hr =>
    refine ⟨fun _ => trivial, fun s => (ha.E s).bind fun x s1 => (hr.L s1).bind fun _ s2 => TL.refl, fun s => ?_, fun s => (ha.E s).bind fun x s1 => (hr.V s1).bind fun _ s2 => TL.refl, fun _ => trivial, fun _ => trivial, fun _ _ => trivial, fun xs s => ?_⟩
    · have gen : RT s ((evE Φ a s).bind fun x s => (evA Φ r s).bind fun vs s => .ok (.val x :: vs) s) := (ha.E s).bind fun x s1 => (hr.A s1).bind fun _ s2 => TL.refl
      cases a with
      | var i =>
        show RT s (match s[i]? with
          | some (some (.own _ _)) => (evA Φ r s).bind fun vs s => .ok (.ref i :: vs) s
          | _ => (rdV i s).bind fun x s => (evA Φ r s).bind fun vs s => .ok (.val x :: vs) s)
        split
        · exact (hr.A s).bind fun _ _ => TL.refl
        · exact gen
      | _ => exact gen
    · cases xs with
      | nil => trivial
      | cons x xs =>
        show OT s (match bindP Φ a x s with
          | .nx s => bindPs Φ r xs s
          | o => o)
        have h := ha.B x s
        split
        · rename_i s1 e
          rw [e] at h
          exact (hr.Bs xs s1).le h
        · exact h
  | star a r ha hr =>
    refine ⟨fun _ => trivial, fun s => ?_, fun _ => trivial, fun _ => trivial, fun _ => trivial, fun _ => trivial, fun _ _ => trivial, fun xs s => by cases xs <;> trivial⟩
    have gen : RT s ((evE Φ a s).bind fun x s => match items x.dat with
      | some ys => (evL Φ r s).bind fun xs s => .ok (ys ++ xs) s
      | none => .no) := (ha.E s).bind fun x s1 => by
        split
        · exact (hr.L s1).bind fun _ _ => TL.refl
        · trivial
    cases a with
    | var i =>
      show RT s (match (peek i s).bind items with
        | some ys => (evL Φ r s).bind fun xs s => .ok (ys ++ xs) s
        | none => .no)
      split
      · exact (hr.L s).bind fun _ _ => TL.refl
      · trivial
    | _ => exact gen
  | bin op a b ha hb => exact .onlyE fun s => (ha.E s).bind fun x s1 => (hb.E s1).bind fun y s2 => RT.ofO
  | neg a ha =>
    exact .onlyE fun s => (ha.E s).bind fun x s1 => by
      split
      · exact TL.refl
      · trivial
  | nt a ha => exact .onlyE fun s => (ha.E s).bind fun x s1 => RT.ofO
  | cmp op a b ha hb => exact .onlyE fun s => (ha.E s).bind fun x s1 => (hb.E s1).bind fun y s2 => RT.ofO
  | chain op op' a b c ha hb hc =>
    exact .onlyE fun s => (ha.E s).bind fun x s1 => (hb.E s1).bind fun y s2 => by
      split
      · exact (hc.E s2).bind fun _ _ => RT.ofO
      · exact TL.refl
      · trivial
  | and a b ha hb =>
    exact .onlyE fun s => (ha.E s).bind fun x s1 => by
      split
      · exact hb.E s1
      · exact TL.refl
      · trivial
  | or a b ha hb =>
    exact .onlyE fun s => (ha.E s).bind fun x s1 => by
      split
      · exact TL.refl
      · exact hb.E s1
      · trivial
  | ite c a b hc ha hb =>
    exact .onlyE fun s => (hc.E s).bind fun x s1 => by
      split
      · exact ha.E s1
      · exact hb.E s1
      · trivial
  | tup es h =>
    refine ⟨fun s => (h.L s).bind fun x s1 => rt_ite TL.refl, fun _ => trivial, fun _ => trivial, fun _ => trivial, fun _ => trivial, fun _ => trivial, fun x s => ?_, fun xs s => by cases xs <;> trivial⟩
    cases x with
    | tup xs =>
      show OT s (if plainLen es = some xs.length then bindPs Φ es xs s else .no)
      split
      · exact h.Bs xs s
      · trivial
    | _ => trivial
  | lst es h => exact .onlyE fun s => (h.L s).bind fun x s1 => rt_ite TL.refl
  | idx a e ha he =>
    refine ⟨fun s => ?_, fun _ => trivial, fun _ => trivial, fun _ => trivial, fun _ => trivial, fun _ => trivial, fun x s => ?_, fun xs s => by cases xs <;> trivial⟩
    · have gen : RT s ((evE Φ a s).bind fun x s => (evE Φ e s).bind fun y s => R.ofO ((index x.dat y.dat).map Vl.d) s) := (ha.E s).bind fun x s1 => (he.E s1).bind fun _ _ => RT.ofO
      cases a with
      | var i =>
        show RT s (match peek i s with
          | none => .no
          | some _ => (evE Φ e s).bind fun y s => match peek i s with
            | some x => R.ofO ((index x y.dat).map Vl.d) s
            | none => .no)
        split
        · trivial
        · refine (he.E s).bind fun y s1 => ?_
          split
          · exact RT.ofO
          · trivial
      | _ => exact gen
    · cases a with
      | var i =>
        show OT s (match peek i s with
          | none => .no
          | some _ => match evE Φ e s with
            | .ok (.d (.int k)) s => (match s[i]? with
              | some (some (.own tag xs)) => if 0 ≤ k && k.toNat < xs.length then .nx (s.set i (some (.own tag (xs.set k.toNat x)))) else .no
              | _ => .no)
            | .ex c fs s => .ex c fs s
            | _ => .no)
        have h := he.E s
        split
        · trivial
        · split
          · rename_i k s1 e1
            rw [e1] at h
            split
            · rename_i tag xs e2
              split
              · exact TL.trans (TL.set fun ys q l => by
                  rcases q with q | q
                  · cases q; exact ⟨xs, .inl e2⟩
                  · cases q) h
              · trivial
            · trivial
          · rename_i c fs s1 e1
            rw [e1] at h
            exact h
          · trivial
      | _ => trivial
  | slc a lo hi ha hl hh => exact .onlyE fun s => (ha.E s).bind fun x s1 => (hl.P s1).bind fun _ s2 => (hh.P s2).bind fun _ _ => RT.ofO
  | sl1 a ha => exact .onlyE fun s => (ha.E s).bind fun x s1 => RT.ofO
  | mem n a b ha hb =>
    refine .onlyE fun s => ?_
    have gen : RT s ((evE Φ a s).bind fun x s => (evE Φ b s).bind fun y s => R.ofO (memV n x.dat y.dat) s) := (ha.E s).bind fun x s1 => (hb.E s1).bind fun y s2 => RT.ofO
    cases b with
    | var i =>
      show RT s ((evE Φ a s).bind fun x s => match peek i s with
        | some y => R.ofO (memV n x.dat y) s
        | none => .no)
      refine (ha.E s).bind fun x s1 => ?_
      split
      · exact RT.ofO
      · trivial
    | _ => exact gen
  | call f args h =>
    exact .onlyE fun s => (h.A s).bind fun vs s1 => by
      split
      · trivial
      · split
        · exact tl_back _ _ _
        · exact tl_back _ _ _
        · trivial
  | callk f perm args kw h hk =>
    exact .onlyE fun s => (h.L s).bind fun vs s1 => (hk.L s1).bind fun ws s2 => by
      split
      · exact TL.refl
      · exact TL.refl
      · trivial
  | popE i e he =>
    refine .onlyE fun s => ?_
    have gen : RT s (match s[i]? with
      | some (some (.own _ _)) => (evE Φ e s).bind fun v s => popR i v s
      | _ => .no) := by
      split
      · refine (he.E s).bind fun v s1 => ?_
        unfold popR
        split
        · rename_i tag xs k e2
          split
          · split
            · exact TL.set fun ys q l => by
                rcases q with q | q
                · cases q; exact ⟨xs, .inl e2⟩
                · cases q
            · trivial
          · trivial
        · trivial
      · trivial
    cases e with
    | nil =>
      show RT s (match s[i]? with
        | some (some (.own tag xs)) => (match xs.getLast? with
          | some y => R.ok (Vl.d y) (s.set i (some (.own tag xs.dropLast)))
          | none => .no)
        | _ => .no)
      split
      · rename_i tag xs e2
        split
        · exact TL.set fun ys q l => by
            rcases q with q | q
            · cases q; exact ⟨xs, .inl e2⟩
            · cases q
        · trivial
      · trivial
    | _ => exact gen
  | lrg t args h => exact .onlyE fun s => (h.L s).bind fun xs s1 => RT.ofO
  | bf b args h =>
    refine .onlyE fun s => ?_
    have gen : RT s ((evL Φ args s).bind fun xs s => R.ofO (bf1 b xs) s) := (h.L s).bind fun _ _ => RT.ofO
    cases args with
    | cons a r =>
      cases a with
      | var i =>
        cases r with
        | nil =>
          show RT s (match peek i s with
            | some x => R.ofO (bf1 b [x]) s
            | none => .no)
          split
          · exact RT.ofO
          · trivial
        | _ => exact gen
      | _ => exact gen
    | _ => exact gen
  | comp own p it c e hp hi hc he =>
    have stp : ∀ (x : MI.D) (s : S) (y : Option MI.D) (s' : S), (match bindP Φ p x s with
        | .nx s => (match evE Φ c s with
          | .ok b s => (match tru b.dat with
            | some true => (match evE Φ e s with
              | .ok v s => some (some v.dat, wipeS s own)
              | _ => none)
            | some false => some (none, wipeS s own)
            | none => none)
          | _ => none)
        | _ => none) = some (y, s') → TL s' s := fun x s y s' q => by
      have h1 := hp.B x s
      split at q
      · rename_i s3 e3
        rw [e3] at h1
        have h2 := hc.E s3
        split at q
        · rename_i b s4 e4
          rw [e4] at h2
          split at q
          · have h3 := he.E s4
            split at q
            · rename_i v s5 e5
              rw [e5] at h3
              cases q
              exact tl_wipe.trans (h3.trans (TL.trans h2 h1))
            · cases q
          · cases q
            exact tl_wipe.trans (TL.trans h2 h1)
          · cases q
        · cases q
      · cases q
    refine .onlyE fun s => ?_
    show RT s (match ownIt it s with
      | some (i, tag, xs) => _
      | none => _)
    split
    · rename_i i tag xs eo
      have es : s[i]? = some (some (.own tag xs)) := by
        unfold ownIt at eo
        split at eo
        · split at eo
          · rename_i e; cases eo; exact e
          · cases eo
        · cases eo
      split
      · rename_i ys s2 h
        have tl : TL (unwipe (s.set i none) s2 own) s := tl_unwipe.trans ((tl_compL stp h).trans (tl_wipe.trans TL.none))
        refine rt_ite fun j q => ?_
        rcases q.of_set with ⟨_, q⟩ | ⟨rfl, _, zs, q⟩
        · exact tl j q
        · rcases q with q | q
          · cases q; exact ⟨xs, .inl es⟩
          · cases q
      · trivial
    · refine (hi.I s).bind fun xs s1 => ?_
      split
      · rename_i ys s2 h
        exact rt_ite (tl_unwipe.trans ((tl_compL stp h).trans tl_wipe))
      · trivial
  | part a ha =>
    exact ⟨fun _ => trivial, fun _ => trivial, fun _ => trivial, fun _ => trivial, fun s => (ha.E s).bind fun x s1 => by
      split
      · exact TL.refl
      · trivial, fun _ => trivial, fun _ _ => trivial, fun xs s => by cases xs <;> trivial⟩
  | it a ha =>
    exact ⟨fun _ => trivial, fun _ => trivial, fun _ => trivial, fun _ => trivial, fun _ => trivial, fun s => (ha.E s).bind fun x s1 => by
      split
      · exact TL.refl
      · trivial, fun _ _ => trivial, fun xs s => by cases xs <;> trivial⟩
  | itv i =>
    exact ⟨fun _ => trivial, fun _ => trivial, fun _ => trivial, fun _ => trivial, fun _ => trivial, fun s => (rt_rdV i s).bind fun x s1 => by
      split
      · exact TL.refl
      · trivial, fun _ _ => trivial, fun xs s => by cases xs <;> trivial⟩
  | enum a ha =>
    exact ⟨fun _ => trivial, fun _ => trivial, fun _ => trivial, fun _ => trivial, fun _ => trivial, fun s => (ha.E s).bind fun x s1 => by
      split
      · exact TL.refl
      · exact TL.refl
      · trivial, fun _ _ => trivial, fun xs s => by cases xs <;> trivial⟩
  | zip a b ha hb =>
    exact ⟨fun _ => trivial, fun _ => trivial, fun _ => trivial, fun _ => trivial, fun _ => trivial, fun s => (ha.E s).bind fun x s1 => (hb.E s1).bind fun y s2 => by
      split
      · exact TL.refl
      · exact TL.refl
      · trivial, fun _ _ => trivial, fun xs s => by cases xs <;> trivial⟩
  | rng args h =>
    refine ⟨fun _ => trivial, fun _ => trivial, fun _ => trivial, fun _ => trivial, fun _ => trivial, fun s => ?_, fun _ _ => trivial, fun xs s => by cases xs <;> trivial⟩
    cases args with
    | cons a r =>
      cases r with
      | nil =>
        have h := h.L s
        replace h : RT s ((evE Φ a s).bind fun x s => (R.ok [] s : R (List D)).bind fun xs s => .ok (x.dat :: xs) s) := h
        show RT s ((evE Φ a s).bind fun x s => match x with
          | .d (.int j) => if in62 j then .ok (rangeL 0 j.toNat) s else .no
          | _ => .no)
        cases e : evE Φ a s with
        | no => trivial
        | ex c fs s1 => rw [e] at h; exact h
        | ok v s1 =>
          rw [e] at h
          have h : TL s1 s := h
          show RT s (match v with
            | .d (.int j) => if in62 j then .ok (rangeL 0 j.toNat) s1 else .no
            | _ => .no)
          split
          · exact rt_ite h
          · trivial
      | cons b r =>
        cases r with
        | nil =>
          have h := h.L s
          replace h : RT s ((evE Φ a s).bind fun x s => ((evE Φ b s).bind fun x s => (R.ok [] s : R (List D)).bind fun xs s => .ok (x.dat :: xs) s).bind fun xs s => .ok (x.dat :: xs) s) := h
          show RT s ((evE Φ a s).bind fun x s => (evE Φ b s).bind fun y s => match x, y with
            | .d (.int i), .d (.int j) => if in62 i && in62 j then .ok (rangeL i (j - i).toNat) s else .no
            | _, _ => .no)
          cases e : evE Φ a s with
          | no => trivial
          | ex c fs s1 => rw [e] at h; exact h
          | ok v s1 =>
            rw [e] at h
            replace h : RT s (((evE Φ b s1).bind fun x s => (R.ok [] s : R (List D)).bind fun xs s => .ok (x.dat :: xs) s).bind fun xs s => .ok (v.dat :: xs) s) := h
            show RT s ((evE Φ b s1).bind fun y s => match v, y with
              | .d (.int i), .d (.int j) => if in62 i && in62 j then .ok (rangeL i (j - i).toNat) s else .no
              | _, _ => .no)
            cases e : evE Φ b s1 with
            | no => trivial
            | ex c fs s2 => rw [e] at h; exact h
            | ok w s2 =>
              rw [e] at h
              have h : TL s2 s := h
              show RT s (match v, w with
                | .d (.int i), .d (.int j) => if in62 i && in62 j then .ok (rangeL i (j - i).toNat) s2 else .no
                | _, _ => .no)
              split
              · exact rt_ite h
              · trivial
        | cons c r =>
          cases r with
          | nil =>
            have h := h.L s
            replace h : RT s ((evE Φ a s).bind fun x s => ((evE Φ b s).bind fun x s => ((evE Φ c s).bind fun x s => (R.ok [] s : R (List D)).bind fun xs s => .ok (x.dat :: xs) s).bind fun xs s => .ok (x.dat :: xs) s).bind fun xs s => .ok (x.dat :: xs) s) := h
            show RT s ((evE Φ a s).bind fun x s => (evE Φ b s).bind fun y s => (evE Φ c s).bind fun z s => match x, y, z with
              | .d (.int i), .d (.int j), .d (.int k) => if rg3Ok i j k then .ok (rangeL3 i k (PySem.Builtin.Range.rangeSize i j k).toNat) s else .no
              | _, _, _ => .no)
            cases e : evE Φ a s with
            | no => trivial
            | ex c fs s1 => rw [e] at h; exact h
            | ok v s1 =>
              rw [e] at h
              replace h : RT s (((evE Φ b s1).bind fun x s => ((evE Φ c s).bind fun x s => (R.ok [] s : R (List D)).bind fun xs s => .ok (x.dat :: xs) s).bind fun xs s => .ok (x.dat :: xs) s).bind fun xs s => .ok (v.dat :: xs) s) := h
              show RT s ((evE Φ b s1).bind fun y s => (evE Φ c s).bind fun z s => match v, y, z with
                | .d (.int i), .d (.int j), .d (.int k) => if rg3Ok i j k then .ok (rangeL3 i k (PySem.Builtin.Range.rangeSize i j k).toNat) s else .no
                | _, _, _ => .no)
              cases e : evE Φ b s1 with
              | no => trivial
              | ex c fs s2 => rw [e] at h; exact h
              | ok w s2 =>
                rw [e] at h
                replace h : RT s ((((evE Φ c s2).bind fun x s => (R.ok [] s : R (List D)).bind fun xs s => .ok (x.dat :: xs) s).bind fun xs s => .ok (w.dat :: xs) s).bind fun xs s => .ok (v.dat :: xs) s) := h
                show RT s ((evE Φ c s2).bind fun z s => match v, w, z with
                  | .d (.int i), .d (.int j), .d (.int k) => if rg3Ok i j k then .ok (rangeL3 i k (PySem.Builtin.Range.rangeSize i j k).toNat) s else .no
                  | _, _, _ => .no)
                cases e : evE Φ c s2 with
                | no => trivial
                | ex c fs s3 => rw [e] at h; exact h
                | ok u s3 =>
                  rw [e] at h
                  have h : TL s3 s := h
                  show RT s (match v, w, u with
                    | .d (.int i), .d (.int j), .d (.int k) => if rg3Ok i j k then .ok (rangeL3 i k (PySem.Builtin.Range.rangeSize i j k).toNat) s3 else .no
                    | _, _, _ => .no)
                  split
                  · exact rt_ite h
                  · trivial
          | _ => trivial
        | _ => trivial
      | _ => trivial
    | _ => trivial
  | _ => exact ⟨fun _ => trivial, fun _ => trivial, fun _ => trivial, fun _ => trivial, fun _ => trivial, fun _ => trivial, fun _ _ => trivial, fun xs s => by cases xs <;> trivial⟩
theorem rt_ok {α : Type} {s s' : S} {r : R α} {v : α} (h : RT s r) (e : r = .ok v s') : TL s' s := by rw [e] at h; exact h
theorem rt_ex {α : Type} {s s' : S} {r : R α} {c : Nat} {fs : List D} (h : RT s r) (e : r = .ex c fs s') : TL s' s := by rw [e] at h; exact h
variable {t : T} {s s' : S} {c : Nat} {fs : List D}
theorem tlE {v : Vl} (e : evE Φ t s = .ok v s') : TL s' s := rt_ok ((ta t).E s) e
theorem tlEx (e : evE Φ t s = .ex c fs s') : TL s' s := rt_ex ((ta t).E s) e
theorem tlV {v : List Vl} (e : evV Φ t s = .ok v s') : TL s' s := rt_ok ((ta t).V s) e
theorem tlVx (e : evV Φ t s = .ex c fs s') : TL s' s := rt_ex ((ta t).V s) e
theorem tlI {v : List D} (e : evI Φ t s = .ok v s') : TL s' s := rt_ok ((ta t).I s) e
theorem tlIx (e : evI Φ t s = .ex c fs s') : TL s' s := rt_ex ((ta t).I s) e
end MI

set_option Elab.async false
set_option linter.all false
set_option maxRecDepth 100000
set_option maxHeartbeats 4000000
/-! What the small evaluator's values and slots stand for; what a piece's reading is. -/
namespace MI
open PySem PySem.Spec PyProof.Rows L2

/-- the written part; where the functions and the classes of the text stand -/
structure G where
  K : PySem.W.Frag
  fa : Nat → Addr
  ca : Nat → Addr

/-- a list that can be read: told of, or the module's own -/
def SqP (K : PySem.W.Frag) (H : Hp) (a : Addr) (xs : List V) : Prop :=
  Rd H a (.lst xs) ∨ ∃ (its : Array Value) (n : Nat), K.lookup a = some { cls := .type "list", dict := none, data := .seq its n, slots := #[] } ∧ its.size ≤ sizeLine ∧ Vals xs its.toList
theorem SqP.sq {K : PySem.W.Frag} {H : Hp} {a : Addr} {xs : List V} (h : SqP K H a xs) : SqL K H a xs := by
  rcases h with h | ⟨its, n, h1, h2, h3⟩
  · exact .inl h
  · exact .inr ⟨_, its, n, h1, rfl, rfl, rfl, h2, h3⟩
mutual
inductive RD (g : G) (Z : Hp) : D → V → Prop where
  | non : RD g Z .non .non
  | bl (b : Bool) : RD g Z (.bl b) (.bl b)
  | int (i : Int) : RD g Z (.int i) (.int i)
  | str (x : Str) : RD g Z (.str x) (.str x)
  | ty (n : String) : RD g Z (.ty n) (.ty n)
  | fn (k : Nat) : RD g Z (.fn k) (.ref (g.fa k))
  | cl (k : Nat) : RD g Z (.cl k) (.ref (g.ca k))
  | lst {a : Addr} {xs : List D} {vs : List V} : SqP g.K Z a vs → RDs g Z xs vs → RD g Z (.lst xs) (.ref a)
  | tup {a : Addr} {xs : List D} {vs : List V} : SqT g.K Z a vs → RDs g Z xs vs → RD g Z (.tup xs) (.ref a)
inductive RDs (g : G) (Z : Hp) : List D → List V → Prop where
  | nil : RDs g Z [] []
  | cons {x : D} {v : V} {xs : List D} {vs : List V} : RD g Z x v → RDs g Z xs vs → RDs g Z (x :: xs) (v :: vs)
end

theorem rd_mono {H H' : Hp} {a : Addr} {u : HO} (e : Same H H') (h : Rd H a u) : Rd H' a u := by
  rcases h with h | ⟨o, h⟩
  · exact .inl (e a _ h)
  · exact .inr ⟨o, e a _ h⟩
theorem sqP_mono {K : PySem.W.Frag} {H H' : Hp} {a : Addr} {xs : List V} (e : Same H H') (h : SqP K H a xs) : SqP K H' a xs := h.imp (rd_mono e) id
theorem sqT_mono {K : PySem.W.Frag} {H H' : Hp} {a : Addr} {xs : List V} (e : Same H H') (h : SqT K H a xs) : SqT K H' a xs := by
  rcases h with (h | ⟨o, h⟩) | h
  · exact .inl (.inl (e a _ h))
  · exact .inl (.inr ⟨o, e a _ h⟩)
  · exact .inr h

section
variable {g : G} {Z Z' H H' : Hp}
mutual
theorem RD.mono (e : Same Z Z') : ∀ {x : D} {v : V}, RD g Z x v → RD g Z' x v
  | _, _, .non => .non
  | _, _, .bl b => .bl b
  | _, _, .int i => .int i
  | _, _, .str x => .str x
  | _, _, .ty n => .ty n
  | _, _, .fn k => .fn k
  | _, _, .cl k => .cl k
  | _, _, .lst h r => .lst (sqP_mono e h) (RDs.mono e r)
  | _, _, .tup h r => .tup (sqT_mono e h) (RDs.mono e r)
theorem RDs.mono (e : Same Z Z') : ∀ {xs : List D} {vs : List V}, RDs g Z xs vs → RDs g Z' xs vs
  | _, _, .nil => .nil
  | _, _, .cons h r => .cons (RD.mono e h) (RDs.mono e r)
end
theorem RDs.length : ∀ {xs : List D} {vs : List V}, RDs g Z xs vs → xs.length = vs.length
  | _, _, .nil => rfl
  | _, _, .cons _ r => by rw [List.length_cons, List.length_cons, RDs.length r]
theorem RDs.get : ∀ {xs : List D} {vs : List V} {i : Nat} {x : D}, RDs g Z xs vs → xs[i]? = some x → ∃ v, vs[i]? = some v ∧ RD g Z x v
  | _, _, _, _, .nil, e => by simp at e
  | _, _, 0, _, .cons r _, e => by simp at e; subst e; exact ⟨_, rfl, r⟩
  | _, _, i + 1, x, .cons _ t, e => by
    obtain ⟨u, h1, h2⟩ := RDs.get (i := i) (x := x) t (by simpa using e)
    exact ⟨u, by simpa using h1, h2⟩
theorem RDs.getV : ∀ {xs : List D} {vs : List V} {i : Nat} {v : V}, RDs g Z xs vs → vs[i]? = some v → ∃ x, xs[i]? = some x ∧ RD g Z x v
  | _, _, _, _, .nil, e => by simp at e
  | _, _, 0, _, .cons r _, e => by simp at e; subst e; exact ⟨_, rfl, r⟩
  | _, _, i + 1, v, .cons _ t, e => by
    obtain ⟨u, h1, h2⟩ := RDs.getV (i := i) (v := v) t (by simpa using e)
    exact ⟨u, by simpa using h1, h2⟩
theorem RDs.append : ∀ {xs ys : List D} {vs ws : List V}, RDs g Z xs vs → RDs g Z ys ws → RDs g Z (xs ++ ys) (vs ++ ws)
  | _, _, _, _, .nil, s => s
  | _, _, _, _, .cons r t, s => .cons r (RDs.append t s)
theorem RDs.take : ∀ {xs : List D} {vs : List V} (n : Nat), RDs g Z xs vs → RDs g Z (xs.take n) (vs.take n)
  | _, _, 0, _ => .nil
  | _, _, _ + 1, .nil => .nil
  | _, _, n + 1, .cons r t => .cons r (RDs.take n t)
theorem RDs.drop : ∀ {xs : List D} {vs : List V} (n : Nat), RDs g Z xs vs → RDs g Z (xs.drop n) (vs.drop n)
  | _, _, 0, r => r
  | _, _, _ + 1, .nil => .nil
  | _, _, n + 1, .cons _ t => RDs.drop n t
theorem RDs.set {x : D} {v : V} (r : RD g Z x v) : ∀ {xs : List D} {vs : List V} (i : Nat), RDs g Z xs vs → RDs g Z (xs.set i x) (vs.set i v)
  | _, _, _, .nil => .nil
  | _, _, 0, .cons _ t => .cons r t
  | _, _, i + 1, .cons q t => .cons q (RDs.set r i t)
theorem RDs.rep {xs : List D} {vs : List V} (r : RDs g Z xs vs) : ∀ n : Nat, RDs g Z (List.replicate n xs).flatten (List.replicate n vs).flatten
  | 0 => .nil
  | n + 1 => by
    rw [List.replicate_succ, List.replicate_succ, List.flatten_cons, List.flatten_cons]
    exact r.append (RDs.rep r n)
theorem RDs.empty {xs : List D} {vs : List V} (r : RDs g Z xs vs) : xs.isEmpty = vs.isEmpty := by cases r <;> rfl

/-! the data that the library compares -/
mutual
theorem RD.dp (e : Same Z H) : ∀ {x : D} {v : V} {d : PyData}, RD g Z x v → toPy x = some d → Dp g.K H v d
  | _, _, _, .non, h => by cases h; exact .non
  | _, _, _, .bl b, h => by cases h; exact .bl b
  | _, _, _, .int i, h => by cases h; exact .int i
  | _, _, _, .str x, h => by cases h; exact .str x
  | _, _, _, .ty _, h => by simp [toPy] at h
  | _, _, _, .fn _, h => by simp [toPy] at h
  | _, _, _, .cl _, h => by simp [toPy] at h
  | _, _, _, .lst (xs := xs) h r, q => by
    simp only [toPy, Option.map_eq_some_iff] at q
    obtain ⟨ds, q, rfl⟩ := q
    exact .lst (sqP_mono e h).sq (RDs.dp e r q)
  | _, _, _, .tup (xs := xs) h r, q => by
    simp only [toPy, Option.map_eq_some_iff] at q
    obtain ⟨ds, q, rfl⟩ := q
    exact .tup (sqT_mono e h) (RDs.dp e r q)
theorem RDs.dp (e : Same Z H) : ∀ {xs : List D} {vs : List V} {ds : List PyData}, RDs g Z xs vs → toPys xs = some ds → DpAll g.K H vs ds
  | _, _, _, .nil, h => by cases h; exact .nil
  | _, _, _, .cons (x := x) (xs := xs) h r, q => by
    simp only [toPys] at q
    split at q
    · rename_i d ds h1 h2
      cases q
      exact .cons (RD.dp e h h1) (RDs.dp e r h2)
    · cases q
end
end

/-! ### slots -/
def RV (g : G) (Z H : Hp) : Vl → V → Prop
  | .d x, v => RD g Z x v
  | .fz xs, v => RD g Z (.lst xs) v
  | .own _ xs, v => ∃ a vs, v = .ref a ∧ H a = some (.lst vs) ∧ Z a = none ∧ RDs g Z xs vs
def Own (s : S) (σ : L2.St) (a : Addr) : Prop := ∃ (i : Nat) (tag : Bool) (xs : List D), s[i]? = some (some (.own tag xs)) ∧ σ[i]? = some (some (.ref a))
structure Sr (g : G) (Z : Hp) (s : S) (σ : L2.St) (H : Hp) : Prop where
  len : s.length = σ.length
  sub : Same Z H
  rel : ∀ (i : Nat) (v : Vl), s[i]? = some (some v) → ∃ x, σ[i]? = some (some x) ∧ RV g Z H v x
  inj : ∀ (i j : Nat) (t u : Bool) (xs ys : List D) (a : Addr), s[i]? = some (some (.own t xs)) → s[j]? = some (some (.own u ys)) → σ[i]? = some (some (.ref a)) → σ[j]? = some (some (.ref a)) → i = j
/-- from Z, H to Z', H': what is told stays, the objects but the lists at O stay -/
structure Keep (Z H : Hp) (O : Addr → Prop) (Z' H' : Hp) : Prop where
  z : Same Z Z'
  h : ∀ a o, H a = some o → ¬ O a → H' a = some o
  n : ∀ a o, H a = some o → ¬ O a → Z a = none → Z' a = none
  f : ∀ a, H' a = none → H a = none
theorem Keep.trans {Z H Z1 H1 Z2 H2 : Hp} {O O1 : Addr → Prop} (a : Keep Z H O Z1 H1) (b : Keep Z1 H1 O1 Z2 H2) (o : ∀ x, O1 x → O x) : Keep Z H O Z2 H2 where
  z := a.z.trans b.z
  h := fun x u e k => b.h x u (a.h x u e k) fun q => k (o x q)
  n := fun x u e k z => b.n x u (a.h x u e k) (fun q => k (o x q)) (a.n x u e k z)
  f := fun x e => a.f x (b.f x e)
theorem Keep.refl {Z H : Hp} {O : Addr → Prop} : Keep Z H O Z H := ⟨Same.refl _, fun _ _ e _ => e, fun _ _ _ _ z => z, fun _ e => e⟩
theorem Keep.wide {Z H Z1 H1 : Hp} {O O1 : Addr → Prop} (a : Keep Z H O Z1 H1) (o : ∀ x, O x → O1 x) : Keep Z H O1 Z1 H1 :=
  ⟨a.z, fun x u e k => a.h x u e fun q => k (o x q), fun x u e k z => a.n x u e (fun q => k (o x q)) z, a.f⟩
/-- nothing that stood is changed -/
abbrev Ext (Z H Z' H' : Hp) : Prop := Keep Z H (fun _ => False) Z' H'
theorem Own.some {g : G} {Z H : Hp} {s : S} {σ : L2.St} {a : Addr} (st : Sr g Z s σ H) (o : Own s σ a) : ∃ vs, H a = some (.lst vs) ∧ Z a = none := by
  obtain ⟨i, t, xs, e1, e2⟩ := o
  obtain ⟨x, e3, b, vs, rfl, hb, zb, _⟩ := st.rel i _ e1
  rw [e2] at e3
  cases e3
  exact ⟨vs, hb, zb⟩
theorem Sr.ext {g : G} {Z H Z' H' : Hp} {s : S} {σ : L2.St} (st : Sr g Z s σ H) (k : Ext Z H Z' H') (sub : Same Z' H') : Sr g Z' s σ H' where
  len := st.len
  sub := sub
  inj := st.inj
  rel := fun i v e => by
    obtain ⟨x, e2, r⟩ := st.rel i v e
    refine ⟨x, e2, ?_⟩
    cases v with
    | d y => exact RD.mono k.z r
    | fz y => exact RD.mono k.z r
    | own t xs =>
      obtain ⟨a, vs, rfl, ha, za, rs⟩ := r
      exact ⟨a, vs, rfl, k.h a _ ha id, k.n a _ ha id za, rs.mono k.z⟩

/-! ### readings -/
/-- an expression's value: a list that nobody else holds is new since H0 -/
def RF (g : G) (H0 Z H : Hp) (v : Vl) (x : V) : Prop := RV g Z H v x ∧ ∀ t xs a, v = .own t xs → x = .ref a → H0 a = none
/-- what an exception of the text's own class carries -/
abbrev WXX := Value → Option Addr → L2.St → Hp → Prop
structure RX (g : G) (Z H : Hp) (fs : List D) (dd : Option Addr) : Prop where
  get : ∃ (d : Addr) (ps : List (Str × V)), dd = some d ∧ H d = some (.xd ps) ∧ RDs g Z fs (ps.map (·.2))
def Res (g : G) (W : WXX) (σ : L2.St) (Z H : Hp) (s : S) {α : Type} (r : R α) (C : α → S → Hp → Hp → Prop) : Prop := match r with
  | .ok v s' => ∀ Z' H', Keep Z H (Own s σ) Z' H' → Sr g Z' s' σ H' → (∀ a, Own s' σ a → Own s σ a) → C v s' Z' H'
  | .ex c fs s' => ∀ Z' H' dd, Keep Z H (Own s σ) Z' H' → Sr g Z' s' σ H' → (∀ a, Own s' σ a → Own s σ a) → RX g Z' H' fs dd → W (.ref (g.ca c)) dd σ H'
  | .no => False
section
variable {g : G} {W : WXX} {σ : L2.St} {Z H Z1 H1 : Hp} {s s1 : S} {α β : Type} {r : R α}
theorem Res.rebase {C : α → S → Hp → Hp → Prop} (h : Res g W σ Z H s r C) (k : Keep Z H (Own s σ) Z1 H1) (o : ∀ a, Own s1 σ a → Own s σ a) : Res g W σ Z1 H1 s1 r C := by
  cases r with
  | ok v s' => exact fun Z' H' k' st o' => h Z' H' (k.trans k' o) st fun a q => o a (o' a q)
  | ex c fs s' => exact fun Z' H' dd k' st o' rx => h Z' H' dd (k.trans k' o) st (fun a q => o a (o' a q)) rx
  | no => exact h
theorem Res.mono {C C' : α → S → Hp → Hp → Prop} (h : Res g W σ Z H s r C)
    (f : ∀ v s' Z' H', Keep Z H (Own s σ) Z' H' → Sr g Z' s' σ H' → (∀ a, Own s' σ a → Own s σ a) → C v s' Z' H' → C' v s' Z' H') : Res g W σ Z H s r C' := by
  cases r with
  | ok v s' => exact fun Z' H' k' st o' => f v s' Z' H' k' st o' (h Z' H' k' st o')
  | ex c fs s' => exact h
  | no => exact h
theorem Res.bind {f : α → S → R β} {C : β → S → Hp → Hp → Prop} (h : Res g W σ Z H s (r.bind f) C) : Res g W σ Z H s r fun v s1 Z1 H1 => Res g W σ Z1 H1 s1 (f v s1) C := by
  cases r with
  | ok v s' => exact fun Z' H' k' st o' => Res.rebase (r := f v s') h k' o'
  | ex c fs s' => exact h
  | no => exact h
/-- r.bind f, the other way round -/
theorem Res.bind' {f : α → S → R β} {C : β → S → Hp → Hp → Prop} {v : α} {s' : S} (e : r = .ok v s') (h : Res g W σ Z H s (r.bind f) C) : Res g W σ Z H s (f v s') C := by
  subst e
  exact h
theorem Res.now {v : α} {C : α → S → Hp → Hp → Prop} (h : Res g W σ Z H s (.ok v s) C) (st : Sr g Z s σ H) : C v s Z H := h Z H .refl st fun _ q => q
end
/-- an expression's reading -/
def rdE (g : G) (W : WXX) (Φ : Call) (t : T) : TE := fun σ H Q => ∃ Z s, Sr g Z s σ H ∧ Res g W σ Z H s (evE Φ t s) fun v _ Z' H' => ∀ x, RF g H Z' H' v x → Q x H'
theorem Sr.freeze {g : G} {Z H : Hp} {s : S} {σ : L2.St} {a : Addr} {vs : List V} (st : Sr g Z s σ H) (ha : H a = some (.lst vs)) (za : Z a = none) (no : ¬ Own s σ a) : Sr g (upd Z a (.lst vs)) s σ H := by
  have e : Same Z (upd Z a (.lst vs)) := fun b o q => by rw [upd_ne (ne_of_none q za)]; exact q
  refine ⟨st.len, fun b o q => ?_, fun i v q => ?_, st.inj⟩
  · by_cases hb : b = a
    · subst hb; rw [upd_same] at q; cases q; exact ha
    · rw [upd_ne hb] at q; exact st.sub b o q
  · obtain ⟨x, e2, r⟩ := st.rel i v q
    refine ⟨x, e2, ?_⟩
    cases v with
    | d y => exact RD.mono e r
    | fz y => exact RD.mono e r
    | own t xs =>
      obtain ⟨b, ws, rfl, hb, zb, rs⟩ := r
      have hne : b ≠ a := by rintro rfl; exact no ⟨i, t, xs, q, e2⟩
      exact ⟨b, ws, rfl, hb, by rw [upd_ne hne]; exact zb, rs.mono e⟩
/-- an operand: its datum -/
theorem rdE_of {g : G} {W : WXX} {Φ : Call} {t : T} {σ : L2.St} {Z H : Hp} {s : S} {Q : VK} (st : Sr g Z s σ H)
    (h : Res g W σ Z H s (evE Φ t s) fun v s' Z' H' => ∀ x, RD g Z' v.dat x → Q x H') : rdE g W Φ t σ H Q := by
  refine ⟨Z, s, st, ?_⟩
  cases e : evE Φ t s with
  | no => rw [e] at h; exact h
  | ex c fs s' => rw [e] at h; exact h
  | ok v s' =>
    rw [e] at h
    intro Z' H' k st' o x rf
    obtain ⟨rv, fr⟩ := rf
    cases v with
    | d y => exact h Z' H' k st' o x rv
    | fz y => exact h Z' H' k st' o x rv
    | own t xs =>
      obtain ⟨a, vs, rfl, ha, za, rs⟩ := rv
      have hn : H a = none := fr t xs a rfl rfl
      have no : ¬ Own s' σ a := fun q => by
        obtain ⟨ws, hw, _⟩ := Own.some st (o a q)
        rw [hn] at hw; cases hw
      have e2 : Same Z' (upd Z' a (.lst vs)) := fun b u q => by rw [upd_ne (ne_of_none q za)]; exact q
      refine h _ H' ⟨k.z.trans e2, k.h, fun b u q nb zb => ?_, k.f⟩ (st'.freeze ha za no) o _ (.lst (.inl (.inl upd_same)) (rs.mono e2))
      have hne : b ≠ a := by rintro rfl; rw [hn] at q; cases q
      rw [upd_ne hne]
      exact k.n b u q nb zb
/-- an operand that is then used with others -/
theorem rdE_op {g : G} {W : WXX} {Φ : Call} {t : T} {σ : L2.St} {Z H : Hp} {s : S} {Q : VK} {β : Type} {f : Vl → S → R β} {C : β → S → Hp → Hp → Prop} (st : Sr g Z s σ H) (h : Res g W σ Z H s ((evE Φ t s).bind f) C)
    (k : ∀ v s' Z' H' x, Keep Z H (Own s σ) Z' H' → Sr g Z' s' σ H' → (∀ a, Own s' σ a → Own s σ a) → RD g Z' v.dat x → Res g W σ Z' H' s' (f v s') C → Q x H') : rdE g W Φ t σ H Q :=
  rdE_of st (h.bind.mono fun v s' Z' H' kp st' o q x rx => k v s' Z' H' x kp st' o rx q)
theorem PE.mono {X : Cx} {e : Expr} {t t' : TE} (h : PE X e t) (m : ∀ σ H Q, t' σ H Q → t σ H Q) : PE X e t' := ⟨fun pins s σ H Q I q => h.run pins s σ H Q I (m σ H Q q)⟩
end MI

set_option Elab.async false
set_option linter.all false
set_option maxRecDepth 100000
set_option maxHeartbeats 4000000
/-! t * k. -/
namespace MI
open PySem PySem.Spec PyProof.Rows L2
theorem tuple_mul1 (l : Addr) (items : Array Value) (n : Nat) (dd : Option Addr) (sl : Array (Option Value)) (x : Int) (u : Tok) (c0 : (decide (x < -(2 ^ 63)) || decide (x ≥ 2 ^ 63)) = false) (c1 : (items.isEmpty || x == 1) = true) :
    Meets (Builtin.«tuple.__mul__» ⟨[.ref l, .int x u], []⟩) (fun _ R s => s.heap.get? l = some { cls := .type "tuple", dict := dd, data := .seq items n, slots := sl } ∧ R (.ok (.ret (Value.ref l))) s) :=
  .of_wp fun prog w A R s h => by
    obtain ⟨hp, g, d, tk, os⟩ := s
    obtain ⟨hl, h⟩ := h
    have f1 := AutoSeq1.idx_int
    have hT : Shared.TypeIs (⟨hp, g, d, tk, os⟩ : Shared) (.ref l) "tuple" := ⟨_, hl, rfl⟩
    wp_walk using wpAny_loadPart' hl
    repeat (first
      | (refine wpAny_ite_false (decide_eq_false (by rw [c0]; exact Bool.false_ne_true)) ?_; wp_walk using wpAny_loadPart' hl)
      | (refine wpAny_ite_true (decide_eq_true (by rw [c1])) ?_; wp_walk using wpAny_loadPart' hl))
    exact ⟨_, rfl, h⟩
theorem tuple_mul0 (l : Addr) (items : Array Value) (n : Nat) (dd : Option Addr) (sl : Array (Option Value)) (x : Int) (u : Tok) (c0 : (decide (x < -(2 ^ 63)) || decide (x ≥ 2 ^ 63)) = false) (c1 : (items.isEmpty || x == 1) = false) (c2 : (decide (x ≤ 0) || items.isEmpty) = true) :
    Meets (Builtin.«tuple.__mul__» ⟨[.ref l, .int x u], []⟩) (fun _ R s => s.heap.get? l = some { cls := .type "tuple", dict := dd, data := .seq items n, slots := sl } ∧
      R (.ok (.ret (Value.ref s.heap.objs.size))) { s with heap := s.heap.push { cls := Value.type "tuple", data := Data.seq #[] }, toks := s.toks }) :=
  .of_wp fun prog w A R s h => by
    obtain ⟨hp, g, d, tk, os⟩ := s
    obtain ⟨hl, h⟩ := h
    have f1 := AutoSeq1.idx_int
    wp_walk using wpAny_loadPart' hl
    repeat (first
      | (refine wpAny_ite_false (decide_eq_false (by rw [c0]; exact Bool.false_ne_true)) ?_; wp_walk using wpAny_loadPart' hl)
      | (refine wpAny_ite_false (decide_eq_false (by rw [c1]; exact Bool.false_ne_true)) ?_; wp_walk using wpAny_loadPart' hl)
      | (refine wpAny_ite_true (decide_eq_true (by rw [c2])) ?_; wp_walk using wpAny_loadPart' hl))
    exact ⟨_, rfl, h⟩
/-- t * k -/
def rRepA (K : PySem.W.Frag) : R2 := fun x y H Q => ∃ l k xs, x = .ref l ∧ y = .int k ∧ SqT K H l xs ∧ -(2 ^ 63) ≤ k ∧ k < 2 ^ 63 ∧ xs.length * k.toNat ≤ sizeLine ∧ (xs = [] ∨ k = 1 → Q (.ref l) H) ∧ (¬ (xs = [] ∨ k = 1) → ∀ p, H p = none → Q (.ref p) (upd H p (.tup (List.replicate k.toNat xs).flatten)))
theorem op_repA {X : Cx} : OpR X (binaryOp .Mult) (rRepA X.K) := by
  rintro pins s σ H x y v u Q I rx ry ⟨l, k, xs, rfl, rfl, hT, k1, k2, hz, q1, q2⟩
  cases rx
  obtain ⟨t, rfl⟩ := ry
  obtain ⟨its, r, ⟨⟨cls, dd, data, sl⟩, ho, hc, n, hd⟩, hs⟩ := I.tuple hT
  simp only at hc hd
  subst hc hd
  have hle : its.length = xs.length := r.length.symm
  have c0 : (decide (k < -(2 ^ 63)) || decide (k ≥ 2 ^ 63)) = false := by
    rw [decide_eq_false (by omega), decide_eq_false (by omega)] <;> rfl
  have go : ∀ {R : Value → Shared → Prop}, wpAny (model X.prog X.w) X.A (call (.builtin "tuple.__mul__") [.ref l, .int k t]) R X.xe s → wpAny (model X.prog X.w) X.A (binaryOp .Mult (.ref l) (.int k t)) R X.xe s := fun h =>
    wpAny_binaryOp_repeat_ref (T := "tuple") (U := "int") (by decide) ⟨_, ho, rfl⟩ (fun s' => typeIs_int s' k t) noFill_tuple_mul PySem.F.fills_int_mul PySem.F.slot_int_rmul repeat_tuple PySem.F.slot_int_index.lookup
      (call_meets PySem.F.slot_int_rmul (typeIs_int s k t) PySem.F.entry_int_rmul (PySem.F.args_int_rmul_2 _ _) (int_rmul_tuple k t l its.toArray n dd sl) ⟨ho, rfl, ⟨_, ho, rfl⟩, h⟩)
  have emp : its.toArray.isEmpty = decide (xs = []) := by
    cases its with
    | nil =>
      have : xs = [] := List.eq_nil_of_length_eq_zero hle.symm
      rw [decide_eq_true this]
      rfl
    | cons a b =>
      have : xs ≠ [] := fun e => by rw [e] at hle; simp at hle
      rw [decide_eq_false this]
      rfl
  by_cases h1 : xs = [] ∨ k = 1
  · have c1 : (its.toArray.isEmpty || k == 1) = true := by
      rw [emp]
      rcases h1 with h | h
      · rw [decide_eq_true h]; rfl
      · rw [h]; simp
    exact go (call_meets PySem.F.slot_tuple_mul ⟨_, ho, rfl⟩ PySem.F.entry_tuple_mul (PySem.F.args_tuple_mul_2 _ _) (tuple_mul1 l its.toArray n dd sl k t c0 c1) ⟨ho, .ref l, H, I, rfl, q1 h1⟩)
  · have hx : xs ≠ [] := fun e => h1 (.inl e)
    have hk : k ≠ 1 := fun e => h1 (.inr e)
    have c1 : (its.toArray.isEmpty || k == 1) = false := by
      rw [emp, decide_eq_false hx, Bool.false_or]
      exact beq_eq_false_iff_ne.mpr hk
    by_cases h0 : k ≤ 0
    · have c2 : (decide (k ≤ 0) || its.toArray.isEmpty) = true := by rw [decide_eq_true h0]; rfl
      refine go (call_meets PySem.F.slot_tuple_mul ⟨_, ho, rfl⟩ PySem.F.entry_tuple_mul (PySem.F.args_tuple_mul_2 _ _) (tuple_mul0 l its.toArray n dd sl k t c0 c1 c2) ⟨ho, ?_⟩)
      have e : (List.replicate k.toNat xs).flatten = [] := by
        rw [show k.toNat = 0 by omega]; rfl
      have q := q2 h1
      rw [e] at q
      exact ⟨.ref s.heap.objs.size, _, I.laid (t' := s.toks) (o := .tup []) (fun b ob q => Heap.get?_push_of_some _ q) (Nat.le_refl _) ⟨Nat.zero_le _, [], .nil, IsTup.new _ _⟩, rfl, q _ (I.hok.fresh (Nat.le_refl _))⟩
    · have hi : its.toArray.isEmpty = false := by rw [emp, decide_eq_false hx]
      have c2 : (decide (k ≤ 0) || its.toArray.isEmpty) = false := by
        rw [hi, Bool.or_false]
        exact decide_eq_false h0
      have hsz0 : its.toArray.size = xs.length := by rw [List.size_toArray, hle]
      have hm : ((its.toArray.size : Nat) : Int) * k = ((xs.length * k.toNat : Nat) : Int) := by
        rw [hsz0, Int.natCast_mul, Int.toNat_of_nonneg (by omega)]
      have hsl := sizeLine_eq
      have c4 : Builtin.Tuple.tupleTooMany (((its.toArray.size : Nat) : Int) * k) = false := by
        unfold Builtin.Tuple.tupleTooMany
        rw [hm]
        exact decide_eq_false (by omega)
      have flen : (List.replicate k.toNat its).flatten.length ≤ sizeLine := by
        rw [PyProof.Rows.lm_len_rep_flat, hle, Nat.mul_comm]
        exact hz
      refine go (call_meets PySem.F.slot_tuple_mul ⟨_, ho, rfl⟩ PySem.F.entry_tuple_mul (PySem.F.args_tuple_mul_2 _ _) (tuple_mulW l its.toArray n dd sl k t c0 c1 c2 (by rw [hm]; omega) c4 (by rw [size_rep, List.size_toArray]; exact flen)) ⟨ho, ?_⟩)
      rw [size_rep]
      refine ⟨.ref s.heap.objs.size, _, I.laid (t' := s.toks) (o := .tup (List.replicate k.toNat xs).flatten) (fun b ob q => Heap.get?_push_of_some _ q) (Nat.le_refl _) ?_, rfl, q2 h1 _ (I.hok.fresh (Nat.le_refl _))⟩
      exact ⟨by rw [PyProof.Rows.lm_len_rep_flat, Nat.mul_comm]; exact hz, _, r.rep k.toNat, IsTup.new _ _⟩
end MI

set_option Elab.async false
set_option linter.all false
set_option maxRecDepth 100000
set_option maxHeartbeats 4000000
/-! Operators, comparisons, items, slices, truth: by values. -/
namespace MI
open PySem PySem.Spec PyProof.Rows L2

/-- what an operation on data asks and gives -/
def rB (g : G) (f : D → D → Option Vl) : R2 := fun x y H Q => ∃ Z a b r, Same Z H ∧ RD g Z a x ∧ RD g Z b y ∧ f a b = some r ∧ ∀ Z' H' v, Ext Z H Z' H' → Same Z' H' → RF g H Z' H' r v → Q v H'
/-- a value that needs no heap -/
theorem RF.flat {g : G} {H0 Z H : Hp} {x : D} {v : V} (r : RD g Z x v) : RF g H0 Z H (.d x) v := ⟨r, fun _ _ _ e => nomatch e⟩
theorem Ext.lay {Z H : Hp} {p : Addr} {o : HO} (hp : H p = none) : Ext Z H Z (upd H p o) where
  z := Same.refl _
  h := fun a u e _ => by rw [upd_ne (ne_of_none e hp)]; exact e
  n := fun _ _ _ _ z => z
  f := fun a e => by
    by_cases h : a = p
    · subst h; exact hp
    · rwa [upd_ne h] at e
theorem Same.lay {Z H : Hp} {p : Addr} {o : HO} (s : Same Z H) (hp : H p = none) : Same Z (upd H p o) := fun a u e => by
  have e' := s a u e
  rw [upd_ne (ne_of_none e' hp)]
  exact e'
theorem Same.none {Z H : Hp} {p : Addr} (s : Same Z H) (hp : H p = Option.none) : Z p = Option.none := s.free hp
theorem RF.own {g : G} {Z H : Hp} {p : Addr} {xs : List D} {vs : List V} (s : Same Z H) (hp : H p = none) (r : RDs g Z xs vs) : RF g H Z (upd H p (.lst vs)) (.own false xs) (.ref p) :=
  ⟨⟨p, vs, rfl, upd_same, Same.none s hp, r⟩, fun _ _ a _ e => by cases e; exact hp⟩
/-- a new tuple: told from now on -/
theorem Ext.layT {Z H : Hp} {p : Addr} {o : HO} (s : Same Z H) (hp : H p = none) : Ext Z H (upd Z p o) (upd H p o) where
  z := fun a u e => by rw [upd_ne (ne_of_none e (Same.none s hp))]; exact e
  h := (Ext.lay (Z := Z) (o := o) hp).h
  n := fun a u e _ z => by rw [upd_ne (ne_of_none e hp)]; exact z
  f := (Ext.lay (Z := Z) (o := o) hp).f
theorem Same.layT {Z H : Hp} {p : Addr} {o : HO} (s : Same Z H) (hp : H p = Option.none) : Same (upd Z p o) (upd H p o) := fun a u e => by
  by_cases h : a = p
  · subst h; rwa [upd_same] at e ⊢
  · rw [upd_ne h] at e ⊢; exact s a u e
theorem RF.tup {g : G} {Z H : Hp} {p : Addr} {xs : List D} {vs : List V} (s : Same Z H) (hp : H p = none) (r : RDs g Z xs vs) : RF g H (upd Z p (.tup vs)) (upd H p (.tup vs)) (.d (.tup xs)) (.ref p) :=
  RF.flat (.tup (.inl (.inl upd_same)) (r.mono (Ext.layT s hp).z))

section
variable {X : Cx} {g : G}
theorem RD.i {Z : Hp} {i : Int} {v : V} (r : RD g Z (.int i) v) : v = .int i := by cases r; rfl
theorem RD.l {Z : Hp} {xs : List D} {v : V} (r : RD g Z (.lst xs) v) : ∃ a vs, v = .ref a ∧ SqP g.K Z a vs ∧ RDs g Z xs vs := by
  cases r with
  | lst h q => exact ⟨_, _, rfl, h, q⟩
theorem RD.t {Z : Hp} {xs : List D} {v : V} (r : RD g Z (.tup xs) v) : ∃ a vs, v = .ref a ∧ SqT g.K Z a vs ∧ RDs g Z xs vs := by
  cases r with
  | tup h q => exact ⟨_, _, rfl, h, q⟩
theorem W64_eq : W64 = 18446744073709551616 := by decide
theorem fitsL_le {n : Nat} (h : fitsL n = true) : n ≤ sizeLine := by
  have := of_decide_eq_true h
  rw [sizeLine_eq]
  exact this
theorem w4_log {j : Int} (h : j.natAbs < W4) : j.natAbs.log2 < 4000 := by
  unfold W4 at h
  exact PySem.Flt.log2_lt_of (Nat.zero_lt_succ 3999) h
theorem small_of {i : Int} (h : i.natAbs < W64) : -(2 ^ 64) < i ∧ i < 2 ^ 64 := by
  rw [W64_eq] at h
  constructor <;> omega
theorem rdL {pins : List (Addr × Obj)} {s : Shared} {σ : L2.St} {H : Hp} {a : Addr} {xs : List V} (I : Inv X pins σ H s) (h : SqP X.K H a xs) : xs.length ≤ sizeLine ∧ ∃ (its : List Value) (n : Nat), Vals xs its ∧ IsL s.heap a its.toArray n := by
  rcases h with h | ⟨its, n, h1, h2, h3⟩
  · obtain ⟨z, its, n, r, e⟩ := h.ok I.hok
    exact ⟨z, its, n, r, e⟩
  · have l := h3.length
    simp only [Array.length_toList] at l
    exact ⟨by omega, its.toList, n, h3, by simpa using I.kIn a _ h1⟩
/-- two lists joined, read only -/
def rCatL (K : PySem.W.Frag) : R2 := fun x y H Q => ∃ a b xs ys, x = .ref a ∧ y = .ref b ∧ SqP K H a xs ∧ SqP K H b ys ∧ xs.length + ys.length ≤ sizeLine ∧ ∀ p, H p = none → Q (.ref p) (upd H p (.lst (xs ++ ys)))
theorem op_catL : OpR X (binaryOp .Add) (rCatL X.K) := by
  rintro pins s σ H x y v u Q I rx ry ⟨a, b, xs, ys, rfl, rfl, ha, hb, hz, q⟩
  cases rx
  cases ry
  obtain ⟨_, its, n1, r, e1⟩ := rdL I ha
  obtain ⟨_, it2, n2, r2, e2⟩ := rdL I hb
  have l1 := r.length
  have l2 := r2.length
  refine PySem.P.add_list e1 e2 ?_ (by simp only [List.size_toArray]; omega)
  have ea : its.toArray ++ it2.toArray = (its ++ it2).toArray := by simp
  rw [ea]
  exact ⟨.ref _, _, I.lnew (t' := s.toks) (r.append r2) (by simp only [List.length_append]; omega), rfl, q _ I.fresh⟩

/-- a list taken k times, read only -/
def rRepL (K : PySem.W.Frag) : R2 := fun x y H Q => ∃ a k xs, x = .ref a ∧ y = .int k ∧ SqP K H a xs ∧ -(2 ^ 63) ≤ k ∧ k < 2 ^ 63 ∧ xs.length * k.toNat ≤ sizeLine ∧ ∀ p, H p = none → Q (.ref p) (upd H p (.lst (List.replicate k.toNat xs).flatten))
theorem op_repL : OpR X (binaryOp .Mult) (rRepL X.K) := by
  rintro pins s σ H x y v u Q I rx ry ⟨a, k, xs, rfl, rfl, ha, h1, h2, hz, q⟩
  cases rx
  obtain ⟨t, rfl⟩ := ry
  obtain ⟨_, its, n, r, e⟩ := rdL I ha
  have len := r.length
  have z1 : its.toArray.size * k.toNat ≤ sizeLine := by
    rw [List.size_toArray, ← len]
    exact hz
  have cap : ¬ its.toArray.size * k.toNat > (2 ^ 63 - 1) / 8 := by
    have q : (sizeLine : Nat) ≤ (2 ^ 63 - 1) / 8 := by decide
    omega
  have fit : ¬ (!Builtin.List.listFitsIndex k) = true := by simp [fitsIndex_both h1 h2]
  have lng : ¬ Builtin.List.listTooLong (its.toArray.size * k.toNat) = true := by
    rw [notLongL z1]
    decide
  have all : ∀ m : Nat, List.foldl (fun p q => p ++ q) #[] (List.replicate m its.toArray) = (List.replicate m its).flatten.toArray := fun m => by
    simpa only [List.nil_append] using foldl_rep its m []
  have nw : List.foldl (fun p q => p ++ q) #[] (List.replicate (if its.toArray.isEmpty = true then 0 else k.toNat) its.toArray) = (List.replicate k.toNat its).flatten.toArray := by
    rw [all]
    cases its with
    | nil => simp
    | cons w ws => rw [if_neg (by simp)]
  have met := AutoListH.list___mul___list_int_3 a its.toArray n k t fit cap lng
  refine wpAny_binaryOp_repeat_ref (T := "list") (U := "int") (by decide) ⟨_, e, rfl⟩ (typeIs_int · k t) noFill_list_mul F.fills_int_mul F.slot_int_rmul repeat_list F.slot_int_index.lookup ?_
  refine call_meets F.slot_int_rmul (typeIs_int s k t) F.entry_int_rmul (F.args_int_rmul_2 _ _) (int___rmul___int_list k t a its.toArray n) ⟨e, rfl, ⟨_, e, rfl⟩, ?_⟩
  refine call_meets F.slot_list_mul ⟨_, e, rfl⟩ F.entry_list_mul (F.args_list_mul_2 _ _) met ⟨e, ?_⟩
  rw [nw]
  exact ⟨.ref _, _, I.lnew (t' := s.toks) (r.rep k.toNat) (by rw [PyProof.Rows.lm_len_rep_flat, Nat.mul_comm]; exact hz), rfl, q _ I.fresh⟩

theorem rB_int {op : Operator} {f : D → D → Option Vl} {h : Int → Int → Int} {C : Int → Int → Prop} (ho : OpR X (binaryOp op) (rI C fun i j => .int (h i j))) :
    ∀ {pins : List (Addr × Obj)} {s : Shared} {σ : L2.St} {H Z : Hp} {v u : Value} {Q : VK} {i j : Int} {x y : V} {r : Vl}, Inv X pins σ H s → RelV x v → RelV y u → Same Z H → RD g Z (.int i) x → RD g Z (.int j) y → C i j → r = .d (.int (h i j)) →
      (∀ Z' H' v, Ext Z H Z' H' → Same Z' H' → RF g H Z' H' r v → Q v H') → wpAny (model X.prog X.w) X.A (binaryOp op v u) (EP X pins σ Q) X.xe s := by
  intro pins s σ H Z v u Q i j x y r I rx ry sb dx dy c hr q
  cases dx
  cases dy
  subst hr
  exact ho pins s σ H _ _ v u Q I rx ry ⟨i, j, rfl, rfl, c, q Z H _ .refl sb (.flat (.int _))⟩
theorem rI_of {X : Cx} {f : Value → Value → Sem Value} {k : Int → Int → Int} (h : OpR X f (rI0 fun i j => .int (k i j))) : OpR X f (rI (fun _ _ => True) fun i j => .int (k i j)) := by
  rintro pins s σ H x y v u Q I rx ry ⟨i, j, e1, e2, _, q⟩
  exact h pins s σ H x y v u Q I rx ry ⟨i, j, e1, e2, q⟩
theorem op_mulD : OpR X (binaryOp .Mult) (rI (fun i j => mulOk i j = true) fun i j => .int (i * j)) := by
  rintro pins s σ H x y v u Q I rx ry ⟨i, j, e1, e2, c, q⟩
  unfold mulOk at c
  simp only [Bool.or_eq_true, Bool.and_eq_true, decide_eq_true_eq] at c
  rcases c with (c | c) | ⟨c, d⟩
  · exact op_mul pins s σ H x y v u Q I rx ry ⟨i, j, e1, e2, .inl (small_of c), q⟩
  · exact op_mul pins s σ H x y v u Q I rx ry ⟨i, j, e1, e2, .inr (small_of c), q⟩
  · unfold WM at c d
    exact op_mulW pins s σ H x y v u Q I rx ry ⟨i, j, e1, e2, wide_mul c d (Nat.zero_lt_succ _) (Nat.zero_lt_succ _) (by decide), q⟩
theorem op_divD : OpR X (binaryOp .FloorDiv) (rI (fun _ j => divOk j = true) fun i j => .int (if 0 < j then i / j else i.fdiv j)) := by
  have base : OpR X (binaryOp .FloorDiv) (rI (fun _ j => divOk j = true) fun i j => .int (i.fdiv j)) := opI fun i j _ _ _ _ _ c q => by
    unfold divOk at c
    simp only [Bool.and_eq_true, decide_eq_true_eq] at c
    exact floordiv_int c.1 q (.inl (PyProof.noPylong_of_log2 (Nat.lt_of_lt_of_le (w4_log c.2) (by decide))))
  rintro pins s σ H x y v u Q I rx ry ⟨i, j, e1, e2, c, q⟩
  refine base pins s σ H x y v u Q I rx ry ⟨i, j, e1, e2, c, ?_⟩
  replace q : Q (.int (if 0 < j then i / j else i.fdiv j)) H := q
  show Q (.int (i.fdiv j)) H
  by_cases h : 0 < j
  · rw [if_pos h] at q
    rwa [Int.fdiv_eq_ediv_of_nonneg i (by omega)]
  · rwa [if_neg h] at q
theorem op_modD : OpR X (binaryOp .Mod) (rI (fun _ j => j ≠ 0) fun i j => .int (if 0 < j then i % j else i.fmod j)) := by
  rintro pins s σ H x y v u Q I rx ry ⟨i, j, e1, e2, c, q⟩
  refine op_modN pins s σ H x y v u Q I rx ry ⟨i, j, e1, e2, c, ?_⟩
  replace q : Q (.int (if 0 < j then i % j else i.fmod j)) H := q
  show Q (.int (i.fmod j)) H
  by_cases h : 0 < j
  · rw [if_pos h] at q
    rwa [Int.fmod_eq_emod_of_nonneg i (by omega)]
  · rwa [if_neg h] at q
theorem op_bin (hK : g.K = X.K) (op : Operator) : OpR X (binaryOp op) (rB g (bin op)) := by
  rintro pins s σ H x y v u Q I rx ry ⟨Z, a, b, r, sb, da, db, e, q⟩
  unfold bin at e
  split at e
  · exact rB_int (f := bin .Add) (rI_of op_add) I rx ry sb da db trivial (Option.some.inj e).symm q
  · exact rB_int (f := bin .Sub) (rI_of op_sub) I rx ry sb da db trivial (Option.some.inj e).symm q
  · split at e
    · rename_i c
      exact rB_int (f := bin .Mult) op_mulD I rx ry sb da db c (Option.some.inj e).symm q
    · cases e
  · split at e
    · rename_i c
      exact rB_int (f := bin .FloorDiv) op_divD I rx ry sb da db c (Option.some.inj e).symm q
    · cases e
  · split at e
    · cases e
    · rename_i c
      exact rB_int (f := bin .Mod) op_modD I rx ry sb da db c (Option.some.inj e).symm q
  · split at e
    · rename_i c
      simp only [Bool.and_eq_true, decide_eq_true_eq] at c
      exact rB_int (f := bin .Pow) (op_pow) I rx ry sb da db ⟨c.1.1, c.1.2, by rw [← W64_eq.trans (by decide : 18446744073709551616 = 2 ^ 64)]; exact c.2⟩ (Option.some.inj e).symm q
    · cases e
  · split at e
    · rename_i xs ys c
      cases e
      obtain ⟨a1, vs, rfl, h1, r1⟩ := da.l
      obtain ⟨a2, ws, rfl, h2, r2⟩ := db.l
      have l := fitsL_le c
      rw [r1.length, r2.length] at l
      exact op_catL pins s σ H _ _ v u Q I rx ry ⟨a1, a2, vs, ws, rfl, rfl, hK ▸ sqP_mono sb h1, hK ▸ sqP_mono sb h2, l, fun p hp => q _ _ _ (.lay hp) (Same.lay sb hp) (.own sb hp (r1.append r2))⟩
    · cases e
  · split at e
    · rename_i xs ys c
      cases e
      obtain ⟨a1, vs, rfl, h1, r1⟩ := da.t
      obtain ⟨a2, ws, rfl, h2, r2⟩ := db.t
      have l := fitsL_le c
      rw [r1.length, r2.length] at l
      have h1' : SqT X.K H a1 vs := hK ▸ sqT_mono sb h1
      have h2' : SqT X.K H a2 ws := hK ▸ sqT_mono sb h2
      refine op_catA pins s σ H _ _ v u Q I rx ry ⟨a1, a2, vs, ws, rfl, rfl, h1', h2', l, fun e => ?_, fun _ e => ?_, fun _ _ p hp => q _ _ _ (.layT sb hp) (Same.layT sb hp) (.tup sb hp (r1.append r2))⟩
      · subst e
        cases r1
        exact q Z H _ .refl sb (.flat (.tup h2 r2))
      · subst e
        cases r2
        rw [List.append_nil] at q
        exact q Z H _ .refl sb (.flat (.tup h1 r1))
    · cases e
  · split at e
    · rename_i xs k c
      cases e
      simp only [Bool.and_eq_true, decide_eq_true_eq] at c
      obtain ⟨a1, vs, rfl, h1, r1⟩ := da.l
      cases db
      have l := fitsL_le c.2
      rw [r1.length] at l
      exact op_repL pins s σ H _ _ v u Q I rx ry ⟨a1, k, vs, rfl, rfl, hK ▸ sqP_mono sb h1, c.1.1, c.1.2, l, fun p hp => q _ _ _ (.lay hp) (Same.lay sb hp) (.own sb hp (r1.rep _))⟩
    · cases e
  · split at e
    · rename_i xs k c
      cases e
      simp only [Bool.and_eq_true, decide_eq_true_eq] at c
      obtain ⟨a1, vs, rfl, h1, r1⟩ := da.t
      cases db
      have l := fitsL_le c.2
      rw [r1.length] at l
      have h1' : SqT X.K H a1 vs := hK ▸ sqT_mono sb h1
      refine op_repA pins s σ H _ _ v u Q I rx ry ⟨a1, k, vs, rfl, rfl, h1', c.1.1, c.1.2, l, fun e => ?_, fun _ p hp => q _ _ _ (.layT sb hp) (Same.layT sb hp) (.tup sb hp (r1.rep _))⟩
      refine q Z H _ .refl sb (.flat ?_)
      rcases e with e | e
      · subst e
        cases r1
        have : (List.replicate k.toNat ([] : List D)).flatten = [] := by simp
        rw [this]
        exact .tup h1 .nil
      · subst e
        have : (List.replicate (1 : Int).toNat xs).flatten = xs := by simp
        rw [this]
        exact .tup h1 r1
    · cases e
  · cases e

/-! ### comparisons -/
def vb (b : Bool) : Vl := .d (.bl b)
def cmpV (op : CmpOp) (a b : D) : Option Vl := (cmp op a b).map vb
theorem RF.b {H0 Z H : Hp} (b : Bool) : RF g H0 Z H (vb b) (.bl b) := .flat (.bl b)
theorem op_eqV (hK : g.K = X.K) (hu : X.A.units + 64 < cLine) {pins : List (Addr × Obj)} {s : Shared} {σ : L2.St} {H Z : Hp} {x y : V} {v u : Value} {Q : VK} {a b : D} {k : Bool} (I : Inv X pins σ H s) (rx : RelV x v) (ry : RelV y u) (sb : Same Z H)
    (da : RD g Z a x) (db : RD g Z b y) (e : eqD a b = some k) : (Q (.bl k) H → wpAny (model X.prog X.w) X.A (compareOp .Eq v u) (EP X pins σ Q) X.xe s) ∧ (Q (.bl (!k)) H → wpAny (model X.prog X.w) X.A (compareOp .NotEq v u) (EP X pins σ Q) X.xe s) := by
  unfold eqD at e
  split at e
  · cases da
    cases db
    rename_i i j
    cases e
    have w : (decide ((V.int i) = V.int j)) = decide (i = j) := by
      by_cases h : i = j
      · subst h; simp
      · have : ¬ V.int i = V.int j := fun q => h (V.int.inj q)
        rw [decide_eq_false h, decide_eq_false this]
    constructor
    · intro q
      exact op_eq pins s σ H _ _ v u Q I rx ry ⟨rfl, by rw [w]; exact q⟩
    · intro q
      exact op_ne pins s σ H _ _ v u Q I rx ry ⟨rfl, by rw [w]; exact q⟩
  · cases da
    cases db
    rename_i i j
    cases e
    have w : (decide ((V.str i) = V.str j)) = decide (i = j) := by
      by_cases h : i = j
      · subst h; simp
      · have : ¬ V.str i = V.str j := fun q => h (V.str.inj q)
        rw [decide_eq_false h, decide_eq_false this]
    constructor
    · intro q
      exact op_eq pins s σ H _ _ v u Q I rx ry ⟨rfl, by rw [w]; exact q⟩
    · intro q
      exact op_ne pins s σ H _ _ v u Q I rx ry ⟨rfl, by rw [w]; exact q⟩
  · split at e
    · rename_i d1 d2 e1 e2
      split at e
      · rename_i sh
        cases e
        rw [Bool.and_eq_true] at sh
        have p1 : Dp X.K H x d1 := hK ▸ RD.dp sb da e1
        have p2 : Dp X.K H y d2 := hK ▸ RD.dp sb db e2
        exact ⟨fun q => op_eqD hu pins s σ H x y v u Q I rx ry ⟨d1, d2, p1, p2, sh.1, sh.2, q⟩, fun q => op_neD hu pins s σ H x y v u Q I rx ry ⟨d1, d2, p1, p2, sh.1, sh.2, q⟩⟩
      · cases e
    · cases e
theorem op_cmpI {op : CmpOp} {k : Int → Int → Bool} (h : OpR X (compareOp op) (rI0 fun i j => .bl (k i j))) {pins : List (Addr × Obj)} {s : Shared} {σ : L2.St} {H Z : Hp} {x y : V} {v u : Value} {Q : VK} {a b : D} {r : Vl} (I : Inv X pins σ H s) (rx : RelV x v) (ry : RelV y u)
    (sb : Same Z H) (da : RD g Z a x) (db : RD g Z b y) (e : (match a, b with | .int i, .int j => some (k i j) | _, _ => none).map vb = some r) (q : ∀ Z' H' v, Ext Z H Z' H' → Same Z' H' → RF g H Z' H' r v → Q v H') :
    wpAny (model X.prog X.w) X.A (compareOp op v u) (EP X pins σ Q) X.xe s := by
  split at e
  · cases e
    cases da
    cases db
    exact h pins s σ H _ _ v u Q I rx ry ⟨_, _, rfl, rfl, q Z H _ .refl sb (.b _)⟩
  · cases e
theorem op_cmp (hK : g.K = X.K) (hu : X.A.units + 64 < cLine) (op : CmpOp) : OpR X (compareOp op) (rB g (cmpV op)) := by
  rintro pins s σ H x y v u Q I rx ry ⟨Z, a, b, r, sb, da, db, e, q⟩
  unfold cmpV at e
  cases op with
  | Eq =>
    obtain ⟨k, e1, e2⟩ := Option.map_eq_some_iff.mp e
    subst e2
    exact (op_eqV hK hu I rx ry sb da db e1).1 (q Z H _ .refl sb (.b _))
  | NotEq =>
    obtain ⟨k, e1, e2⟩ := Option.map_eq_some_iff.mp e
    subst e2
    obtain ⟨k2, e3, e4⟩ := Option.map_eq_some_iff.mp (show (eqD a b).map not = some k from e1)
    subst e4
    exact (op_eqV hK hu I rx ry sb da db e3).2 (q Z H _ .refl sb (.b _))
  | Lt => exact op_cmpI op_lt I rx ry sb da db e q
  | LtE => exact op_cmpI op_le I rx ry sb da db e q
  | Gt => exact op_cmpI op_gt I rx ry sb da db e q
  | GtE => exact op_cmpI op_ge I rx ry sb da db e q
  | Is =>
    obtain ⟨k, e1, e2⟩ := Option.map_eq_some_iff.mp e
    subst e2
    have q' := q Z H _ .refl sb (.b _)
    unfold cmp at e1
    split at e1 <;> first | cases e1 | skip
    all_goals (try (split at e1 <;> cases e1 <;> cases db <;> cases da <;> exact op_isN pins s σ H _ _ v u Q I rx ry ⟨rfl, q'⟩))
    all_goals contradiction
  | IsNot =>
    obtain ⟨k, e1, e2⟩ := Option.map_eq_some_iff.mp e
    subst e2
    have q' := q Z H _ .refl sb (.b _)
    unfold cmp at e1
    split at e1 <;> first | cases e1 | skip
    all_goals (try (split at e1 <;> cases e1 <;> cases db <;> cases da <;> exact op_notN pins s σ H _ _ v u Q I rx ry ⟨rfl, q'⟩))
    all_goals contradiction
  | In => cases e
  | NotIn => cases e

/-! ### truth, items, slices -/
theorem truV {Z H : Hp} {x : D} {v : V} {k : Bool} (hK : g.K = X.K) (sb : Same Z H) (r : RD g Z x v) (e : tru x = some k) : TruV X.K v H k := by
  cases r with
  | non => cases e; rfl
  | bl b => cases e; rfl
  | int i => cases e; rfl
  | lst h rs => cases e; exact .inl ⟨_, hK ▸ (sqP_mono sb h).sq, by rw [rs.empty]⟩
  | tup h rs => cases e; exact .inr (.inl ⟨_, hK ▸ sqT_mono sb h, by rw [rs.empty]⟩)
  | str x => cases e
  | ty n => cases e
  | fn n => cases e
  | cl n => cases e
theorem atI_of {Z : Hp} {xs : List D} {vs : List V} {i : Int} {x : D} (r : RDs g Z xs vs) (e : at_ xs i = some x) : ∃ v, atI vs i = some v ∧ RD g Z x v := by
  have l := r.length
  unfold at_ at e
  unfold atI ixN
  by_cases h : 0 ≤ i
  · rw [if_pos h] at e
    have lt : i.toNat < xs.length := (List.getElem?_eq_some_iff.mp e).1
    obtain ⟨v, e2, q⟩ := r.get e
    refine ⟨v, ?_, q⟩
    rw [if_pos h, if_pos (by omega)]
    exact e2
  · rw [if_neg h] at e
    split at e
    · rename_i h2
      obtain ⟨v, e2, q⟩ := r.get e
      refine ⟨v, ?_, q⟩
      rw [if_neg h, if_pos (by omega), ← l]
      exact e2
    · cases e
/-- an item of a datum that can be read -/
theorem ixD (hK : g.K = X.K) {Z H : Hp} {a b x : D} {v u : V} {Q : VK} (sb : Same Z H) (ra : RD g Z a v) (rb : RD g Z b u) (e : index a b = some x) (q : ∀ w, RD g Z x w → Q w H) : rIx X.K v u H Q := by
  unfold index at e
  split at e
  · obtain ⟨p, vs, rfl, h, rs⟩ := ra.l
    cases rb
    obtain ⟨w, e2, r⟩ := atI_of rs e
    exact .inl ⟨p, vs, _, w, rfl, rfl, hK ▸ (sqP_mono sb h).sq, e2, q w r⟩
  · obtain ⟨p, vs, rfl, h, rs⟩ := ra.t
    cases rb
    obtain ⟨w, e2, r⟩ := atI_of rs e
    exact .inr (.inl ⟨p, vs, _, w, rfl, rfl, hK ▸ sqT_mono sb h, e2, q w r⟩)
  · cases e
theorem clip_eq (n d : Nat) (o : Option Int) : clip n d o = HT.sIx n d o := by cases o <;> rfl
theorem cutR {Z : Hp} {xs : List D} {vs : List V} (r : RDs g Z xs vs) (lo hi : Option Int) : RDs g Z (cut xs lo hi) (cutV vs lo hi) := by
  unfold cut cutV
  rw [r.length, clip_eq, clip_eq]
  exact (r.drop _).take _
/-- a slice -/
def rSl (g : G) : V → Option Int → Option Int → Hp → VK → Prop := fun x lo hi H Q => ∃ Z a r, Same Z H ∧ RD g Z a x ∧ slice a lo hi = some r ∧ ∀ Z' H' v, Ext Z H Z' H' → Same Z' H' → RF g H Z' H' r v → Q v H'
theorem sl_any (hK : g.K = X.K) : SlR X (rSl g) := by
  rintro pins s σ H x v vl vu lo hi sl Q I rx hs p1 p2 ⟨Z, a, r, sb, ra, e, q⟩
  unfold slice at e
  split at e
  · cases e
    obtain ⟨p, vs, rfl, h, rs⟩ := ra.l
    exact sl_list pins s σ H _ v vl vu lo hi sl Q I rx hs p1 p2 ⟨p, vs, rfl, hK ▸ (sqP_mono sb h).sq, fun b hb => q _ _ _ (.lay hb) (Same.lay sb hb) (.own sb hb (cutR rs lo hi))⟩
  · cases e
    obtain ⟨p, vs, rfl, h, rs⟩ := ra.t
    refine sl_tupA pins s σ H _ v vl vu lo hi sl Q I rx hs p1 p2 ⟨p, vs, rfl, hK ▸ sqT_mono sb h, fun w => ?_, fun _ b hb => q _ _ _ (.layT sb hb) (Same.layT sb hb) (.tup sb hb (cutR rs lo hi))⟩
    have k := cutR rs lo hi
    have e : cutV vs lo hi = vs := by
      unfold cutV
      rw [w.1, w.2, List.drop_zero, Nat.sub_zero, List.take_length]
    rw [e] at k
    exact q Z H _ .refl sb (.flat (.tup h k))
  · cases e
end
end MI

set_option Elab.async false
set_option linter.all false
set_option maxRecDepth 100000
set_option maxHeartbeats 4000000
/-! Calls: how arguments bind; what a def keeps; a def's call. -/
namespace MI
open PySem PySem.Spec PyProof.Rows L2

theorem forIn_is {τ α : Type} (nx : α → τ → τ) : ∀ (l : List α) (f : α → τ → Sem (ForInStep τ)) (i : τ), (∀ k a, l[k]? = some a → f a ((l.take k).foldl (fun s x => nx x s) i) = pure (.yield (nx a ((l.take k).foldl (fun s x => nx x s) i)))) →
    forIn l i f = (pure (l.foldl (fun s x => nx x s) i) : Sem τ)
  | [], f, i, _ => by rw [List.forIn_nil]; rfl
  | a :: r, f, i, h => by
    rw [List.forIn_cons, show f a i = pure (.yield (nx a i)) from h 0 a rfl]
    show forIn r (nx a i) f = _
    rw [forIn_is nx r f (nx a i) fun k b e => h (k + 1) b e]
    rfl
theorem lookup_zip {α : Type} {n : Str} : ∀ {ks : List Str} {ws : List α}, ws.length = ks.length → n ∈ ks → (ks.zip ws).lookup n = ws[ks.idxOf n]?
  | [], _, _, h => by simp at h
  | k :: ks, [], e, _ => by simp at e
  | k :: ks, w :: ws, e, h => by
    rw [List.zip_cons_cons, List.lookup_cons, List.idxOf_cons]
    by_cases q : n = k
    · subst q; simp
    · have h1 : (n == k) = false := by simpa using q
      have h2 : (k == n) = false := by simpa using fun z => q z.symm
      rw [h1, h2]
      have := lookup_zip (n := n) (ks := ks) (ws := ws) (by simpa using e) (by simpa [q] using h)
      simpa using this
theorem lookup_none {α : Type} {n : Str} : ∀ {l : List (Str × α)}, (∀ p ∈ l, p.1 ≠ n) → l.lookup n = none
  | [], _ => rfl
  | (k, v) :: r, h => by
    have h1 : (n == k) = false := by simpa using fun z => h (k, v) List.mem_cons_self z.symm
    rw [List.lookup_cons, h1]
    exact lookup_none fun p hp => h p (List.mem_cons_of_mem _ hp)
theorem lookup_app {α : Type} {n : Str} : ∀ {l m : List (Str × α)}, (l ++ m).lookup n = (l.lookup n).or (m.lookup n)
  | [], _ => by simp
  | (k, v) :: r, m => by
    rw [List.cons_append, List.lookup_cons, List.lookup_cons]
    cases n == k
    · exact lookup_app
    · rfl
def plainArgs (as : List Arg) : Arguments := { posonlyargs := [], args := as, vararg := none, kwonlyargs := [], kw_defaults := [], kwarg := none, defaults := [] }
theorem filterMap_zip {α β : Type} (f : α → Option β) : ∀ (ps : List α) (vs : List β), vs.length = ps.length → (∀ (i : Nat) p v, ps[i]? = some p → vs[i]? = some v → f p = some v) → (ps.filterMap fun n => (f n).map fun v => (n, v)) = ps.zip vs
  | [], [], _, _ => rfl
  | [], _ :: _, e, _ => by simp at e
  | _ :: _, [], e, _ => by simp at e
  | p :: ps, v :: vs, e, h => by
    rw [List.filterMap_cons, h 0 p v rfl rfl]
    show (p, v) :: _ = _
    rw [filterMap_zip f ps vs (by simpa using e) fun i q w a b => h (i + 1) q w a b]
    rfl
theorem bind_args {fd : FuncData} {as : List Arg} {ps ks : List Str} {us ws vs : List Value} (hp : fd.params = plainArgs as) (ha : as.map (·.arg) = ps) (hd : fd.defaults = .none) (hz : ps.length = us.length + ks.length) (hw : ws.length = ks.length) (hk : ∀ k ∈ ks, k ∈ ps)
    (nd : ks.Nodup) (fr : ∀ k ∈ ks, ∀ (i : Nat), i < us.length → ps[i]? ≠ some k) (hv : vs.length = ps.length) (hl : ∀ (i : Nat) p v, ps[i]? = some p → vs[i]? = some v → ((ps.zip us) ++ (ks.zip ws)).lookup p = some v) : bindArgs fd ⟨us, ks.zip ws⟩ = pure (ps.zip vs) := by
  unfold bindArgs
  rw [hp, hd]
  simp only [plainArgs, List.map_nil, List.nil_append, ha]
  have fold : ∀ (l : List (Str × Value)) (s : List (Str × Value) × List (Str × Value)), l.foldl (fun s kv => (s.1 ++ [kv], s.2)) s = (s.1 ++ l, s.2) := fun l => by
    induction l with
    | nil => intro s; simp
    | cons a r ih => intro s; rw [List.foldl_cons, ih]; simp
  rw [forIn_is (fun (kv : Str × Value) (s : List (Str × Value) × List (Str × Value)) => (s.1 ++ [kv], s.2))]
  · rw [fold]
    have l1 : ¬ (decide (us.length > ps.length) && (none : Option Arg).isNone) = true := by simp; omega
    have some_of : ∀ p ∈ ps, ((ps.zip us ++ ks.zip ws).lookup p).isNone = false := fun p hp => by
      obtain ⟨i, hi⟩ := List.getElem?_of_mem hp
      have : i < vs.length := by rw [hv]; exact (List.getElem?_eq_some_iff.mp hi).1
      rw [hl i p _ hi (List.getElem?_eq_getElem this)]
      rfl
    have e2 : (List.filter (fun n => ((ps.zip us ++ ks.zip ws).lookup n).isNone) ps) = [] := by
      rw [List.filter_eq_nil_iff]
      intro p hp
      rw [some_of p hp]
      decide
    have e3 : (ps.filterMap fun n => (List.lookup n (ps.zip us ++ ks.zip ws)).map fun x => (n, x)) = ps.zip vs := filterMap_zip _ ps vs hv hl
    have q0 : seqItems? Value.none = pure none := rfl
    show ((do let x ← seqItems? Value.none; _) : Sem _) = _
    rw [q0]
    simp only [pure_bind, Option.getD_none, List.drop_nil, List.length_nil, Nat.sub_zero, List.take_length, List.append_nil, e2, e3, Nat.zero_sub]
    rw [if_neg l1, if_neg (by decide), List.zip_nil_right, List.forIn_nil]
    simp only [pure_bind, List.forIn_nil, List.isEmpty_nil, Bool.not_true, Bool.false_eq_true, if_false, e3]
  · intro k a e
    rw [fold]
    have hm : a ∈ ks.zip ws := List.mem_of_getElem? e
    obtain ⟨n, v⟩ := a
    have hn : n ∈ ks := (List.of_mem_zip hm).1
    have c1 : ps.contains n = true := by simpa using hk n hn
    have no : (List.lookup n (ps.zip us ++ (ks.zip ws).take k)).isSome = false := by
      rw [lookup_none]
      · rfl
      · intro p hp z
        rcases List.mem_append.mp hp with q | q
        · obtain ⟨i, hi⟩ := List.getElem?_of_mem q
          have hi2 := List.getElem?_zip_eq_some.mp hi
          refine fr n hn i (List.getElem?_eq_some_iff.mp hi2.2).1 ?_
          rw [hi2.1, z]
        · obtain ⟨i, hi⟩ := List.getElem?_of_mem q
          rw [List.getElem?_take] at hi
          split at hi
          · rename_i lt
            have a1 := (List.getElem?_zip_eq_some.mp hi).1
            have a2 := (List.getElem?_zip_eq_some.mp e).1
            have a1' : ks[i]? = some n := by rw [a1, z]
            have := (List.getElem?_inj (List.getElem?_eq_some_iff.mp a1').1 nd).mp (a1'.trans a2.symm)
            omega
          · cases hi
    simp only [c1, no, Bool.true_or, if_true]
    rfl

/-! ### a def's promise, where no repr runs around it -/
structure FnG (P : Program) (w : World) (K : PySem.W.Frag) (mg : Str → Option Value) (base : Heap) (k : Nat) (f : Addr) (fd : FuncData) (ps : List Str) (sp : Sp) : Prop where
  len : ∀ vs H Q E, sp vs H Q E → vs.length = ps.length
  run : ∀ (A : Around) (outer : List Env) (s : Shared) (H : Hp) (args : Args) (us : List Value) (vs : List V) (Q : VK) (E : XK), Room k A → A.guards = some [] → Env0 P w K mg base A outer s H → BindsTo s fd args (ps.zip us) →
    Vals vs us → sp vs H Q E → codeAny (model P w) A (.call (.ref f) args) (CR (L2.CX P w) outer P w H s Q E) s
theorem FnG.up {P : Program} {w : World} {K : PySem.W.Frag} {mg : Str → Option Value} {base : Heap} {j k : Nat} {f : Addr} {fd : FuncData} {ps : List Str} {sp : Sp} (F : FnG P w K mg base j f fd ps sp) (h : j ≤ k) : FnG P w K mg base k f fd ps sp :=
  ⟨F.len, fun A o s H a us vs Q E hr => F.run A o s H a us vs Q E (hr.mono h)⟩
theorem fnG_of {P : Program} {w : World} {K : PySem.W.Frag} {mg : Str → Option Value} {base : Heap} {k : Nat} {f : Addr} {name qual : Str} {params : Arguments} {body : List Stmt} {scope : Scope} {dV kV doc pm cdv ct oc : Value} {an od : Option Addr} {osl : Array (Option Value)}
    {N ps : List Str} {sp : Sp} (lk : K.lookup f = some ⟨oc, od, .func (PySem.W.fnOf name qual params body scope dV kV doc pm an cdv ct), osl⟩) (cd : PySem.W.codeIn K cdv qual = true) (S : FnScope N ps scope) (len : ∀ vs H Q E, sp vs H Q E → vs.length = ps.length)
    (hb : ∀ (A : Around) (outer : List Env) (s : Shared) (H : Hp) (vs : List V) (Q : VK) (E : XK), Room k (A.deeper (envOfC qual scope s.heap.objs.size f cdv)) → (A.deeper (envOfC qual scope s.heap.objs.size f cdv)).guards = some [] → sp vs H Q E →
      ∃ t, PSs (cxOf (L2.CX P w) P w K mg base N qual scope f cdv A outer s H E) body t ∧ t { nx := fun _ H' => Q .non H', rt := Q } (start N vs) H) : FnG P w K mg base (k + 1) f (PySem.W.fnOf name qual params body scope dV kV doc pm an cdv ct) ps sp where
  len := len
  run := fun A outer s H args us vs Q E hr hgd e0 hbd r hsp => by
    have hl := len _ _ _ _ hsp
    have KX : K.In s.heap := e0.mod.kin.keeps fun b o e => (e0.bs b o e).1
    have kinds : ∀ y ∈ ps.zip us, scope.names.lookup y.1 = some .local ∨ (scope.names.lookup y.1 = some .cell ∧ ((cellsFrom (s.heap.objs.size + 1) scope.names []).lookup y.1).isSome = true) := by
      rintro ⟨n, v⟩ hy
      exact (S.par n (List.of_mem_zip hy).1).imp id fun q => ⟨q, PySem.W.cellsFrom_some _ _ _ (.inl q)⟩
    refine codeAny_call_function hr.depth (KX _ _ lk) rfl S.co S.gen rfl (PySem.W.codeRec_of KX cd) (hbd _ _ _ _ ?_)
    refine wpAny_newFunctionEnv_cells S.kind kinds fun env he s1 x => ?_
    subst he
    have lim : s.heap.NoLimit := e0.mod.nolimit.keeps fun b o e => (e0.bs b o e).1
    refine ⟨lim.keeps x.toInCall.keep, codeAny_func ?_⟩
    obtain ⟨t, ht, hq⟩ := hb A outer s H vs Q E (hr.deeper _) hgd hsp
    refine wpAny_mono (ht.run [] s1 (start N vs) H _ (inv_start S hr.hd e0 hl r x) hq) (fun fl s' hs => ?_) fun _ _ hs => hs
    cases fl with
    | next =>
      obtain ⟨_, H', J, q⟩ := hs
      exact ⟨V.non, H', J.os, J.bare, J.base, J.hok, rfl, q⟩
    | ret u =>
      obtain ⟨v, _, H', J, rv, q⟩ := hs
      exact ⟨v, H', J.os, J.bare, J.base, J.hok, rv, q⟩
    | brk => exact hs.elim fun _ z => z.elim fun _ z => False.elim z.2
    | cont => exact hs.elim fun _ z => z.elim fun _ z => False.elim z.2

/-! ### no star among arguments -/
def noStar : Expr → Bool
  | .Starred _ _ => false
  | _ => true
theorem star_cons {e : Expr} (h : noStar e = true) (es : List Expr) (env : Env) : starEach (e :: es) env = (false, eval e env) :: starEach es env := by
  cases e <;> first | rfl | cases h
theorem star_any : ∀ {es : List Expr}, es.all noStar = true → ∀ (pos : Pos) (env : Env), (backTo pos (starEach es env)).any (·.1) = false
  | [], _, _, _ => rfl
  | e :: es, h, pos, env => by
    rw [List.all_cons, Bool.and_eq_true] at h
    rw [star_cons h.1]
    show (false || (backTo pos (starEach es env)).any (·.1)) = false
    rw [star_any h.2]
    rfl
/-- the keywords' names -/
def kwNames : List Keyword → Option (List Str)
  | [] => some []
  | ⟨some n, _, _⟩ :: r => (kwNames r).map (n :: ·)
  | ⟨none, _, _⟩ :: _ => none
theorem kw_facts : ∀ {kws : List Keyword} {ks : List Str}, kwNames kws = some ks → ∀ (pos : Pos) (env : Env), (backToKw pos (keywordEach kws env)).all (·.1.isSome) = true ∧ (backToKw pos (keywordEach kws env)).filterMap (·.1) = ks ∧ (backToKw pos (keywordEach kws env)).any (·.1.isNone) = false
  | [], ks, h, _, _ => by cases h; exact ⟨rfl, rfl, rfl⟩
  | ⟨none, _, _⟩ :: _, _, h, _, _ => by cases h
  | ⟨some n, v, p⟩ :: r, ks, h, pos, env => by
    obtain ⟨k2, h2, rfl⟩ := Option.map_eq_some_iff.mp h
    obtain ⟨a, b, c⟩ := kw_facts h2 pos env
    refine ⟨?_, ?_, ?_⟩
    · show (true && (backToKw pos (keywordEach r env)).all (·.1.isSome)) = true
      rw [a]; rfl
    · show n :: (backToKw pos (keywordEach r env)).filterMap (·.1) = _
      rw [b]
    · show (false || (backToKw pos (keywordEach r env)).any (·.1.isNone)) = false
      rw [c]; rfl
/-- f(e, .., k = e, ..) of a def of the text; E: what is wanted of an exception, at the slots as they stand -/
def tCallG (sp : Sp) (gv : List V → List V → List V) (E : L2.St → XK) (t tk : TA) : TE := fun σ H Q => t σ H fun vs H1 => tk σ H1 fun zs H2 => sp (gv vs zs) H2 Q (E σ)
section
variable {X : Cx} {k : Nat} {f : Addr} {fd : FuncData} {ps ks : List Str} {sp : Sp} {E : L2.St → XK} {x : Str} {p pos : Pos} {es : List Expr} {kws : List Keyword} {t tk : TA} {gV : List V → List V → List V} {gU : List Value → List Value → List Value}
theorem run_G {pins : List (Addr × Obj)} {σ : L2.St} {H : Hp} {s : Shared} {Q : VK} {us ws : List Value} {vs zs : List V} (F : FnG X.prog X.w X.K X.mg X.base k f fd ps sp) (hr : Room k X.A) (gd : X.A.guards = some []) (hb : (gU us ws).length = ps.length → BindsTo s fd ⟨us, ks.zip ws⟩ (ps.zip (gU us ws)))
    (rel : Vals (gV vs zs) (gU us ws)) (hx : PassesAt (L2.CX X.prog X.w) X σ (E σ)) (I : Inv X pins σ H s) (h : sp (gV vs zs) H Q (E σ)) : wpAny (model X.prog X.w) X.A (call (.ref f) us (ks.zip ws)) (EP X pins σ Q) X.xe s := by
  have hl : (gU us ws).length = ps.length := by rw [← rel.length]; exact F.len _ _ _ _ h
  refine wpAny_call (codeAny_mono (F.run X.A X.stack s H ⟨us, ks.zip ws⟩ _ _ Q (E σ) hr gd I.env0 (hb hl) rel h) fun r s' hq => ?_)
  cases r with
  | error e => exact hx pins H s e s' I hq
  | ok fl => cases fl with
    | ret u => exact I.after hq
    | next => exact hq.elim
    | brk => exact hq.elim
    | cont => exact hq.elim
theorem pe_G (F : FnG X.prog X.w X.K X.mg X.base k f fd ps sp) (hr : Room k X.A) (gd : X.A.guards = some []) (hg : Gl X x) (hm : X.mg x = some (.ref f)) (hk : PySem.W.keepIn X.K (.ref f) = true) (db : (x == ("__debug__" : Str)) = false) (hx : ∀ σ, PassesAt (L2.CX X.prog X.w) X σ (E σ))
    (hb : ∀ (s : Shared) (us ws : List Value), us.length = es.length → ws.length = ks.length → BindsTo s fd ⟨us, ks.zip ws⟩ (ps.zip (gU us ws))) (rel : ∀ vs zs us ws, Vals vs us → Vals zs ws → Vals (gV vs zs) (gU us ws))
    (lt : ∀ σ H Q, t σ H Q → t σ H fun vs H1 => vs.length = es.length ∧ Q vs H1) (lk : ∀ σ H Q, tk σ H Q → tk σ H fun vs H1 => vs.length = ks.length ∧ Q vs H1)
    (h0 : es = [] → ∀ σ H Q, t σ H Q → Q [] H) (ha : PA X es t) (hkw : PK X kws tk) (ns : es.all noStar = true) (kn : kwNames kws = some ks) : PE X (.Call (.Name x p) es kws pos) (tCallG sp gV E t tk) := by
  obtain ⟨k1, k2, k3⟩ := kw_facts kn pos X.env
  refine ⟨fun pins s σ H Q I h => wpAny_Call_Name_kw (ld_glob I hg hm ?_ db)⟩
  have behind : ∀ (us : List Value) (vs : List V) (s1 : Shared) (H1 : Hp), Inv X pins σ H1 s1 → Vals vs us → vs.length = es.length → tk σ H1 (fun zs H2 => sp (gV vs zs) H2 Q (E σ)) → wpAny (model X.prog X.w) X.A (evalAll ((backToKw pos (keywordEach kws X.env)).map (·.2)))
      (fun ws s2 => X.K.In s2.heap ∧ wpAny (model X.prog X.w) X.A (call (.ref f) ([] ++ us) (((backToKw pos (keywordEach kws X.env)).filterMap (·.1)).zip ws)) (EP X pins σ Q) X.xe s2) X.xe s1 := fun us vs s1 H1 I1 r ln q => by
    refine thn (hkw.run pos pins s1 σ H1 _ I1 (lk _ _ _ q)) fun ws s2 ⟨zs, H2, I2, rz, ln2, q2⟩ => ⟨I2.kIn, ?_⟩
    rw [k2]
    exact run_G F hr gd (fun _ => hb s2 us ws (r.length.symm.trans ln) (rz.length.symm.trans ln2)) (rel _ _ _ _ r rz) (hx σ) I2 q2
  cases es with
  | nil => exact PySem.W.callWith_KW0 (h₀ := X.base) I.ok.mod.kin hk k1 (behind [] [] s H I .nil rfl (h0 rfl σ H _ h)) (by show (false || _) = false; rw [k3]; rfl)
  | cons e es =>
    have n2 := ns
    rw [List.all_cons, Bool.and_eq_true] at n2
    refine PySem.W.callWith_KW (h₀ := X.base) I.ok.mod.kin hk k1 ?_ (by rw [star_any ns, k3]; rfl) (star_cons n2.1 es _)
    exact thn (ha.run pos pins s σ H _ I (lt _ _ _ h)) fun us s1 ⟨vs, H1, I1, r, ln, q⟩ => behind us vs s1 H1 I1 r ln q
end
end MI

set_option Elab.async false
set_option linter.all false
set_option maxRecDepth 100000
set_option maxHeartbeats 4000000
/-! Expressions: each construct's reading by the small evaluator. -/
namespace MI
open PySem PySem.Spec PyProof.Rows L2

/-- how a call goes: the arguments are slots of the callee -/
def spF (g : G) (Φ : Call) (i : Nat) : Sp := fun vs H Q E => ∃ (Z : Hp) (args : List Vl), Sr g Z (args.map some) (vs.map some) H ∧ match Φ i args with
  | .ok (v, os) _ => ∀ Z' H' x, Keep Z H (Own (args.map some) (vs.map some)) Z' H' → Sr g Z' os (vs.map some) H' → (∀ a, Own os (vs.map some) a → Own (args.map some) (vs.map some) a) → RF g H Z' H' v x → Q x H'
  | .ex c fs os => ∀ Z' H' dd, Keep Z H (Own (args.map some) (vs.map some)) Z' H' → Sr g Z' os (vs.map some) H' → (∀ a, Own os (vs.map some) a → Own (args.map some) (vs.map some) a) → RX g Z' H' fs dd → E (.ref (g.ca c)) dd H'
  | .no => False
structure Sg where
  name : Str
  ps : List Str
/-- where a piece of the text stands: its slots, its scope, the text's defs, the module's other names -/
structure Cc where
  N : List Str
  sc : Scope
  sg : List Sg
  gl : List (Str × D)
  mu : List Str
def bns : List Str := ["len", "abs", "max", "min", "int", "isinstance", "divmod", "repr", "all", "any", "sum", "sorted", "list", "tuple", "bool", "str", "range", "enumerate", "zip", "dict", "set", "reversed"]
structure OkX (g : G) (c : Cc) (W : WXX) (Φ : Call) (kk : Nat) (X : Cx) : Prop where
  hK : g.K = X.K
  hN : X.N = c.N
  nd : c.N.Nodup
  hs : X.env.scope = c.sc
  cm : X.calm = true
  hr : Room kk X.A
  gd : X.A.guards = some []
  tk : L2.Takes X W
  po : PassesOwn (model X.prog X.w) X.A X.env X.xe
  fnm : ∀ i S, c.sg[i]? = some S → ∃ (fd : FuncData) (as : List Arg), X.mg S.name = some (.ref (g.fa i)) ∧ PySem.W.keepIn X.K (.ref (g.fa i)) = true ∧ fd.params = plainArgs as ∧ as.map (·.arg) = S.ps ∧ fd.defaults = .none ∧ S.ps.Nodup ∧ FnG X.prog X.w X.K X.mg X.base kk (g.fa i) fd S.ps (spF g Φ i)
  glm : ∀ x d, (x, d) ∈ c.gl → ∃ (u : Value) (v : V), X.mg x = some u ∧ RelV v u ∧ RD g (fun _ => none) d v
  blt : ∀ x ∈ bns, X.mg x = none

section
variable {g : G} {c : Cc} {W : WXX} {Φ : Call} {kk : Nat} {X : Cx}
theorem emp_same {H : Hp} : Same (fun _ => none) H := fun _ _ e => nomatch e

/-! ### names, constants -/
theorem Keep.same {Z H Z' : Hp} {O : Addr → Prop} (z : Same Z Z') (n : ∀ a o, H a = some o → ¬ O a → Z a = none → Z' a = none) : Keep Z H O Z' H := ⟨z, fun _ _ e _ => e, n, fun _ e => e⟩
/-- a slot set to what its value still is -/
theorem Sr.put {Z H : Hp} {s : S} {σ : L2.St} {i : Nat} {v : Vl} {x : V} (st : Sr g Z s σ H) (hx : σ[i]? = some (some x)) (r : RV g Z H v x) (ow : ∀ t xs, v ≠ .own t xs) : Sr g Z (s.set i (some v)) σ H ∧ ∀ a, Own (s.set i (some v)) σ a → Own s σ a := by
  have key : ∀ (j : Nat) (t : Bool) (xs : List D), (s.set i (some v))[j]? = some (some (.own t xs)) → s[j]? = some (some (.own t xs)) := fun j t xs e => by
    by_cases hij : i = j
    · subst hij
      have hl : i < s.length := by
        have := (List.getElem?_eq_some_iff.mp e).1
        simpa using this
      rw [List.getElem?_set_self hl] at e
      cases e
      exact absurd rfl (ow t xs)
    · rwa [List.getElem?_set_ne hij] at e
  refine ⟨⟨by simpa using st.len, st.sub, fun j w e => ?_, fun j k t u xs ys a e1 e2 e3 e4 => st.inj j k t u xs ys a (key _ _ _ e1) (key _ _ _ e2) e3 e4⟩, fun a ⟨j, t, xs, e1, e2⟩ => ⟨j, t, xs, key _ _ _ e1, e2⟩⟩
  by_cases hij : i = j
  · subst hij
    have hl : i < s.length := by
      have := (List.getElem?_eq_some_iff.mp e).1
      simpa using this
    rw [List.getElem?_set_self hl] at e
    cases e
    exact ⟨x, hx, r⟩
  · rw [List.getElem?_set_ne hij] at e
    exact st.rel j w e
/-- an own list handed on -/
theorem rdV_own {Z H : Hp} {s : S} {σ : L2.St} {i : Nat} {t : Bool} {xs : List D} {w : Vl} (st : Sr g Z s σ H) (e : s[i]? = some (some (.own t xs))) (hw : w = .fz xs ∨ w = .d (.lst xs)) :
    ∃ x Z', σ[i]? = some (some x) ∧ Keep Z H (Own s σ) Z' H ∧ Sr g Z' (s.set i (some w)) σ H ∧ (∀ a, Own (s.set i (some w)) σ a → Own s σ a) ∧ RF g H Z' H (.d (.lst xs)) x := by
  obtain ⟨x, hx, a, vs, rfl, ha, za, rs⟩ := st.rel i _ e
  have hne : ∀ t xs, w ≠ .own t xs := by rcases hw with rfl | rfl <;> exact fun _ _ q => nomatch q
  have hl : i < s.length := (List.getElem?_eq_some_iff.mp e).1
  -- the slot forgotten first: the list is nobody's own then
  have st0 : Sr g Z (s.set i none) σ H := by
    have key : ∀ (j : Nat) (v : Vl), (s.set i none)[j]? = some (some v) → i ≠ j ∧ s[j]? = some (some v) := fun j v q => by
      by_cases hij : i = j
      · subst hij
        rw [List.getElem?_set_self hl] at q
        cases q
      · rw [List.getElem?_set_ne hij] at q
        exact ⟨hij, q⟩
    exact ⟨by simpa using st.len, st.sub, fun j v q => st.rel j v (key _ _ q).2, fun j k t u xs ys b e1 e2 e3 e4 => st.inj j k t u xs ys b (key _ _ e1).2 (key _ _ e2).2 e3 e4⟩
  have no : ¬ Own (s.set i none) σ a := by
    rintro ⟨j, u, ys, q1, q2⟩
    by_cases hij : i = j
    · subst hij
      rw [List.getElem?_set_self hl] at q1
      cases q1
    · rw [List.getElem?_set_ne hij] at q1
      exact hij (st.inj i j t u xs ys a e q1 hx q2)
  have st1 := st0.freeze ha za no
  have e2 : Same Z (upd Z a (.lst vs)) := fun b u q => by rw [upd_ne (ne_of_none q za)]; exact q
  have rd : RD g (upd Z a (.lst vs)) (.lst xs) (.ref a) := .lst (.inl (.inl upd_same)) (rs.mono e2)
  have rw' : RV g (upd Z a (.lst vs)) H w (.ref a) := by rcases hw with rfl | rfl <;> exact rd
  have st2 := (st1.put (v := w) hx rw' hne).1
  have o2 := (st1.put (v := w) hx rw' hne).2
  rw [List.set_set] at st2 o2
  refine ⟨_, _, hx, .same e2 fun b o q nb zb => ?_, st2, fun b q => ?_, .flat rd⟩
  · have hb : b ≠ a := by rintro rfl; exact nb ⟨i, t, xs, e, hx⟩
    rw [upd_ne hb]; exact zb
  · obtain ⟨j, u, ys, q1, q2⟩ := o2 b q
    by_cases hij : i = j
    · subst hij
      rw [List.getElem?_set_self hl] at q1
      cases q1
    · rw [List.getElem?_set_ne hij] at q1
      exact ⟨j, u, ys, q1, q2⟩
theorem rdV_ok {Z H : Hp} {s : S} {σ : L2.St} {i : Nat} {v : Vl} {s' : S} (st : Sr g Z s σ H) (e : rdV i s = .ok v s') : ∃ x Z', σ[i]? = some (some x) ∧ Keep Z H (Own s σ) Z' H ∧ Sr g Z' s' σ H ∧ (∀ a, Own s' σ a → Own s σ a) ∧ RF g H Z' H v x := by
  unfold rdV at e
  split at e
  · rename_i d hd
    cases e
    obtain ⟨x, hx, r⟩ := st.rel _ _ hd
    exact ⟨x, Z, hx, .refl, st, fun _ q => q, .flat r⟩
  · rename_i xs hd
    cases e
    exact rdV_own st hd (.inl rfl)
  · rename_i xs hd
    cases e
    exact rdV_own st hd (.inr rfl)
  · rename_i xs hd
    cases e
    obtain ⟨x, hx, r⟩ := st.rel _ _ hd
    exact ⟨x, Z, hx, .refl, st, fun _ q => q, .flat r⟩
  · cases e
theorem rdV_ex {i : Nat} {s s' : S} {k : Nat} {fs : List D} : rdV i s ≠ .ex k fs s' := fun e => by
  unfold rdV at e
  split at e <;> cases e
theorem d_var {i : Nat} {x : Str} {pos : Pos} (O : OkX g c W Φ kk X) (hN : c.N[i]? = some x) (hv : Vis c.sc x) (hd : (x == ("__debug__" : Str)) = false) (hcd : (x == ("__classdict__" : Str)) = false) : PE X (.Name x pos) (rdE g W Φ (.var i)) := by
  refine PE.mono (pe_var (i := i) (by rw [O.hN]; exact hN) (by rw [O.hs]; exact hv) hd hcd) fun σ H Q h => ?_
  obtain ⟨Z, s, st, h⟩ := h
  have h : Res g W σ Z H s (rdV i s) fun v x Z' H' => ∀ (x : V), RF g H Z' H' v x → Q x H' := h
  cases e : rdV i s with
  | ok v s' =>
    rw [e] at h
    obtain ⟨y, Z', e1, k, st', o, rf⟩ := rdV_ok st e
    exact ⟨y, e1, h Z' H k st' o y rf⟩
  | ex c fs s' => exact absurd e rdV_ex
  | no => rw [e] at h; exact h.elim
theorem d_con {e : Expr} {d : D} {v : V} (h : PE X e (tC v)) (r : RD g (fun _ => none) d v) : PE X e (rdE g W Φ (.con d)) := by
  refine PE.mono h fun σ H Q q => ?_
  obtain ⟨Z, s, st, q⟩ := q
  have q : Res g W σ Z H s (.ok (.d d) s) fun v x Z' H' => ∀ (x : V), RF g H Z' H' v x → Q x H' := q
  exact (q.now st) v (.flat (r.mono emp_same))

/-! ### operators -/
/-- the fresh value's reading, one step on -/
theorem RF.back {Z0 H0 Z1 H1 Z H : Hp} {O : Addr → Prop} {v : Vl} {x : V} (k : Keep Z0 H0 O Z1 H1) (r : RF g H1 Z H v x) : RF g H0 Z H v x := ⟨r.1, fun t xs a e1 e2 => k.f _ (r.2 t xs a e1 e2)⟩
/-- the end of a reading: a result that an operation on data gives -/
theorem fin_ofO {σ : L2.St} {H Z2 H2 : Hp} {s2 : S} {o : Option Vl} {Q : VK} (st2 : Sr g Z2 s2 σ H2) (kf : ∀ a, H2 a = none → H a = none) (h : Res g W σ Z2 H2 s2 (R.ofO o s2) fun v _ Z' H' => ∀ x, RF g H Z' H' v x → Q x H') :
    ∃ r, o = some r ∧ ∀ Z' H' u, Ext Z2 H2 Z' H' → Same Z' H' → RF g H2 Z' H' r u → Q u H' := by
  cases o with
  | none => exact h.elim
  | some r => exact ⟨r, rfl, fun Z' H' u k sb rf => h Z' H' (k.wide fun _ z => z.elim) (st2.ext k sb) (fun _ q => q) u ⟨rf.1, fun t xs a e1 e2 => kf _ (rf.2 t xs a e1 e2)⟩⟩
theorem Res.nowE {σ : L2.St} {H0 Z H : Hp} {s : S} {v : Vl} {Q : VK} {x : V} (h : Res g W σ Z H s (.ok v s) fun v _ Z' H' => ∀ x, RF g H0 Z' H' v x → Q x H') (st : Sr g Z s σ H) (rf : RF g H0 Z H v x) : Q x H := h Z H .refl st (fun _ q => q) x rf
theorem d_bin {a b : Expr} {ta tb : T} {op : Operator} {pos : Pos} (O : OkX g c W Φ kk X) (ha : PE X a (rdE g W Φ ta)) (hb : PE X b (rdE g W Φ tb)) : PE X (.BinOp a op b pos) (rdE g W Φ (.bin op ta tb)) := by
  refine PE.mono (pe_op (op_bin O.hK op) ha hb) fun σ H Q ⟨Z, s, st, h⟩ => ?_
  refine rdE_op (f := fun x s => (evE Φ tb s).bind fun y s => R.ofO (bin op x.dat y.dat) s) st h fun v s1 Z1 H1 x k1 st1 o1 rx h1 => ?_
  refine rdE_op (f := fun y s => R.ofO (bin op v.dat y.dat) s) st1 h1 fun w s2 Z2 H2 y k2 st2 o2 ry h2 => ?_
  obtain ⟨r, e, q⟩ := fin_ofO st2 (fun a e => k1.f a (k2.f a e)) h2
  exact ⟨Z2, _, _, r, st2.sub, rx.mono k2.z, ry, e, q⟩
theorem d_neg {a : Expr} {ta : T} {pos : Pos} (ha : PE X a (rdE g W Φ ta)) : PE X (.UnaryOp .USub a pos) (rdE g W Φ (.neg ta)) := by
  refine PE.mono (pe_un un_neg ha) fun σ H Q ⟨Z, s, st, h⟩ => ?_
  refine rdE_op (f := (fun x s => match x with | .d (.int i) => .ok (.d (.int (-i))) s | _ => .no : Vl → S → R Vl)) st h fun v s1 Z1 H1 x k1 st1 o1 rx h1 => ?_
  split at h1
  · cases rx
    exact ⟨_, rfl, (h1.now st1) _ (.flat (.int _))⟩
  · exact h1.elim
theorem d_cmp {a b : Expr} {ta tb : T} {op : CmpOp} {pos : Pos} (O : OkX g c W Φ kk X) (ha : PE X a (rdE g W Φ ta)) (hb : PE X b (rdE g W Φ tb)) (hm : behindInMarks op b = false) : PE X (.Compare a [op] [b] pos) (rdE g W Φ (.cmp op ta tb)) := by
  refine PE.mono (pe_cmpR (op_cmp O.hK O.hr.units op) ha hb hm) fun σ H Q ⟨Z, s, st, h⟩ => ?_
  refine rdE_op (f := fun x s => (evE Φ tb s).bind fun y s => R.ofO (cmpV op x.dat y.dat) s) st h fun v s1 Z1 H1 x k1 st1 o1 rx h1 => ?_
  refine rdE_op (f := fun y s => R.ofO (cmpV op v.dat y.dat) s) st1 h1 fun w s2 Z2 H2 y k2 st2 o2 ry h2 => ?_
  obtain ⟨r, e, q⟩ := fin_ofO st2 (fun a e => k1.f a (k2.f a e)) h2
  exact ⟨Z2, _, _, r, st2.sub, rx.mono k2.z, ry, e, q⟩

theorem d_nt {a : Expr} {ta : T} {pos : Pos} (O : OkX g c W Φ kk X) (ha : PE X a (rdE g W Φ ta)) : PE X (.UnaryOp .Not a pos) (rdE g W Φ (.nt ta)) := by
  refine PE.mono (pe_notT ha) fun σ H Q ⟨Z, s, st, h⟩ => ?_
  refine rdE_op (f := (fun x s => R.ofO ((tru x.dat).map fun b => .d (.bl (!b))) s : Vl → S → R Vl)) st h fun v s1 Z1 H1 x k1 st1 o1 rx h1 => ?_
  cases e : tru v.dat with
  | none => rw [e] at h1; exact h1.elim
  | some k =>
    rw [e] at h1
    exact ⟨k, truV O.hK st1.sub rx e, Res.nowE (v := .d (.bl (!k))) h1 st1 (.flat (.bl _))⟩
theorem d_chain {a b e : Expr} {ta tb tc : T} {op op' : CmpOp} {pos : Pos} (O : OkX g c W Φ kk X) (ha : PE X a (rdE g W Φ ta)) (hb : PE X b (rdE g W Φ tb)) (hc : PE X e (rdE g W Φ tc)) (hm : behindInMarks op' e = false) :
    PE X (.Compare a [op, op'] [b, e] pos) (rdE g W Φ (.chain op op' ta tb tc)) := by
  refine PE.mono (pe_chain (op_cmp O.hK O.hr.units op) (op_cmp O.hK O.hr.units op') ha hb hc hm) fun σ H Q ⟨Z, s, st, h⟩ => ?_
  refine rdE_op (f := (fun x s => (evE Φ tb s).bind fun y s => match cmp op x.dat y.dat with
    | some true => (evE Φ tc s).bind fun z s => R.ofO ((cmp op' y.dat z.dat).map fun b => .d (.bl b)) s
    | some false => .ok (.d (.bl false)) s
    | none => .no : Vl → S → R Vl)) st h fun v s1 Z1 H1 x k1 st1 o1 rx h1 => ?_
  refine rdE_op (f := (fun y s => match cmp op v.dat y.dat with
    | some true => (evE Φ tc s).bind fun z s => R.ofO ((cmp op' y.dat z.dat).map fun b => .d (.bl b)) s
    | some false => .ok (.d (.bl false)) s
    | none => .no : Vl → S → R Vl)) st1 h1 fun w s2 Z2 H2 y k2 st2 o2 ry h2 => ?_
  cases e1 : cmp op v.dat w.dat with
  | none => rw [e1] at h2; exact h2.elim
  | some k =>
    rw [e1] at h2
    have e1' : cmpV op v.dat w.dat = some (vb k) := by unfold cmpV; rw [e1]; rfl
    refine ⟨Z2, _, _, _, st2.sub, rx.mono k2.z, ry, e1', fun Z3 H3 u k3 sb rf => ⟨k, ?_, ?_⟩⟩
    · have := rf.1
      cases this
      rfl
    · have st3 := st2.ext k3 sb
      cases k with
      | false =>
        have h2 : Res g W σ Z2 H2 s2 (.ok (.d (.bl false)) s2) fun v x Z' H' => ∀ x, RF g H Z' H' v x → Q x H' := h2
        exact iteF ((Res.rebase h2 (k3.wide fun _ z => z.elim) (fun _ q => q)).now st3 _ (.flat (.bl _)))
      | true =>
        have h2 : Res g W σ Z2 H2 s2 ((evE Φ tc s2).bind fun z s => R.ofO (cmpV op' w.dat z.dat) s) fun v x Z' H' => ∀ x, RF g H Z' H' v x → Q x H' := h2
        refine iteT (rdE_op (f := fun z s => R.ofO (cmpV op' w.dat z.dat) s) st3 (Res.rebase h2 (k3.wide fun _ z => z.elim) (fun _ q => q)) fun z s4 Z4 H4 u4 k4 st4 o4 rz h4 => ?_)
        obtain ⟨r, e, q⟩ := fin_ofO st4 (fun a e => k1.f a (k2.f a (k3.f a (k4.f a e)))) h4
        exact ⟨Z4, _, _, r, st4.sub, (ry.mono k3.z).mono k4.z, rz, e, q⟩
theorem d_and {a b : Expr} {rest : List Expr} {ta tb : T} {pos : Pos} (O : OkX g c W Φ kk X) (ha : PE X a (rdE g W Φ ta)) (hb : PE X (.BoolOp .And (b :: rest) pos) (rdE g W Φ tb)) : PE X (.BoolOp .And (a :: b :: rest) pos) (rdE g W Φ (.and ta tb)) := by
  refine PE.mono (pe_andT ha hb) fun σ H Q ⟨Z, s, st, h⟩ => ?_
  refine rdE_op (f := (fun x s => match tru x.dat with
    | some true => evE Φ tb s
    | some false => .ok (.d x.dat) s
    | none => .no : Vl → S → R Vl)) st h fun v s1 Z1 H1 x k1 st1 o1 rx h1 => ?_
  cases e : tru v.dat with
  | none => rw [e] at h1; exact h1.elim
  | some k =>
    rw [e] at h1
    refine ⟨k, truV O.hK st1.sub rx e, ?_⟩
    cases k with
    | true => exact iteT ⟨Z1, s1, st1, Res.mono h1 fun u s2 Z2 H2 k2 st2 o2 q y rf => q y (rf.back k1)⟩
    | false => exact iteF (Res.nowE (v := .d v.dat) h1 st1 (.flat rx))
theorem d_or {a b : Expr} {rest : List Expr} {ta tb : T} {pos : Pos} (O : OkX g c W Φ kk X) (ha : PE X a (rdE g W Φ ta)) (hb : PE X (.BoolOp .Or (b :: rest) pos) (rdE g W Φ tb)) : PE X (.BoolOp .Or (a :: b :: rest) pos) (rdE g W Φ (.or ta tb)) := by
  refine PE.mono (pe_orT ha hb) fun σ H Q ⟨Z, s, st, h⟩ => ?_
  refine rdE_op (f := (fun x s => match tru x.dat with
    | some true => .ok (.d x.dat) s
    | some false => evE Φ tb s
    | none => .no : Vl → S → R Vl)) st h fun v s1 Z1 H1 x k1 st1 o1 rx h1 => ?_
  cases e : tru v.dat with
  | none => rw [e] at h1; exact h1.elim
  | some k =>
    rw [e] at h1
    refine ⟨k, truV O.hK st1.sub rx e, ?_⟩
    cases k with
    | false => exact iteF ⟨Z1, s1, st1, Res.mono h1 fun u s2 Z2 H2 k2 st2 o2 q y rf => q y (rf.back k1)⟩
    | true => exact iteT (Res.nowE (v := .d v.dat) h1 st1 (.flat rx))

/-! ### tests -/
def rdT (g : G) (W : WXX) (Φ : Call) (t : T) : TT := fun σ H Q => ∃ Z s, Sr g Z s σ H ∧ Res g W σ Z H s ((evE Φ t s).bind fun v s => R.ofO (tru v.dat) s) fun k _ _ H' => Q k H'
theorem PT.mono {X : Cx} {e : Expr} {t t' : TT} (h : PT X e t) (m : ∀ σ H Q, t' σ H Q → t σ H Q) : PT X e t' := ⟨fun pins s σ H Q I q => h.run pins s σ H Q I (m σ H Q q)⟩
/-- where a test asks its value's truth -/
def plainTest : Expr → Bool
  | .UnaryOp .Not _ _ => false
  | .BoolOp _ _ _ => false
  | .IfExp _ _ _ _ => false
  | .Compare _ _ _ _ => false
  | _ => true
theorem plain_is {e : Expr} (h : plainTest e = true) (env : Env) (whole : Sem Value) : isTrue e env whole = (do let v ← whole; standAt e.pos; holding [v] (truthy v)) := by
  cases e <;> first
    | rfl
    | cases h
    | (rename_i op _ _
       cases op <;> first | rfl | cases h)
theorem t_plain {e : Expr} {t : T} (O : OkX g c W Φ kk X) (h : PE X e (rdE g W Φ t)) (hp : plainTest e = true) : PT X e (rdT g W Φ t) := by
  refine PT.mono (pt_truth h fun w => plain_is hp X.env w) fun σ H Q ⟨Z, s, st, h⟩ => ?_
  refine rdE_op (f := fun v s => R.ofO (tru v.dat) s) st h fun v s1 Z1 H1 x k1 st1 o1 rx h1 => ?_
  cases e : tru v.dat with
  | none => rw [e] at h1; exact h1.elim
  | some k =>
    rw [e] at h1
    exact ⟨k, truV O.hK st1.sub rx e, Res.now (v := k) h1 st1⟩
end
end MI

set_option Elab.async false
set_option linter.all false
set_option maxRecDepth 100000
set_option maxHeartbeats 4000000
/-! Tests of comparisons, displays, items, slices, arguments, calls. -/
namespace MI
open PySem PySem.Spec PyProof.Rows L2
section
variable {g : G} {c : Cc} {W : WXX} {Φ : Call} {kk : Nat} {X : Cx}
theorem R.bind_bind {α β γ : Type} (r : R α) (f : α → S → R β) (h : β → S → R γ) : (r.bind f).bind h = r.bind fun x s => (f x s).bind h := by cases r <;> rfl
theorem t_cmp {a b : Expr} {ta tb : T} {op : CmpOp} {pos : Pos} (O : OkX g c W Φ kk X) (ha : PE X a (rdE g W Φ ta)) (hb : PE X b (rdE g W Φ tb)) (hm : behindInMarks op b = false) : PT X (.Compare a [op] [b] pos) (rdT g W Φ (.cmp op ta tb)) := by
  refine PT.mono (pt_cmpR (op_cmp O.hK O.hr.units op) ha hb hm) fun σ H Q ⟨Z, s, st, h⟩ => ?_
  have h : Res g W σ Z H s ((evE Φ ta s).bind fun x s => (evE Φ tb s).bind fun y s => (R.ofO (cmpV op x.dat y.dat) s).bind fun v s => R.ofO (tru v.dat) s) fun k _ _ H' => Q k H' := by
    have e : (evE Φ (.cmp op ta tb) s).bind (fun v s => R.ofO (tru v.dat) s) = (evE Φ ta s).bind fun x s => (evE Φ tb s).bind fun y s => (R.ofO (cmpV op x.dat y.dat) s).bind fun v s => R.ofO (tru v.dat) s := by
      show ((evE Φ ta s).bind fun x s => (evE Φ tb s).bind fun y s => R.ofO (cmpV op x.dat y.dat) s).bind _ = _
      rw [R.bind_bind]
      congr 1
      funext x s
      rw [R.bind_bind]
    rw [← e]
    exact h
  refine rdE_op (f := fun x s => (evE Φ tb s).bind fun y s => (R.ofO (cmpV op x.dat y.dat) s).bind fun v s => R.ofO (tru v.dat) s) st h fun v s1 Z1 H1 x k1 st1 o1 rx h1 => ?_
  refine rdE_op (f := fun y s => (R.ofO (cmpV op v.dat y.dat) s).bind fun v s => R.ofO (tru v.dat) s) st1 h1 fun w s2 Z2 H2 y k2 st2 o2 ry h2 => ?_
  cases e : cmp op v.dat w.dat with
  | none => unfold cmpV at h2; rw [e] at h2; exact h2.elim
  | some k =>
    have e' : cmpV op v.dat w.dat = some (vb k) := by unfold cmpV; rw [e]; rfl
    rw [e'] at h2
    refine ⟨Z2, _, _, _, st2.sub, rx.mono k2.z, ry, e', fun Z3 H3 u k3 sb rf => ⟨k, ?_, ?_⟩⟩
    · have := rf.1
      cases this
      rfl
    · have h2 : Res g W σ Z2 H2 s2 (.ok k s2) fun k _ _ H' => Q k H' := h2
      exact h2 Z3 H3 (k3.wide fun _ z => z.elim) (st2.ext k3 sb) fun _ q => q
theorem t_chain {a b e : Expr} {ta tb tc : T} {op op' : CmpOp} {pos : Pos} (O : OkX g c W Φ kk X) (ha : PE X a (rdE g W Φ ta)) (hb : PE X b (rdE g W Φ tb)) (hc : PE X e (rdE g W Φ tc)) (hm : behindInMarks op' e = false) :
    PT X (.Compare a [op, op'] [b, e] pos) (rdT g W Φ (.chain op op' ta tb tc)) := by
  refine PT.mono (pt_chain (op_cmp O.hK O.hr.units op) (op_cmp O.hK O.hr.units op') ha hb hc hm) fun σ H Q ⟨Z, s, st, h⟩ => ?_
  let inner : D → Vl → S → R Vl := fun x y s => match cmp op x y.dat with
    | some true => (evE Φ tc s).bind fun z s => R.ofO (cmpV op' y.dat z.dat) s
    | some false => .ok (.d (.bl false)) s
    | none => .no
  have h : Res g W σ Z H s ((evE Φ ta s).bind fun x s => (evE Φ tb s).bind fun y s => (inner x.dat y s).bind fun v s => R.ofO (tru v.dat) s) fun k _ _ H' => Q k H' := by
    have e : (evE Φ (.chain op op' ta tb tc) s).bind (fun v s => R.ofO (tru v.dat) s) = (evE Φ ta s).bind fun x s => (evE Φ tb s).bind fun y s => (inner x.dat y s).bind fun v s => R.ofO (tru v.dat) s := by
      show ((evE Φ ta s).bind fun x s => (evE Φ tb s).bind fun y s => inner x.dat y s).bind _ = _
      rw [R.bind_bind]
      congr 1
      funext x s
      rw [R.bind_bind]
    rw [← e]
    exact h
  refine rdE_op (f := fun x s => (evE Φ tb s).bind fun y s => (inner x.dat y s).bind fun v s => R.ofO (tru v.dat) s) st h fun v s1 Z1 H1 x k1 st1 o1 rx h1 => ?_
  refine rdE_op (f := fun y s => (inner v.dat y s).bind fun v s => R.ofO (tru v.dat) s) st1 h1 fun w s2 Z2 H2 y k2 st2 o2 ry h2 => ?_
  cases e1 : cmp op v.dat w.dat with
  | none => simp only [inner, e1] at h2; exact h2.elim
  | some k =>
    simp only [inner, e1] at h2
    have e1' : cmpV op v.dat w.dat = some (vb k) := by unfold cmpV; rw [e1]; rfl
    refine ⟨Z2, _, _, _, st2.sub, rx.mono k2.z, ry, e1', fun Z3 H3 u k3 sb rf => ⟨k, ?_, ?_⟩⟩
    · have := rf.1
      cases this
      rfl
    · have st3 := st2.ext k3 sb
      cases k with
      | false =>
        have h2 : Res g W σ Z2 H2 s2 (.ok false s2) fun k _ _ H' => Q k H' := h2
        exact iteF ⟨false, rfl, h2 Z3 H3 (k3.wide fun _ z => z.elim) st3 fun _ q => q⟩
      | true =>
        have h2 : Res g W σ Z2 H2 s2 ((evE Φ tc s2).bind fun z s => (R.ofO (cmpV op' w.dat z.dat) s).bind fun v s => R.ofO (tru v.dat) s) fun k _ _ H' => Q k H' := by
          have h2 : Res g W σ Z2 H2 s2 (((evE Φ tc s2).bind fun z s => R.ofO (cmpV op' w.dat z.dat) s).bind fun v s => R.ofO (tru v.dat) s) fun k _ _ H' => Q k H' := h2
          rwa [R.bind_bind] at h2
        refine iteT (rdE_op (f := fun z s => (R.ofO (cmpV op' w.dat z.dat) s).bind fun v s => R.ofO (tru v.dat) s) st3 (Res.rebase h2 (k3.wide fun _ z => z.elim) (fun _ q => q)) fun z s4 Z4 H4 u4 k4 st4 o4 rz h4 => ?_)
        cases e4 : cmp op' w.dat z.dat with
        | none => unfold cmpV at h4; rw [e4] at h4; exact h4.elim
        | some k' =>
          have e4' : cmpV op' w.dat z.dat = some (vb k') := by unfold cmpV; rw [e4]; rfl
          rw [e4'] at h4
          refine ⟨Z4, _, _, _, st4.sub, (ry.mono k3.z).mono k4.z, rz, e4', fun Z5 H5 u5 k5 sb5 rf5 => ⟨k', ?_, ?_⟩⟩
          · have := rf5.1
            cases this
            rfl
          · have h4 : Res g W σ Z4 H4 s4 (.ok k' s4) fun k _ _ H' => Q k H' := h4
            exact h4 Z5 H5 (k5.wide fun _ z => z.elim) (st4.ext k5 sb5) fun _ q => q
theorem t_and {a b : Expr} {rest : List Expr} {ta tb : T} {pos : Pos} (ha : PT X a (rdT g W Φ ta)) (hb : PW X (.BoolOp .And (b :: rest) pos) (rdT g W Φ tb)) : PW X (.BoolOp .And (a :: b :: rest) pos) (rdT g W Φ (.and ta tb)) := by
  refine ⟨fun whole pins s σ H Q I q => (pw_and ha hb).run whole pins s σ H Q I ?_⟩
  obtain ⟨Z, s, st, h⟩ := q
  let nx : Vl → S → R Vl := fun x s => match tru x.dat with
    | some true => evE Φ tb s
    | some false => .ok (.d x.dat) s
    | none => .no
  have h : Res g W σ Z H s ((evE Φ ta s).bind fun x s => (nx x s).bind fun v s => R.ofO (tru v.dat) s) fun k _ _ H' => Q k H' := by
    rw [← R.bind_bind]
    exact h
  refine ⟨Z, s, st, ?_⟩
  cases e : evE Φ ta s with
  | no => rw [e] at h; exact h.elim
  | ex c fs s' => rw [e] at h; exact h
  | ok v s1 =>
    rw [e] at h
    show Res g W σ Z H s (R.ofO (tru v.dat) s1) _
    have h : Res g W σ Z H s ((nx v s1).bind fun v s => R.ofO (tru v.dat) s) fun k _ _ H' => Q k H' := h
    cases e2 : tru v.dat with
    | none => simp only [nx, e2] at h; exact h.elim
    | some k =>
      simp only [nx, e2] at h
      intro Z1 H1 k1 st1 o1
      cases k with
      | true => exact iteT ⟨Z1, s1, st1, Res.rebase h k1 o1⟩
      | false =>
        have h : Res g W σ Z H s (R.ofO (tru (Vl.d v.dat).dat) s1) fun k _ _ H' => Q k H' := h
        have e3 : tru (Vl.d v.dat).dat = some false := e2
        rw [e3] at h
        exact iteF (h Z1 H1 k1 st1 o1)
theorem t_or {a b : Expr} {rest : List Expr} {ta tb : T} {pos : Pos} (ha : PT X a (rdT g W Φ ta)) (hb : PW X (.BoolOp .Or (b :: rest) pos) (rdT g W Φ tb)) : PW X (.BoolOp .Or (a :: b :: rest) pos) (rdT g W Φ (.or ta tb)) := by
  refine ⟨fun whole pins s σ H Q I q => (pw_or ha hb).run whole pins s σ H Q I ?_⟩
  obtain ⟨Z, s, st, h⟩ := q
  let nx : Vl → S → R Vl := fun x s => match tru x.dat with
    | some true => .ok (.d x.dat) s
    | some false => evE Φ tb s
    | none => .no
  have h : Res g W σ Z H s ((evE Φ ta s).bind fun x s => (nx x s).bind fun v s => R.ofO (tru v.dat) s) fun k _ _ H' => Q k H' := by
    rw [← R.bind_bind]
    exact h
  refine ⟨Z, s, st, ?_⟩
  cases e : evE Φ ta s with
  | no => rw [e] at h; exact h.elim
  | ex c fs s' => rw [e] at h; exact h
  | ok v s1 =>
    rw [e] at h
    show Res g W σ Z H s (R.ofO (tru v.dat) s1) _
    have h : Res g W σ Z H s ((nx v s1).bind fun v s => R.ofO (tru v.dat) s) fun k _ _ H' => Q k H' := h
    cases e2 : tru v.dat with
    | none => simp only [nx, e2] at h; exact h.elim
    | some k =>
      simp only [nx, e2] at h
      intro Z1 H1 k1 st1 o1
      cases k with
      | false => exact iteF ⟨Z1, s1, st1, Res.rebase h k1 o1⟩
      | true =>
        have h : Res g W σ Z H s (R.ofO (tru (Vl.d v.dat).dat) s1) fun k _ _ H' => Q k H' := h
        have e3 : tru (Vl.d v.dat).dat = some true := e2
        rw [e3] at h
        exact iteT (h Z1 H1 k1 st1 o1)
theorem t_not {a : Expr} {ta : T} {pos : Pos} (ha : PT X a (rdT g W Φ ta)) : PT X (.UnaryOp .Not a pos) (rdT g W Φ (.nt ta)) := by
  refine PT.mono (pt_not ha) fun σ H Q ⟨Z, s, st, h⟩ => ⟨Z, s, st, ?_⟩
  have h : Res g W σ Z H s (((evE Φ ta s).bind fun x s => R.ofO ((tru x.dat).map fun b => vb (!b)) s).bind fun v s => R.ofO (tru v.dat) s) fun k _ _ H' => Q k H' := h
  cases e : evE Φ ta s with
  | no => rw [e] at h; exact h.elim
  | ex c fs s' => rw [e] at h; exact h
  | ok v s1 =>
    rw [e] at h
    show Res g W σ Z H s (R.ofO (tru v.dat) s1) _
    have h : Res g W σ Z H s ((R.ofO ((tru v.dat).map fun b => vb (!b)) s1).bind fun v s => R.ofO (tru v.dat) s) fun k _ _ H' => Q k H' := h
    cases e2 : tru v.dat with
    | none => rw [e2] at h; exact h.elim
    | some k =>
      rw [e2] at h
      exact h

/-! ### displays -/
def rdIt (g : G) (W : WXX) (Φ : Call) (t : T) : TA := fun σ H Q => ∃ Z s, Sr g Z s σ H ∧ Res g W σ Z H s (evL Φ t s) fun ds _ Z' H' => ∀ xs, RDs g Z' ds xs → Q xs H'
theorem PA.mono {es : List Expr} {t t' : TA} (h : PA X es t) (m : ∀ σ H Q, t' σ H Q → t σ H Q) : PA X es t' := ⟨fun pos pins s σ H Q I q => h.run pos pins s σ H Q I (m σ H Q q)⟩
theorem l_nil : PA X [] (rdIt g W Φ .nil) := PA.mono pa_nil fun σ H Q ⟨Z, s, st, h⟩ => by
  have h : Res g W σ Z H s (.ok [] s) fun ds _ Z' H' => ∀ xs, RDs g Z' ds xs → Q xs H' := h
  exact h.now st [] .nil
theorem l_cons {e : Expr} {es : List Expr} {t ts : T} (h1 : PE X e (rdE g W Φ t)) (h2 : PA X es (rdIt g W Φ ts)) (ns : noStar e = true) : PA X (e :: es) (rdIt g W Φ (.cons t ts)) := by
  refine PA.mono (pa_cons h1 h2 (star_cons ns es _)) fun σ H Q ⟨Z, s, st, h⟩ => ?_
  refine rdE_of st (h.bind.mono fun v s1 Z1 H1 k1 st1 o1 q x rx => ⟨Z1, s1, st1, q.bind.mono fun ds s2 Z2 H2 k2 st2 o2 q2 xs rs => ?_⟩)
  have q2 : Res g W σ Z2 H2 s2 (.ok (v.dat :: ds) s2) fun ds _ Z' H' => ∀ xs, RDs g Z' ds xs → Q xs H' := q2
  exact q2.now st2 _ (.cons (rx.mono k2.z) rs)
theorem fresh_ext {Z H Z' H' : Hp} {p : Addr} {o : HO} (k : Ext Z H Z' H') (e : H p = some o) : H' p = some o := k.h p o e id
theorem d_tup {es : List Expr} {ts : T} {x1 : Nat} {pos : Pos} (h : PA X es (rdIt g W Φ ts)) : PE X (.Tuple es x1 pos) (rdE g W Φ (.tup ts)) := by
  refine PE.mono (pe_tup h) fun σ H Q ⟨Z, s, st, h⟩ => ⟨Z, s, st, h.bind.mono fun ds s1 Z1 H1 k1 st1 o1 q xs rs => ?_⟩
  have q : Res g W σ Z1 H1 s1 (if fitsL ds.length then .ok (.d (.tup ds)) s1 else .no) fun v _ Z' H' => ∀ x, RF g H Z' H' v x → Q x H' := q
  split at q
  · rename_i f
    refine ⟨by rw [← rs.length]; exact fitsL_le f, fun p hp => ?_⟩
    have rf : RF g H1 (upd Z1 p (.tup xs)) (upd H1 p (.tup xs)) (.d (.tup ds)) (.ref p) := .tup st1.sub hp rs
    exact q _ _ ((Ext.layT st1.sub hp).wide fun _ z => z.elim) (st1.ext (.layT st1.sub hp) (Same.layT st1.sub hp)) (fun _ q => q) _ (rf.back k1)
  · exact q.elim
theorem d_lst {es : List Expr} {ts : T} {pos : Pos} (h : PA X es (rdIt g W Φ ts)) : PE X (.List es pos) (rdE g W Φ (.lst ts)) := by
  refine PE.mono (pe_lst h) fun σ H Q ⟨Z, s, st, h⟩ => ⟨Z, s, st, h.bind.mono fun ds s1 Z1 H1 k1 st1 o1 q xs rs => ?_⟩
  have q : Res g W σ Z1 H1 s1 (if fitsL ds.length then .ok (.own false ds) s1 else .no) fun v _ Z' H' => ∀ x, RF g H Z' H' v x → Q x H' := q
  split at q
  · rename_i f
    refine ⟨by rw [← rs.length]; exact fitsL_le f, fun p hp => ?_⟩
    have rf : RF g H1 Z1 (upd H1 p (.lst xs)) (.own false ds) (.ref p) := .own st1.sub hp rs
    exact q _ _ ((Ext.lay hp).wide fun _ z => z.elim) (st1.ext (.lay hp) (Same.lay st1.sub hp)) (fun _ q => q) _ (rf.back k1)
  · exact q.elim

/-! ### a slot's datum, as it stands -/
/-- a list or a tuple that can be read: tracked as it is, whoever holds it -/
inductive RB (g : G) (Z H : Hp) : D → V → Prop where
  | d {x : D} {v : V} : RD g Z x v → RB g Z H x v
  | own {a : Addr} {xs : List D} {vs : List V} : H a = some (.lst vs) → RDs g Z xs vs → RB g Z H (.lst xs) (.ref a)
theorem peek_ok {Z H : Hp} {s : S} {σ : L2.St} {i : Nat} {x : D} (st : Sr g Z s σ H) (e : peek i s = some x) : ∃ v, σ[i]? = some (some v) ∧ RB g Z H x v := by
  unfold peek at e
  split at e
  · rename_i v hv
    cases e
    obtain ⟨u, hu, r⟩ := st.rel _ _ hv
    refine ⟨u, hu, ?_⟩
    cases v with
    | d y => exact .d r
    | fz y => exact .d r
    | own t xs =>
      obtain ⟨a, vs, rfl, ha, _, rs⟩ := r
      exact .own ha rs
  · cases e
theorem ixB (hK : g.K = X.K) {Z H : Hp} {a b x : D} {v u : V} {Q : VK} (sb : Same Z H) (ra : RB g Z H a v) (rb : RD g Z b u) (e : index a b = some x) (q : ∀ w, RD g Z x w → Q w H) : rIx X.K v u H Q := by
  cases ra with
  | d r => exact ixD hK sb r rb e q
  | own h rs =>
    unfold index at e
    split at e
    · rename_i h1
      cases h1
      cases rb
      obtain ⟨w, e2, r⟩ := atI_of rs e
      exact .inl ⟨_, _, _, w, rfl, rfl, .inl (.inl h), e2, q w r⟩
    · rename_i h1; cases h1
    · cases e
/-- an index that is no slice -/
def plainIx : Expr → Bool
  | .Slice _ _ _ _ => false
  | .Tuple _ _ _ => false
  | _ => true
theorem d_idx {a b : Expr} {ta tb : T} {pos : Pos} (O : OkX g c W Φ kk X) (ha : PE X a (rdE g W Φ ta)) (hb : PE X b (rdE g W Φ tb)) (hp : PlainIx b) (nv : ∀ i, ta ≠ .var i) : PE X (.Subscript a b pos) (rdE g W Φ (.idx ta tb)) := by
  refine PE.mono (pe_ix ix_seq ha hb hp) fun σ H Q ⟨Z, s, st, h⟩ => ?_
  have e : evE Φ (.idx ta tb) s = (evE Φ ta s).bind fun x s => (evE Φ tb s).bind fun y s => R.ofO ((index x.dat y.dat).map .d) s := by
    cases ta <;> first | rfl | exact absurd rfl (nv _)
  rw [e] at h
  refine rdE_op (f := fun x s => (evE Φ tb s).bind fun y s => R.ofO ((index x.dat y.dat).map Vl.d) s) st h fun v s1 Z1 H1 x k1 st1 o1 rx h1 => ?_
  refine rdE_op (f := fun y s => R.ofO ((index v.dat y.dat).map Vl.d) s) st1 h1 fun w s2 Z2 H2 y k2 st2 o2 ry h2 => ?_
  cases e : index v.dat w.dat with
  | none => rw [e] at h2; exact h2.elim
  | some d =>
    rw [e] at h2
    exact ixD O.hK st2.sub (rx.mono k2.z) ry e fun u ru => Res.nowE (v := .d d) h2 st2 (.flat ru)
theorem d_idxV {i : Nat} {x : Str} {b : Expr} {tb : T} {pos px : Pos} (O : OkX g c W Φ kk X) (ha : PE X (.Name x px) (tVar i)) (hb : PE X b (rdE g W Φ tb)) (hp : PlainIx b) : PE X (.Subscript (.Name x px) b pos) (rdE g W Φ (.idx (.var i) tb)) := by
  refine PE.mono (pe_ix ix_seq ha hb hp) fun σ H Q ⟨Z, s, st, h⟩ => ?_
  cases e0 : peek i s with
  | none =>
    have h : Res g W σ Z H s (match peek i s with
      | none => (.no : R Vl)
      | some _ => (evE Φ tb s).bind fun y s => match peek i s with
        | some x => R.ofO ((index x y.dat).map .d) s
        | none => .no) fun v _ Z' H' => ∀ x, RF g H Z' H' v x → Q x H' := h
    rw [e0] at h
    exact h.elim
  | some x0 =>
    let nx : Vl → S → R Vl := fun y s => match peek i s with
      | some x => R.ofO ((index x y.dat).map .d) s
      | none => .no
    have h : Res g W σ Z H s ((evE Φ tb s).bind nx) fun v _ Z' H' => ∀ x, RF g H Z' H' v x → Q x H' := by
      have h : Res g W σ Z H s (match peek i s with
        | none => (.no : R Vl)
        | some _ => (evE Φ tb s).bind nx) fun v _ Z' H' => ∀ x, RF g H Z' H' v x → Q x H' := h
      rw [e0] at h
      exact h
    obtain ⟨v0, hv, _⟩ := peek_ok st e0
    refine ⟨v0, hv, rdE_op (f := nx) st h fun w s2 Z2 H2 y k2 st2 o2 ry h2 => ?_⟩
    cases e1 : peek i s2 with
    | none => simp only [nx, e1] at h2; exact h2.elim
    | some x =>
      simp only [nx, e1] at h2
      obtain ⟨v1, hv1, rb⟩ := peek_ok st2 e1
      rw [hv] at hv1
      cases hv1
      cases e : index x w.dat with
      | none => rw [e] at h2; exact h2.elim
      | some d =>
        rw [e] at h2
        exact ixB O.hK st2.sub rb ry e fun u ru => Res.nowE (v := .d d) h2 st2 (.flat ru)
/-- a part of a slice -/
def rdP (g : G) (W : WXX) (Φ : Call) (t : T) : TO := fun σ H Q => ∃ Z s, Sr g Z s σ H ∧ Res g W σ Z H s (evP Φ t s) fun o _ _ H' => Q o H'
theorem PO.mono {e : Option Expr} {t t' : TO} (h : PO X e t) (m : ∀ σ H Q, t' σ H Q → t σ H Q) : PO X e t' := ⟨fun pins s σ H Q I q => h.run pins s σ H Q I (m σ H Q q)⟩
theorem p_none : PO X none (rdP g W Φ .nil) := PO.mono po_none fun σ H Q ⟨Z, s, st, h⟩ => by
  have h : Res g W σ Z H s (.ok none s) fun o _ _ H' => Q o H' := h
  exact h.now st
theorem p_some {e : Expr} {t : T} (h : PE X e (rdE g W Φ t)) : PO X (some e) (rdP g W Φ (.part t)) := PO.mono (po_some h) fun σ H Q ⟨Z, s, st, h⟩ => by
  refine rdE_op (f := (fun x s => match x with | .d (.int i) => .ok (some i) s | _ => .no : Vl → S → R (Option Int))) st h fun v s1 Z1 H1 x k1 st1 o1 rx h1 => ?_
  split at h1
  · cases rx
    exact ⟨_, rfl, h1.now st1⟩
  · exact h1.elim
theorem d_slc {e : Expr} {lo hi : Option Expr} {te tl th : T} {pos p2 : Pos} (O : OkX g c W Φ kk X) (he : PE X e (rdE g W Φ te)) (hl : PO X lo (rdP g W Φ tl)) (hh : PO X hi (rdP g W Φ th)) : PE X (.Subscript e (.Slice lo hi none p2) pos) (rdE g W Φ (.slc te tl th)) := by
  refine PE.mono (pe_slice (sl_any O.hK) he hl hh) fun σ H Q ⟨Z, s, st, h⟩ => ?_
  refine rdE_op (f := fun x s => (evP Φ tl s).bind fun l s => (evP Φ th s).bind fun h s => R.ofO (slice x.dat l h) s) st h fun v s1 Z1 H1 x k1 st1 o1 rx h1 => ?_
  refine ⟨Z1, s1, st1, h1.bind.mono fun l s2 Z2 H2 k2 st2 o2 h2 => ⟨Z2, s2, st2, h2.bind.mono fun u s3 Z3 H3 k3 st3 o3 h3 => ?_⟩⟩
  obtain ⟨r, e, q⟩ := fin_ofO st3 (fun a e => k1.f a (k2.f a (k3.f a e))) h3
  exact ⟨Z3, _, r, st3.sub, (rx.mono k2.z).mono k3.z, e, q⟩
end
end MI

set_option Elab.async false
set_option linter.all false
set_option maxRecDepth 100000
set_option maxHeartbeats 4000000
/-! Arguments, what is lent to a call, what comes back. -/
namespace MI
open PySem PySem.Spec PyProof.Rows L2
section
variable {g : G} {c : Cc} {W : WXX} {Φ : Call} {kk : Nat} {X : Cx}
/-- evaluated arguments: their values; new lists among them are new since H0, apart from one another -/
structure AgsR (g : G) (H0 Z H : Hp) (σ : L2.St) (ags : List Ag) (xs : List V) : Prop where
  len : ags.length = xs.length
  val : ∀ (j : Nat) v x, ags[j]? = some (.val v) → xs[j]? = some x → RV g Z H v x
  ref : ∀ (j i : Nat) x, ags[j]? = some (.ref i) → xs[j]? = some x → σ[i]? = some (some x)
  new : ∀ (j : Nat) t ys a, ags[j]? = some (.val (.own t ys)) → xs[j]? = some (.ref a) → H0 a = none
  apart : ∀ (j j' : Nat) t u ys zs a, ags[j]? = some (.val (.own t ys)) → ags[j']? = some (.val (.own u zs)) → xs[j]? = some (.ref a) → xs[j']? = some (.ref a) → j = j'
def rdA (g : G) (W : WXX) (Φ : Call) (t : T) : TA := fun σ H Q => ∃ Z s, Sr g Z s σ H ∧ Res g W σ Z H s (evA Φ t s) fun ags _ Z' H' => ∀ xs, AgsR g H Z' H' σ ags xs → Q xs H'
theorem RV.keep {Z H Z' H' : Hp} {O : Addr → Prop} {v : Vl} {x : V} (k : Keep Z H O Z' H') (r : RV g Z H v x) (no : ∀ t ys a, v = .own t ys → x = .ref a → ¬ O a) : RV g Z' H' v x := by
  cases v with
  | d y => exact RD.mono k.z r
  | fz y => exact RD.mono k.z r
  | own t ys =>
    obtain ⟨a, vs, rfl, ha, za, rs⟩ := r
    have n := no t ys a rfl rfl
    exact ⟨a, vs, rfl, k.h a _ ha n, k.n a _ ha n za, rs.mono k.z⟩
theorem AgsR.nil {H0 Z H : Hp} {σ : L2.St} : AgsR g H0 Z H σ [] [] := ⟨rfl, fun _ _ _ e => by simp at e, fun _ _ _ e => by simp at e, fun _ _ _ _ e => by simp at e, fun _ _ _ _ _ _ _ e => by simp at e⟩
/-- one more argument ahead: a value -/
theorem AgsR.val_cons {H0 Z1 H1 Z2 H2 : Hp} {σ : L2.St} {s1 : S} {v : Vl} {x : V} {ags : List Ag} {xs : List V} (rf : RF g H0 Z1 H1 v x) (k1 : ∀ a, H1 a = none → H0 a = none) (o1 : ∀ a, Own s1 σ a → H0 a ≠ none) (k : Keep Z1 H1 (Own s1 σ) Z2 H2)
    (r : AgsR g H1 Z2 H2 σ ags xs) : AgsR g H0 Z2 H2 σ (.val v :: ags) (x :: xs) := by
  have at1 : ∀ t ys a, v = .own t ys → x = .ref a → (∃ vs, H1 a = some (.lst vs)) := fun t ys a e1 e2 => by
    subst e1; subst e2
    obtain ⟨b, vs, e, hb, _⟩ := rf.1
    cases e
    exact ⟨vs, hb⟩
  have rv : RV g Z2 H2 v x := rf.1.keep k fun t ys a e1 e2 q => o1 a q (rf.2 t ys a e1 e2)
  refine ⟨by rw [List.length_cons, List.length_cons, r.len], fun j w y e1 e2 => ?_, fun j i y e1 e2 => ?_, fun j t ys a e1 e2 => ?_, fun j j' t u ys zs a e1 e2 e3 e4 => ?_⟩
  · cases j with
    | zero => simp at e1 e2; subst e1; subst e2; exact rv
    | succ j => exact r.val j w y (by simpa using e1) (by simpa using e2)
  · cases j with
    | zero => simp at e1
    | succ j => exact r.ref j i y (by simpa using e1) (by simpa using e2)
  · cases j with
    | zero => simp at e1 e2; exact rf.2 t ys a e1 e2
    | succ j => exact k1 a (r.new j t ys a (by simpa using e1) (by simpa using e2))
  · cases j with
    | zero =>
      cases j' with
      | zero => rfl
      | succ j' =>
        simp at e1 e3
        obtain ⟨vs, q⟩ := at1 t ys a e1 e3
        rw [r.new j' u zs a (by simpa using e2) (by simpa using e4)] at q
        cases q
    | succ j =>
      cases j' with
      | zero =>
        simp at e2 e4
        obtain ⟨vs, q⟩ := at1 u zs a e2 e4
        rw [r.new j t ys a (by simpa using e1) (by simpa using e3)] at q
        cases q
      | succ j' => rw [r.apart j j' t u ys zs a (by simpa using e1) (by simpa using e2) (by simpa using e3) (by simpa using e4)]
/-- one more ahead: a slot that is lent -/
theorem AgsR.ref_cons {H0 Z H : Hp} {σ : L2.St} {i : Nat} {x : V} {ags : List Ag} {xs : List V} (hx : σ[i]? = some (some x)) (r : AgsR g H0 Z H σ ags xs) : AgsR g H0 Z H σ (.ref i :: ags) (x :: xs) := by
  refine ⟨by rw [List.length_cons, List.length_cons, r.len], fun j w y e1 e2 => ?_, fun j i y e1 e2 => ?_, fun j t ys a e1 e2 => ?_, fun j j' t u ys zs a e1 e2 e3 e4 => ?_⟩
  · cases j with
    | zero => simp at e1
    | succ j => exact r.val j w y (by simpa using e1) (by simpa using e2)
  · cases j with
    | zero => simp at e1 e2; subst e1; subst e2; exact hx
    | succ j => exact r.ref j i y (by simpa using e1) (by simpa using e2)
  · cases j with
    | zero => simp at e1
    | succ j => exact r.new j t ys a (by simpa using e1) (by simpa using e2)
  · cases j with
    | zero => simp at e1
    | succ j =>
      cases j' with
      | zero => simp at e2
      | succ j' => rw [r.apart j j' t u ys zs a (by simpa using e1) (by simpa using e2) (by simpa using e3) (by simpa using e4)]
theorem a_nil : PA X [] (rdA g W Φ .nil) := PA.mono pa_nil fun σ H Q ⟨Z, s, st, h⟩ => by
  have h : Res g W σ Z H s (.ok [] s) fun ags _ Z' H' => ∀ xs, AgsR g H Z' H' σ ags xs → Q xs H' := h
  exact h.now st [] .nil
theorem own_old {Z H : Hp} {s s1 : S} {σ : L2.St} (st : Sr g Z s σ H) (o : ∀ a, Own s1 σ a → Own s σ a) : ∀ a, Own s1 σ a → H a ≠ none := fun a q n => by
  obtain ⟨vs, e, _⟩ := Own.some st (o a q)
  rw [n] at e; cases e
theorem a_cons {e : Expr} {es : List Expr} {t ts : T} (h1 : PE X e (rdE g W Φ t)) (h2 : PA X es (rdA g W Φ ts)) (ns : noStar e = true) (nv : ∀ i, t ≠ .var i) : PA X (e :: es) (rdA g W Φ (.cons t ts)) := by
  refine PA.mono (pa_cons h1 h2 (star_cons ns es _)) fun σ H Q ⟨Z, s, st, h⟩ => ?_
  have e : evA Φ (.cons t ts) s = (evE Φ t s).bind fun x s => (evA Φ ts s).bind fun vs s => .ok (.val x :: vs) s := by
    cases t <;> first | rfl | exact absurd rfl (nv _)
  rw [e] at h
  refine ⟨Z, s, st, h.bind.mono fun v s1 Z1 H1 k1 st1 o1 q x rf => ⟨Z1, s1, st1, q.bind.mono fun ags s2 Z2 H2 k2 st2 o2 q2 xs rs => ?_⟩⟩
  have q2 : Res g W σ Z2 H2 s2 (.ok (.val v :: ags) s2) fun ags _ Z' H' => ∀ xs, AgsR g H Z' H' σ ags xs → Q xs H' := q2
  exact q2.now st2 _ (.val_cons rf k1.f (own_old st o1) k2 rs)
theorem a_var {i : Nat} {x : Str} {px : Pos} {es : List Expr} {ts : T} (hv : PE X (.Name x px) (tVar i)) (h2 : PA X es (rdA g W Φ ts)) : PA X (.Name x px :: es) (rdA g W Φ (.cons (.var i) ts)) := by
  refine PA.mono (pa_cons hv h2 rfl) fun σ H Q ⟨Z, s, st, h⟩ => ?_
  let C : List Ag → S → Hp → Hp → Prop := fun ags _ Z' H' => ∀ xs, AgsR g H Z' H' σ ags xs → Q xs H'
  have h : Res g W σ Z H s (match s[i]? with
    | some (some (.own _ _)) => (evA Φ ts s).bind fun vs s => .ok (.ref i :: vs) s
    | _ => (rdV i s).bind fun x s => (evA Φ ts s).bind fun vs s => .ok (.val x :: vs) s) C := h
  split at h
  · rename_i t ys e
    obtain ⟨x, hx, _⟩ := st.rel _ _ e
    refine ⟨x, hx, Z, s, st, h.bind.mono fun ags s2 Z2 H2 k2 st2 o2 q2 xs rs => ?_⟩
    have q2 : Res g W σ Z2 H2 s2 (.ok (.ref i :: ags) s2) C := q2
    exact q2.now st2 _ (.ref_cons hx rs)
  · cases e : rdV i s with
    | no => rw [e] at h; exact h.elim
    | ex c fs s' => exact absurd e rdV_ex
    | ok v s1 =>
      rw [e] at h
      obtain ⟨x, Z1, hx, k1, st1, o1, rf⟩ := rdV_ok st e
      have h1 : Res g W σ Z1 H s1 ((evA Φ ts s1).bind fun vs s => .ok (.val v :: vs) s) C := Res.rebase h k1 o1
      refine ⟨x, hx, Z1, s1, st1, h1.bind.mono fun ags s2 Z2 H2 k2 st2 o2 q2 xs rs => ?_⟩
      have q2 : Res g W σ Z2 H2 s2 (.ok (.val v :: ags) s2) C := q2
      exact q2.now st2 _ (.val_cons rf (fun _ e => e) (own_old st o1) k2 rs)

/-! ### lending -/
structure Lent (g : G) (Z H : Hp) (σ : L2.St) (ags : List Ag) (xs : List V) (s s' : S) (us : List Vl) : Prop where
  len : us.length = ags.length
  rv : ∀ (j : Nat) u, us[j]? = some u → ∃ x, xs[j]? = some x ∧ RV g Z H u x
  own : ∀ (j : Nat) t ys, us[j]? = some (.own t ys) → ags[j]? = some (.val (.own t ys)) ∨ ∃ (i : Nat) (u : Bool), ags[j]? = some (.ref i) ∧ s[i]? = some (some (.own u ys)) ∧ s'[i]? = some none
  one : ∀ (j j' i : Nat) t ys u zs, us[j]? = some (.own t ys) → us[j']? = some (.own u zs) → ags[j]? = some (.ref i) → ags[j']? = some (.ref i) → j = j'
  old : ∀ (i : Nat) v, s'[i]? = some (some v) → s[i]? = some (some v)
  len' : s'.length = s.length
  kept : ∀ i : Nat, s'[i]? = s[i]? ∨ ∃ (j : Nat) (t : Bool) (ys : List D), ags[j]? = some (.ref i) ∧ s[i]? = some (some (.own t ys))
theorem get_cons {α : Type} {a : α} {l : List α} {j : Nat} {b : α} (h : (a :: l)[j]? = some b) : (j = 0 ∧ a = b) ∨ ∃ k, j = k + 1 ∧ l[k]? = some b := by
  cases j with
  | zero => left; simpa using h
  | succ k => right; exact ⟨k, rfl, by simpa using h⟩
theorem AgsR.tail {H0 Z H : Hp} {σ : L2.St} {a : Ag} {ags : List Ag} {xs : List V} (r : AgsR g H0 Z H σ (a :: ags) xs) : ∃ x ys, xs = x :: ys ∧ AgsR g H0 Z H σ ags ys := by
  cases xs with
  | nil => have := r.len; simp at this
  | cons x ys =>
    refine ⟨x, ys, rfl, by simpa using r.len, fun j v y e1 e2 => r.val (j + 1) v y (by simpa using e1) (by simpa using e2), fun j i y e1 e2 => r.ref (j + 1) i y (by simpa using e1) (by simpa using e2),
      fun j t zs b e1 e2 => r.new (j + 1) t zs b (by simpa using e1) (by simpa using e2), fun j j' t u ys zs b e1 e2 e3 e4 => ?_⟩
    have := r.apart (j + 1) (j' + 1) t u ys zs b (by simpa using e1) (by simpa using e2) (by simpa using e3) (by simpa using e4)
    omega
/-- a value ahead -/
theorem Lent.cons {Z H : Hp} {σ : L2.St} {ags : List Ag} {xs : List V} {s s' : S} {us : List Vl} {a : Ag} {v : Vl} {x : V} (l : Lent g Z H σ ags xs s s' us) (rv : RV g Z H v x) (ha : a = Ag.val v ∨ ∃ i, a = Ag.ref i ∧ ∀ t ys, v ≠ Vl.own t ys) : Lent g Z H σ (a :: ags) (x :: xs) s s' (v :: us) where
  len := by rw [List.length_cons, List.length_cons, l.len]
  rv := fun j u e => by
    rcases get_cons e with ⟨rfl, rfl⟩ | ⟨k, rfl, e⟩
    · exact ⟨x, rfl, rv⟩
    · obtain ⟨y, h1, h2⟩ := l.rv k u e
      exact ⟨y, by simpa using h1, h2⟩
  own := fun j t ys e => by
    rcases get_cons e with ⟨rfl, rfl⟩ | ⟨k, rfl, e⟩
    · rcases ha with rfl | ⟨i, _, h⟩
      · exact .inl rfl
      · exact absurd rfl (h t ys)
    · simpa using l.own k t ys e
  one := fun j j' i t ys u zs e1 e2 e3 e4 => by
    rcases get_cons e1 with ⟨rfl, rfl⟩ | ⟨k, rfl, e1⟩
    · rcases ha with rfl | ⟨i', _, h⟩
      · simp at e3
      · exact absurd rfl (h t ys)
    · rcases get_cons e2 with ⟨rfl, rfl⟩ | ⟨k', rfl, e2⟩
      · rcases ha with rfl | ⟨i', _, h⟩
        · simp at e4
        · exact absurd rfl (h u zs)
      · rw [l.one k k' i t ys u zs e1 e2 (by simpa using e3) (by simpa using e4)]
  old := l.old
  len' := l.len'
  kept := fun i => (l.kept i).imp id fun ⟨j, t, ys, e1, e2⟩ => ⟨j + 1, t, ys, by simpa using e1, e2⟩
theorem lend_is {H0 Z H : Hp} {σ : L2.St} : ∀ {ags : List Ag} {xs : List V} {s s' : S} {us : List Vl}, Sr g Z s σ H → AgsR g H0 Z H σ ags xs → lend ags s = some (us, s') → Lent g Z H σ ags xs s s' us
  | [], xs, s, s', us, st, r, e => by
    cases e
    exact ⟨rfl, fun _ _ e => by simp at e, fun _ _ _ e => by simp at e, fun _ _ _ _ _ _ _ e => by simp at e, fun _ _ e => e, rfl, fun _ => .inl rfl⟩
  | .val v :: ags, xs, s, s', us, st, r, e => by
    obtain ⟨x, ys, rfl, r2⟩ := r.tail
    obtain ⟨⟨vs, s2⟩, e1, e2⟩ := Option.map_eq_some_iff.mp (show (lend ags s).map (fun p => (v :: p.1, p.2)) = some (us, s') from e)
    cases e2
    exact (lend_is st r2 e1).cons (r.val 0 v x rfl rfl) (.inl rfl)
  | .ref i :: ags, xs, s, s', us, st, r, e => by
    obtain ⟨x, ys, rfl, r2⟩ := r.tail
    have hx : σ[i]? = some (some x) := r.ref 0 i x rfl rfl
    unfold lend at e
    split at e
    · rename_i t zs hs
      obtain ⟨⟨vs, s2⟩, e1, e2⟩ := Option.map_eq_some_iff.mp e
      cases e2
      have hl : i < s.length := (List.getElem?_eq_some_iff.mp hs).1
      have key : ∀ (j : Nat) (v : Vl), (s.set i none)[j]? = some (some v) → i ≠ j ∧ s[j]? = some (some v) := fun j v q => by
        by_cases hij : i = j
        · subst hij; rw [List.getElem?_set_self hl] at q; cases q
        · rw [List.getElem?_set_ne hij] at q; exact ⟨hij, q⟩
      have st0 : Sr g Z (s.set i none) σ H := ⟨by simpa using st.len, st.sub, fun j v q => st.rel j v (key _ _ q).2, fun j k t u xs ys b e1 e2 e3 e4 => st.inj j k t u xs ys b (key _ _ e1).2 (key _ _ e2).2 e3 e4⟩
      have l := lend_is st0 r2 e1
      have rv : RV g Z H (.own true zs) x := by
        obtain ⟨x', hx', q⟩ := st.rel i _ hs
        rw [hx] at hx'
        obtain rfl := Option.some.inj (Option.some.inj hx')
        exact q
      have gone : s2[i]? = some none := by
        have hl2 : i < s2.length := by rw [l.len']; simpa using hl
        cases q : s2[i]? with
        | none => rw [List.getElem?_eq_none_iff] at q; omega
        | some o =>
          cases o with
          | none => rfl
          | some v => exact absurd rfl (key _ _ (l.old i v q)).1
      refine ⟨by rw [List.length_cons, List.length_cons, l.len], fun j u q => ?_, fun j t' ys' q => ?_, fun j j' i' t' ys' u zs' q1 q2 q3 q4 => ?_, fun j v q => (key _ _ (l.old j v q)).2, by rw [l.len']; simp, fun j => ?_⟩
      · rcases get_cons q with ⟨rfl, rfl⟩ | ⟨k, rfl, q⟩
        · exact ⟨x, rfl, rv⟩
        · obtain ⟨y, h1, h2⟩ := l.rv k u q
          exact ⟨y, by simpa using h1, h2⟩
      · rcases get_cons q with ⟨rfl, q⟩ | ⟨k, rfl, q⟩
        · cases q
          exact .inr ⟨i, t, rfl, hs, gone⟩
        · rcases l.own k t' ys' q with h | ⟨i', u, h1, h2, h3⟩
          · exact .inl (by simpa using h)
          · exact .inr ⟨i', u, by simpa using h1, (key _ _ h2).2, h3⟩
      · have away : ∀ (k : Nat) (t : Bool) (ys : List D), vs[k]? = some (.own t ys) → ags[k]? = some (.ref i) → False := fun k t ys a b => by
          rcases l.own k t ys a with h | ⟨i2, u, h1, h2, _⟩
          · rw [b] at h; cases h
          · rw [b] at h1; cases h1; exact (key _ _ h2).1 rfl
        rcases get_cons q1 with ⟨rfl, q1⟩ | ⟨k, rfl, q1⟩
        · have q3 : Ag.ref i = Ag.ref i' := by simpa using q3
          cases q3
          rcases get_cons q2 with ⟨rfl, _⟩ | ⟨k', rfl, q2⟩
          · rfl
          · exact (away k' _ _ q2 (by simpa using q4)).elim
        · rcases get_cons q2 with ⟨rfl, q2⟩ | ⟨k', rfl, q2⟩
          · have q4 : Ag.ref i = Ag.ref i' := by simpa using q4
            cases q4
            exact (away k _ _ q1 (by simpa using q3)).elim
          · rw [l.one k k' i' t' ys' u zs' q1 q2 (by simpa using q3) (by simpa using q4)]
      · by_cases hij : i = j
        · subst hij
          exact .inr ⟨0, t, zs, rfl, hs⟩
        · rcases l.kept j with h | ⟨k, t', ys', h1, h2⟩
          · rw [List.getElem?_set_ne hij] at h
            exact .inl h
          · exact .inr ⟨k + 1, t', ys', by simpa using h1, (key _ _ h2).2⟩
    · rename_i zs hs
      obtain ⟨⟨vs, s2⟩, e1, e2⟩ := Option.map_eq_some_iff.mp e
      cases e2
      obtain ⟨x', hx', q⟩ := st.rel i _ hs
      rw [hx] at hx'
      obtain rfl := Option.some.inj (Option.some.inj hx')
      exact (lend_is st r2 e1).cons (v := .d (.lst zs)) q (.inr ⟨i, rfl, fun _ _ z => nomatch z⟩)
    · rename_i d hs
      obtain ⟨⟨vs, s2⟩, e1, e2⟩ := Option.map_eq_some_iff.mp e
      cases e2
      obtain ⟨x', hx', q⟩ := st.rel i _ hs
      rw [hx] at hx'
      obtain rfl := Option.some.inj (Option.some.inj hx')
      exact (lend_is st r2 e1).cons (v := .d d) q (.inr ⟨i, rfl, fun _ _ z => nomatch z⟩)
    · cases e

structure LentOk (g : G) (H0 Z H : Hp) (σ : L2.St) (xs : List V) (s s' : S) (us : List Vl) : Prop where
  callee : Sr g Z (us.map some) (xs.map some) H
  rest : Sr g Z s' σ H
  from_ : ∀ a, Own (us.map some) (xs.map some) a → H0 a = none ∨ (Own s σ a ∧ ¬ Own s' σ a)
  away : ∀ a, Own s' σ a → Own s σ a ∧ ¬ Own (us.map some) (xs.map some) a
theorem map_some {α : Type} {l : List α} {j : Nat} {v : α} (h : (l.map some)[j]? = some (some v)) : l[j]? = some v := by
  rw [List.getElem?_map] at h
  cases e : l[j]? with
  | none => rw [e] at h; cases h
  | some u => rw [e] at h; cases h; rfl
theorem some_map {α : Type} {l : List α} {j : Nat} {v : α} (h : l[j]? = some v) : (l.map some)[j]? = some (some v) := by
  rw [List.getElem?_map, h]; rfl
theorem lend_ok {H0 Z H : Hp} {σ : L2.St} {ags : List Ag} {xs : List V} {s s' : S} {us : List Vl} (st : Sr g Z s σ H) (o : ∀ a, Own s σ a → H0 a ≠ none) (r : AgsR g H0 Z H σ ags xs) (l : Lent g Z H σ ags xs s s' us) : LentOk g H0 Z H σ xs s s' us := by
  have st' : Sr g Z s' σ H := ⟨by rw [l.len', st.len], st.sub, fun j v q => st.rel j v (l.old j v q), fun j k t u xs ys b e1 e2 e3 e4 => st.inj j k t u xs ys b (l.old _ _ e1) (l.old _ _ e2) e3 e4⟩
  have fr : ∀ (j : Nat) t ys a, us[j]? = some (.own t ys) → xs[j]? = some (.ref a) → (ags[j]? = some (.val (.own t ys)) ∧ H0 a = none) ∨ ∃ (i : Nat) (u : Bool), ags[j]? = some (.ref i) ∧ s[i]? = some (some (.own u ys)) ∧ s'[i]? = some none ∧ σ[i]? = some (some (.ref a)) := fun j t ys a e1 e2 => by
    rcases l.own j t ys e1 with h | ⟨i, u, h1, h2, h3⟩
    · exact .inl ⟨h, r.new j t ys a h e2⟩
    · exact .inr ⟨i, u, h1, h2, h3, r.ref j i _ h1 e2⟩
  have frm : ∀ a, Own (us.map some) (xs.map some) a → H0 a = none ∨ (Own s σ a ∧ ¬ Own s' σ a) := fun a ⟨j, t, ys, e1, e2⟩ => by
    rcases fr j t ys a (map_some e1) (map_some e2) with ⟨_, h⟩ | ⟨i, u, h1, h2, h3, h4⟩
    · exact .inl h
    · refine .inr ⟨⟨i, u, ys, h2, h4⟩, fun ⟨k, t', zs, q1, q2⟩ => ?_⟩
      have hk := l.old k _ q1
      have : k = i := st.inj k i t' u zs ys a hk h2 q2 h4
      subst this
      rw [h3] at q1
      cases q1
  refine ⟨⟨by rw [List.length_map, List.length_map, l.len, r.len], st.sub, fun j v e => ?_, fun j j' t u ys zs a e1 e2 e3 e4 => ?_⟩, st', frm, fun a q => ⟨?_, fun z => ?_⟩⟩
  · obtain ⟨x, h1, h2⟩ := l.rv j v (map_some e)
    exact ⟨x, some_map h1, h2⟩
  · have b1 := map_some e1
    have b2 := map_some e2
    rcases fr j t ys a b1 (map_some e3) with ⟨h1, n1⟩ | ⟨i, w, h1, h2, h3, h4⟩
    · rcases fr j' u zs a b2 (map_some e4) with ⟨k1, n2⟩ | ⟨i', w', k1, k2, k3, k4⟩
      · exact r.apart j j' t u ys zs a h1 k1 (map_some e3) (map_some e4)
      · exact absurd n1 (o a ⟨i', w', zs, k2, k4⟩)
    · rcases fr j' u zs a b2 (map_some e4) with ⟨k1, n2⟩ | ⟨i', w', k1, k2, k3, k4⟩
      · exact absurd n2 (o a ⟨i, w, ys, h2, h4⟩)
      · have : i = i' := st.inj i i' w w' ys zs a h2 k2 h4 k4
        subst this
        exact l.one j j' i t ys u zs b1 b2 h1 k1
  · obtain ⟨i, t, ys, q1, q2⟩ := q
    exact ⟨i, t, ys, l.old i _ q1, q2⟩
  · rcases frm a z with n | ⟨_, n⟩
    · obtain ⟨i, t, ys, q1, q2⟩ := q
      exact o a ⟨i, t, ys, l.old i _ q1, q2⟩ n
    · exact n q

/-! ### what comes back -/
/-- a slot's list as it comes back -/
def Conv (o : Option Vl) (tag : Bool) (v : Vl) : Prop := (∃ t ys, o = some (.own t ys) ∧ v = .own tag ys) ∨ ∃ ys, o = some (.fz ys) ∧ (v = .fz ys ∨ v = .d (.lst ys))
def ownAt (s : S) (k : Nat) : Prop := ∃ t ys, s[k]? = some (some (.own t ys))
theorem back_is : ∀ (ags : List Ag) (os : List (Option Vl)) (s : S) (k : Nat) (v : Vl), (back ags os s)[k]? = some (some v) → os.length = ags.length →
    (s[k]? = some (some v) ∧ ∀ j : Nat, ags[j]? = some (.ref k) → ¬ ownAt s k) ∨ ∃ (j : Nat) (o : Option Vl) (tag : Bool) (ys : List D), ags[j]? = some (.ref k) ∧ os[j]? = some o ∧ s[k]? = some (some (.own tag ys)) ∧ ∃ tag', Conv o tag' v
  | [], os, s, k, v, e, _ => .inl ⟨by simpa [back] using e, fun j h => by simp at h⟩
  | .val w :: r, [], s, k, v, e, h => by simp at h
  | .ref i :: r, [], s, k, v, e, h => by simp at h
  | .val w :: r, o :: os, s, k, v, e, h => by
    rcases back_is r os s k v e (by simpa using h) with ⟨h1, h2⟩ | ⟨j, o', tag, ys, h1, h2, h3⟩
    · refine .inl ⟨h1, fun j q => ?_⟩
      rcases get_cons q with ⟨rfl, q⟩ | ⟨m, rfl, q⟩
      · cases q
      · exact h2 m q
    · exact .inr ⟨j + 1, o', tag, ys, by simpa using h1, by simpa using h2, h3⟩
  | .ref i :: r, o :: os, s, k, v, e, h => by
    have len : os.length = r.length := by simpa using h
    by_cases ow : ownAt s i
    · obtain ⟨t, zs, hs⟩ := ow
      have hl : i < s.length := (List.getElem?_eq_some_iff.mp hs).1
      -- the slot's new content
      obtain ⟨n, hn, hb⟩ : ∃ n : Option Vl, (∀ w, n = some w → Conv o t w) ∧ back (.ref i :: r) (o :: os) s = back r os (s.set i n) := by
        have e0 : back (.ref i :: r) (o :: os) s = back r os (match s[i]? with
          | some (some (.own tag _)) => s.set i (back1 o tag)
          | _ => s) := rfl
        rw [e0, hs]
        refine ⟨back1 o t, fun w q => ?_, rfl⟩
        unfold back1 at q
        split at q
        · rename_i t' ys
          cases q
          exact .inl ⟨t', ys, rfl, rfl⟩
        · rename_i ys
          cases q
          exact .inr ⟨ys, rfl, by cases t <;> simp⟩
        · cases q
      rw [hb] at e
      rcases back_is r os (s.set i n) k v e len with ⟨h1, h2⟩ | ⟨j, o', tag, ys, h1, h2, h3, h4⟩
      · by_cases hik : i = k
        · subst hik
          rw [List.getElem?_set_self hl] at h1
          have h1 : n = some v := Option.some.inj h1
          exact .inr ⟨0, o, t, zs, rfl, rfl, hs, t, hn v h1⟩
        · rw [List.getElem?_set_ne hik] at h1
          refine .inl ⟨h1, fun j q => ?_⟩
          rcases get_cons q with ⟨rfl, q⟩ | ⟨m, rfl, q⟩
          · cases q; exact absurd rfl hik
          · intro ⟨t', ys', q'⟩
            exact h2 m q ⟨t', ys', by rw [List.getElem?_set_ne hik]; exact q'⟩
      · by_cases hik : i = k
        · subst hik
          exact .inr ⟨j + 1, o', t, zs, by simpa using h1, by simpa using h2, hs, h4⟩
        · rw [List.getElem?_set_ne hik] at h3
          exact .inr ⟨j + 1, o', tag, ys, by simpa using h1, by simpa using h2, h3, h4⟩
    · have hb : back (.ref i :: r) (o :: os) s = back r os s := by
        have e0 : back (.ref i :: r) (o :: os) s = back r os (match s[i]? with
          | some (some (.own tag _)) => s.set i (back1 o tag)
          | _ => s) := rfl
        rw [e0]
        congr 1
        split
        · rename_i tag ys q
          exact absurd ⟨tag, ys, q⟩ ow
        · rfl
      rw [hb] at e
      rcases back_is r os s k v e len with ⟨h1, h2⟩ | ⟨j, o', tag, ys, h1, h2, h3⟩
      · refine .inl ⟨h1, fun j q => ?_⟩
        rcases get_cons q with ⟨rfl, q⟩ | ⟨m, rfl, q⟩
        · cases q; exact ow
        · exact h2 m q
      · exact .inr ⟨j + 1, o', tag, ys, by simpa using h1, by simpa using h2, h3⟩
theorem back_len : ∀ (ags : List Ag) (os : List (Option Vl)) (s : S), (back ags os s).length = s.length
  | [], _, s => by simp [back]
  | .val _ :: _, [], s => by simp [back]
  | .ref _ :: _, [], s => by simp [back]
  | .val _ :: r, _ :: os, s => back_len r os s
  | .ref i :: r, o :: os, s => by
    rw [back, back_len r os]
    split <;> simp
theorem back_ok {H0 Z H Z' H' : Hp} {σ : L2.St} {ags : List Ag} {xs : List V} {s s' : S} {us : List Vl} {os : List (Option Vl)} (st : Sr g Z s σ H) (o : ∀ a, Own s σ a → H0 a ≠ none) (r : AgsR g H0 Z H σ ags xs) (l : Lent g Z H σ ags xs s s' us) (L : LentOk g H0 Z H σ xs s s' us)
    (k : Keep Z H (Own (us.map some) (xs.map some)) Z' H') (so : Sr g Z' os (xs.map some) H') (oo : ∀ a, Own os (xs.map some) a → Own (us.map some) (xs.map some) a) : Sr g Z' (back ags os s) σ H' ∧ ∀ a, Own (back ags os s) σ a → Own s σ a := by
  have lo : os.length = ags.length := by rw [so.len, List.length_map, r.len]
  -- what a slot holds behind the call
  have cases' : ∀ (i : Nat) v, (back ags os s)[i]? = some (some v) → (s'[i]? = some (some v) ∧ s[i]? = some (some v)) ∨ ∃ (j : Nat) (x : V) (tag : Bool) (ys : List D) (ov : Option Vl) (tg : Bool), xs[j]? = some x ∧ σ[i]? = some (some x) ∧ os[j]? = some ov ∧ s[i]? = some (some (.own tag ys)) ∧ Conv ov tg v := fun i v e => by
    rcases back_is ags os s i v e lo with ⟨h1, h2⟩ | ⟨j, ov, tag, ys, h1, h2, h3, tg, h4⟩
    · refine .inl ⟨?_, h1⟩
      rcases l.kept i with q | ⟨j, t, ys, q1, q2⟩
      · rw [q]; exact h1
      · exact absurd ⟨t, ys, q2⟩ (h2 j q1)
    · have hj : j < xs.length := by
        have := (List.getElem?_eq_some_iff.mp h1).1
        rw [r.len] at this
        exact this
      have hx := List.getElem?_eq_getElem hj
      exact .inr ⟨j, _, tag, ys, ov, tg, hx, r.ref j i _ h1 hx, h2, h3, h4⟩
  have own' : ∀ (i : Nat) t ys a, (back ags os s)[i]? = some (some (.own t ys)) → σ[i]? = some (some (.ref a)) → (∃ u, s'[i]? = some (some (.own u ys)) ∧ s[i]? = some (some (.own u ys))) ∨ ∃ (j : Nat) (u w : Bool) (zs : List D), xs[j]? = some (.ref a) ∧ os[j]? = some (some (.own u ys)) ∧ s[i]? = some (some (.own w zs)) := fun i t ys a e hx => by
    rcases cases' i _ e with ⟨h1, h2⟩ | ⟨j, x, tag, zs, ov, tg, h1, h2, h3, h4, h5⟩
    · exact .inl ⟨t, h1, h2⟩
    · rw [hx] at h2
      cases h2
      rcases h5 with ⟨t', ys', rfl, q⟩ | ⟨ys', rfl, q⟩
      · cases q
        exact .inr ⟨j, t', tag, zs, h1, h3, h4⟩
      · rcases q with q | q <;> cases q
  refine ⟨⟨by rw [back_len, st.len], so.sub, fun i v e => ?_, fun i i' t u ys zs a e1 e2 e3 e4 => ?_⟩, fun a ⟨i, t, ys, e1, e2⟩ => ?_⟩
  · rcases cases' i v e with ⟨h1, h2⟩ | ⟨j, x, tag, ys, ov, tg, h1, h2, h3, h4, h5⟩
    · obtain ⟨x, hx, rv⟩ := st.rel i v h2
      refine ⟨x, hx, rv.keep k fun t ys a q1 q2 => ?_⟩
      subst q1; subst q2
      exact (L.away a ⟨i, t, ys, h1, hx⟩).2
    · refine ⟨x, h2, ?_⟩
      rcases h5 with ⟨t', ys', rfl, rfl⟩ | ⟨ys', rfl, q⟩
      · obtain ⟨x', hx', rv⟩ := so.rel j _ h3
        rw [some_map h1] at hx'
        cases hx'
        exact rv
      · obtain ⟨x', hx', rv⟩ := so.rel j _ h3
        rw [some_map h1] at hx'
        cases hx'
        rcases q with rfl | rfl <;> exact rv
  · rcases own' i t ys a e1 e3 with ⟨u1, h1, h2⟩ | ⟨j, u1, w1, z1, h1, h2, h3⟩
    · rcases own' i' u zs a e2 e4 with ⟨u2, k1, k2⟩ | ⟨j', u2, w2, z2, k1, k2, k3⟩
      · exact st.inj i i' u1 u2 ys zs a h2 k2 e3 e4
      · exact absurd (oo a ⟨j', u2, zs, k2, some_map k1⟩) (L.away a ⟨i, u1, ys, h1, e3⟩).2
    · rcases own' i' u zs a e2 e4 with ⟨u2, k1, k2⟩ | ⟨j', u2, w2, z2, k1, k2, k3⟩
      · exact absurd (oo a ⟨j, u1, ys, h2, some_map h1⟩) (L.away a ⟨i', u2, zs, k1, e4⟩).2
      · exact st.inj i i' w1 w2 z1 z2 a h3 k3 e3 e4
  · rcases own' i t ys a e1 e2 with ⟨u1, h1, h2⟩ | ⟨j, u1, w1, z1, h1, h2, h3⟩
    · exact ⟨i, u1, ys, h2, e2⟩
    · exact ⟨i, w1, z1, h3, e2⟩
end
end MI

set_option Elab.async false
set_option linter.all false
set_option maxRecDepth 100000
set_option maxHeartbeats 4000000
/-! Calls of the text's own defs. -/
namespace MI
open PySem PySem.Spec PyProof.Rows L2
section
variable {g : G} {c : Cc} {W : WXX} {Φ : Call} {kk : Nat} {X : Cx}
theorem pe_P {k : Nat} {f : Addr} {fd : FuncData} {ps : List Str} {sp : Sp} {E : L2.St → XK} {x : Str} {p pos : Pos} {es : List Expr} {t : TA} (F : FnG X.prog X.w X.K X.mg X.base k f fd ps sp) (hr : Room k X.A) (gd : X.A.guards = some []) (hg : Gl X x) (hm : X.mg x = some (.ref f)) (hk : PySem.W.keepIn X.K (.ref f) = true)
    (db : (x == ("__debug__" : Str)) = false) (hx : ∀ σ, PassesAt (L2.CX X.prog X.w) X σ (E σ)) (hb : ∀ (s : Shared) (us : List Value), us.length = ps.length → BindsTo s fd ⟨us, []⟩ (ps.zip us)) (h0 : es = [] → ∀ σ H Q, t σ H Q → Q [] H) (ha : PA X es t) (ns : es.all noStar = true) :
    PE X (.Call (.Name x p) es [] pos) (fun σ H Q => t σ H fun vs H1 => sp vs H1 Q (E σ)) := by
  refine ⟨fun pins s σ H Q I h => wpAny_Call_Name_kw (ld_glob I hg hm ?_ db)⟩
  have go : ∀ (us : List Value) (vs : List V) (s1 : Shared) (H1 : Hp), Inv X pins σ H1 s1 → Vals vs us → sp vs H1 Q (E σ) → wpAny (model X.prog X.w) X.A (call (.ref f) us) (EP X pins σ Q) X.xe s1 := fun us vs s1 H1 I1 r q => by
    have := run_G (ks := []) (ws := []) (zs := []) (gU := fun a _ => a) (gV := fun a _ => a) (vs := vs) (us := us) F hr gd (fun hl => by simpa using hb s1 us hl) r (hx σ) I1 q
    simpa using this
  cases es with
  | nil => exact PySem.W.callWith_K0 I.kIn hk (go [] [] s H I .nil (h0 rfl σ H _ h))
  | cons e es =>
    have n2 := ns
    rw [List.all_cons, Bool.and_eq_true] at n2
    refine PySem.W.callWith_K (h₀ := X.base) I.ok.mod.kin hk (thn (ha.run pos pins s σ H _ I h) fun us s1 ⟨vs, H1, I1, r, q⟩ => ⟨I1.kIn, go us vs s1 H1 I1 r q⟩) (star_cons n2.1 es _) (star_any n2.2 pos _)
theorem Keep.two {Z H Z1 H1 Z' H' : Hp} {O O1 : Addr → Prop} (a : Keep Z H O Z1 H1) (b : Keep Z1 H1 O1 Z' H') (o : ∀ x, O1 x → H x = none ∨ O x) : Keep Z H O Z' H' where
  z := a.z.trans b.z
  h := fun x u e k => b.h x u (a.h x u e k) fun q => (o x q).elim (fun n => by rw [n] at e; cases e) k
  n := fun x u e k z => b.n x u (a.h x u e k) (fun q => (o x q).elim (fun n => by rw [n] at e; cases e) k) (a.n x u e k z)
  f := fun x e => a.f x (b.f x e)
/-- how positional arguments bind -/
theorem bind_pos {fd : FuncData} {as : List Arg} {ps : List Str} {us : List Value} (hp : fd.params = plainArgs as) (ha : as.map (·.arg) = ps) (hd : fd.defaults = .none) (nd : ps.Nodup) (hl : us.length = ps.length) (s : Shared) : BindsTo s fd ⟨us, []⟩ (ps.zip us) := by
  refine .of_eq ?_
  have := bind_args (ks := []) (ws := []) (us := us) (vs := us) hp ha hd (by simp [hl]) rfl (fun _ h => by simp at h) List.nodup_nil (fun _ h => by simp at h) hl fun i p v e1 e2 => by
    rw [List.zip_nil_left, List.append_nil]
    have hp' : p ∈ ps := List.mem_of_getElem? e1
    rw [lookup_zip hl.symm.symm hp']
    have : ps.idxOf p = i := by
      have hi := (List.getElem?_eq_some_iff.mp e1)
      obtain ⟨hi, e⟩ := hi
      rw [← e]
      exact nd.idxOf_getElem i hi
    rw [this]
    exact e2
  simpa using this
/-- a call's arguments by place -/
theorem d_call {k : Nat} {sg : Sg} {p pos : Pos} {es : List Expr} {ts : T} (O : OkX g c W Φ kk X) (hS : c.sg[k]? = some sg) (hg : c.sc.names.lookup sg.name = some .globalImplicit) (db : (sg.name == ("__debug__" : Str)) = false) (ha : PA X es (rdA g W Φ ts)) (ns : es.all noStar = true) (hn : es = [] → ts = .nil) :
    PE X (.Call (.Name sg.name p) es [] pos) (rdE g W Φ (.call k ts)) := by
  obtain ⟨fd, as, hm, hk, hp, has, hd, nd, F⟩ := O.fnm k sg hS
  refine PE.mono (pe_P (E := fun σ => WE W σ) (t := rdA g W Φ ts) F O.hr O.gd (by show X.env.scope.names.lookup sg.name = _; rw [O.hs]; exact hg) hm hk db (fun σ => passAt O.tk σ) (fun s us hl => bind_pos hp has hd nd hl s) (fun e σ H Q h => ?_) ha ns) fun σ H Q ⟨Z, s, st, h⟩ => ?_
  · obtain ⟨Z, s, st, h⟩ := h
    rw [hn e] at h
    have h : Res g W σ Z H s (.ok [] s) fun ags _ Z' H' => ∀ xs, AgsR g H Z' H' σ ags xs → Q xs H' := h
    exact h.now st [] .nil
  · refine ⟨Z, s, st, ?_⟩
    let nx : List Ag → S → R Vl := fun vs s => match lend vs s with
      | none => .no
      | some (us, _) => match Φ k us with
        | .ok (v, os) _ => .ok v (back vs os s)
        | .ex c fs os => .ex c fs (back vs os s)
        | .no => .no
    have h : Res g W σ Z H s ((evA Φ ts s).bind nx) fun v _ Z' H' => ∀ x, RF g H Z' H' v x → Q x H' := h
    cases e : evA Φ ts s with
    | no => rw [e] at h; exact h.elim
    | ex c fs s' => rw [e] at h; exact h
    | ok ags s1 =>
      rw [e] at h
      intro Z1 H1 k1 st1 o1 xs rs
      have h : Res g W σ Z H s (nx ags s1) fun v _ Z' H' => ∀ x, RF g H Z' H' v x → Q x H' := h
      cases e1 : lend ags s1 with
      | none => simp only [nx, e1] at h; exact h.elim
      | some p =>
        obtain ⟨us, s2⟩ := p
        have old := own_old st o1
        have l := lend_is st1 rs e1
        have L := lend_ok st1 old rs l
        have ow : ∀ a, Own (us.map some) (xs.map some) a → H a = none ∨ Own s σ a := fun a q => (L.from_ a q).imp id fun z => o1 a z.1
        refine ⟨Z1, us, L.callee, ?_⟩
        cases e2 : Φ k us with
        | no => simp only [nx, e1, e2] at h; exact h.elim
        | ok r sr =>
          obtain ⟨v, os⟩ := r
          simp only [nx, e1, e2] at h
          intro Z' H' x k2 so oo rf
          obtain ⟨sb, ob⟩ := back_ok st1 old rs l L k2 so oo
          exact h Z' H' (k1.two k2 ow) sb (fun a q => o1 a (ob a q)) x (rf.back k1)
        | ex cc fs os =>
          simp only [nx, e1, e2] at h
          intro Z' H' dd k2 so oo rx
          obtain ⟨sb, ob⟩ := back_ok st1 old rs l L k2 so oo
          exact h Z' H' dd (k1.two k2 ow) sb (fun a q => o1 a (ob a q)) rx

/-! ### keywords -/
theorem PK.mono {kws : List Keyword} {t t' : TA} (h : PK X kws t) (m : ∀ σ H Q, t' σ H Q → t σ H Q) : PK X kws t' := ⟨fun pos pins s σ H Q I q => h.run pos pins s σ H Q I (m σ H Q q)⟩
theorem k_nil : PK X [] (rdIt g W Φ .nil) := PK.mono pk_nil fun σ H Q ⟨Z, s, st, h⟩ => by
  have h : Res g W σ Z H s (.ok [] s) fun ds _ Z' H' => ∀ xs, RDs g Z' ds xs → Q xs H' := h
  exact h.now st [] .nil
theorem k_cons {e : Expr} {kws : List Keyword} {t ts : T} {nm : Option Str} {kp : Pos} (h1 : PE X e (rdE g W Φ t)) (h2 : PK X kws (rdIt g W Φ ts)) : PK X (⟨nm, e, kp⟩ :: kws) (rdIt g W Φ (.cons t ts)) := by
  refine PK.mono (pk_cons h1 h2) fun σ H Q ⟨Z, s, st, h⟩ => ?_
  refine rdE_of st (h.bind.mono fun v s1 Z1 H1 k1 st1 o1 q x rx => ⟨Z1, s1, st1, q.bind.mono fun ds s2 Z2 H2 k2 st2 o2 q2 xs rs => ?_⟩)
  have q2 : Res g W σ Z2 H2 s2 (.ok (v.dat :: ds) s2) fun ds _ Z' H' => ∀ xs, RDs g Z' ds xs → Q xs H' := q2
  exact q2.now st2 _ (.cons (rx.mono k2.z) rs)
theorem bind_ok {α β : Type} {r : R α} {f : α → S → R β} {b : β} {s' : S} (h : r.bind f = .ok b s') : ∃ a s1, r = .ok a s1 ∧ f a s1 = .ok b s' := by
  cases r with
  | ok a s1 => exact ⟨a, s1, rfl, h⟩
  | ex c fs s1 => cases h
  | no => cases h
theorem evL_len : ∀ (t : T) {s s' : S} {ds : List D} {n : Nat}, plainLen t = some n → evL Φ t s = .ok ds s' → ds.length = n := by
  intro t
  induction t with
  | nil => intro s s' ds n h e; cases h; cases e; rfl
  | cons a r _ ih =>
    intro s s' ds n h e
    obtain ⟨m, h1, rfl⟩ := Option.map_eq_some_iff.mp h
    obtain ⟨x, s1, e1, e2⟩ := bind_ok (show (evE Φ a s).bind (fun x s => (evL Φ r s).bind fun xs s => .ok (x.dat :: xs) s) = .ok ds s' from e)
    obtain ⟨xs, s2, e3, e4⟩ := bind_ok e2
    cases e4
    rw [List.length_cons, ih h1 e3]
  | _ => intro s s' ds n h e; cases h
theorem rdIt_len {t : T} {n : Nat} (h : plainLen t = some n) : ∀ σ H Q, rdIt g W Φ t σ H Q → rdIt g W Φ t σ H fun vs H1 => vs.length = n ∧ Q vs H1 := fun σ H Q ⟨Z, s, st, q⟩ => ⟨Z, s, st, by
  cases e : evL Φ t s with
  | no => rw [e] at q; exact q.elim
  | ex c fs s' => rw [e] at q; exact q
  | ok ds s' =>
    rw [e] at q
    exact fun Z' H' k st' o xs rs => ⟨by rw [← rs.length]; exact evL_len t h e, q Z' H' k st' o xs rs⟩⟩
theorem pick_get {α : Type} {l : List α} : ∀ {perm : List Nat}, (∀ j ∈ perm, j < l.length) → (pick perm l).length = perm.length ∧ ∀ i : Nat, (pick perm l)[i]? = (perm[i]?).bind fun j => l[j]?
  | [], _ => ⟨rfl, fun i => by simp [pick]⟩
  | j :: perm, h => by
    obtain ⟨h1, h2⟩ := pick_get (perm := perm) fun k hk => h k (List.mem_cons_of_mem _ hk)
    have e : pick (j :: perm) l = l[j]'(h j List.mem_cons_self) :: pick perm l := by
      unfold pick
      rw [List.filterMap_cons, List.getElem?_eq_getElem (h j List.mem_cons_self)]
    rw [e]
    refine ⟨by rw [List.length_cons, h1, List.length_cons], fun i => ?_⟩
    cases i with
    | zero => simp
    | succ i => simpa using h2 i
theorem pick_rel {α β : Type} {R : α → β → Prop} {l : List α} {m : List β} {perm : List Nat} (h : ∀ (j : Nat) a b, l[j]? = some a → m[j]? = some b → R a b) (hl : l.length = m.length) : ∀ (i : Nat) a b, (pick perm l)[i]? = some a → (pick perm m)[i]? = some b → R a b := by
  induction perm with
  | nil => intro i a b h1; simp [pick] at h1
  | cons j perm ih =>
    by_cases hj : j < l.length
    · have e1 : pick (j :: perm) l = l[j] :: pick perm l := by unfold pick; rw [List.filterMap_cons, List.getElem?_eq_getElem hj]
      have e2 : pick (j :: perm) m = m[j]'(hl ▸ hj) :: pick perm m := by unfold pick; rw [List.filterMap_cons, List.getElem?_eq_getElem (hl ▸ hj)]
      rw [e1, e2]
      intro i a b h1 h2
      cases i with
      | zero =>
        simp at h1 h2
        subst h1; subst h2
        exact h j _ _ (List.getElem?_eq_getElem hj) (List.getElem?_eq_getElem (hl ▸ hj))
      | succ i => exact ih i a b (by simpa using h1) (by simpa using h2)
    · have e1 : pick (j :: perm) l = pick perm l := by unfold pick; rw [List.filterMap_cons, List.getElem?_eq_none (by omega)]
      have e2 : pick (j :: perm) m = pick perm m := by unfold pick; rw [List.filterMap_cons, List.getElem?_eq_none (by omega)]
      rw [e1, e2]
      exact ih
theorem pick_len {α β : Type} {l : List α} {m : List β} {perm : List Nat} (hl : l.length = m.length) : (pick perm l).length = (pick perm m).length := by
  induction perm with
  | nil => rfl
  | cons j perm ih =>
    by_cases hj : j < l.length
    · have e1 : pick (j :: perm) l = l[j] :: pick perm l := by unfold pick; rw [List.filterMap_cons, List.getElem?_eq_getElem hj]
      have e2 : pick (j :: perm) m = m[j]'(hl ▸ hj) :: pick perm m := by unfold pick; rw [List.filterMap_cons, List.getElem?_eq_getElem (hl ▸ hj)]
      rw [e1, e2, List.length_cons, List.length_cons, ih]
    · have e1 : pick (j :: perm) l = pick perm l := by unfold pick; rw [List.filterMap_cons, List.getElem?_eq_none (by omega)]
      have e2 : pick (j :: perm) m = pick perm m := by unfold pick; rw [List.filterMap_cons, List.getElem?_eq_none (by omega)]
      rw [e1, e2, ih]
theorem vals_of : ∀ {xs : List V} {us : List Value}, xs.length = us.length → (∀ (i : Nat) x u, xs[i]? = some x → us[i]? = some u → RelV x u) → Vals xs us
  | [], [], _, _ => .nil
  | [], _ :: _, h, _ => by simp at h
  | _ :: _, [], h, _ => by simp at h
  | x :: xs, u :: us, h, r => .cons (r 0 x u rfl rfl) (vals_of (by simpa using h) fun i y w a b => r (i + 1) y w (by simpa using a) (by simpa using b))
theorem pick_vals {vs : List V} {us : List Value} {perm : List Nat} (r : Vals vs us) : Vals (pick perm vs) (pick perm us) :=
  vals_of (pick_len r.length) (pick_rel (fun j a b e1 e2 => by
    obtain ⟨u, h1, h2⟩ := r.get e1
    rw [e2] at h1
    cases h1
    exact h2) r.length)
/-- the arguments' places by the parameters: n by place, then by the keywords ks -/
def permOf (ps : List Str) (n : Nat) (ks : List Str) : List Nat := (List.range ps.length).map fun i => if i < n then i else n + ks.idxOf (ps.getD i ⟨#[]⟩)
def kwOk (ps : List Str) (n : Nat) (ks : List Str) : Bool := decide (ps.length = n + ks.length) && decide ks.Nodup && ks.all (fun k => (ps.drop n).contains k) && (ps.drop n).all (fun p => ks.contains p)
theorem permOf_get {ps : List Str} {n : Nat} {ks : List Str} {i : Nat} {p : Str} (h : ps[i]? = some p) : (permOf ps n ks)[i]? = some (if i < n then i else n + ks.idxOf p) := by
  have hi := (List.getElem?_eq_some_iff.mp h)
  unfold permOf
  rw [List.getElem?_map, List.getElem?_range hi.1]
  simp only [Option.map_some]
  rw [List.getD_eq_getElem?_getD, h]
  rfl
theorem bind_kw {fd : FuncData} {as : List Arg} {ps ks : List Str} {n : Nat} {us ws : List Value} (hp : fd.params = plainArgs as) (ha : as.map (·.arg) = ps) (hd : fd.defaults = .none) (nd : ps.Nodup) (ok : kwOk ps n ks = true) (hu : us.length = n) (hw : ws.length = ks.length) (s : Shared) :
    BindsTo s fd ⟨us, ks.zip ws⟩ (ps.zip (pick (permOf ps n ks) (us ++ ws))) := by
  unfold kwOk at ok
  simp only [Bool.and_eq_true, decide_eq_true_eq, List.all_eq_true, List.contains_iff_mem] at ok
  obtain ⟨⟨⟨k1, k2⟩, k3⟩, k4⟩ := ok
  have inr : ∀ j ∈ permOf ps n ks, j < (us ++ ws).length := fun j hj => by
    obtain ⟨i, hi⟩ := List.getElem?_of_mem hj
    have hil : i < ps.length := by
      have := (List.getElem?_eq_some_iff.mp hi).1
      unfold permOf at this
      simpa using this
    rw [permOf_get (List.getElem?_eq_getElem hil)] at hi
    rw [List.length_append, hu, hw]
    split at hi
    · cases hi; omega
    · rename_i h
      cases hi
      have : ps[i] ∈ ps.drop n := List.mem_of_getElem? (i := i - n) (by rw [List.getElem?_drop, show n + (i - n) = i by omega]; exact List.getElem?_eq_getElem hil)
      have := List.idxOf_lt_length_iff.mpr (k4 _ this)
      omega
  obtain ⟨l1, l2⟩ := pick_get inr
  refine .of_eq (bind_args hp ha hd (by rw [hu]; exact k1) hw (fun k hk => List.mem_of_mem_drop (k3 k hk)) k2 (fun k hk i hi e => ?_) (by rw [l1]; unfold permOf; simp) fun i p v e1 e2 => ?_)
  · obtain ⟨j, hj⟩ := List.getElem?_of_mem (k3 k hk)
    rw [List.getElem?_drop] at hj
    have := (List.getElem?_inj (List.getElem?_eq_some_iff.mp e).1 nd).mp (e.trans hj.symm)
    omega
  · have hil := (List.getElem?_eq_some_iff.mp e1).1
    rw [l2, permOf_get e1] at e2
    rw [lookup_app]
    have zt : ps.zip us = (ps.take n).zip us := by
      rw [← hu]
      exact (List.zip_eq_zip_take_min (l₁ := ps) (l₂ := us)).trans (by rw [Nat.min_eq_right (by omega), List.take_length])
    by_cases h : i < n
    · rw [if_pos h] at e2
      have e2 : (us ++ ws)[i]? = some v := e2
      rw [List.getElem?_append_left (by omega)] at e2
      have e3 : (ps.take n)[i]? = some p := by rw [List.getElem?_take_of_lt h]; exact e1
      have nd2 : (ps.take n).Nodup := nd.sublist (List.take_sublist _ _)
      have ix : (ps.take n).idxOf p = i := by
        obtain ⟨hi, e⟩ := List.getElem?_eq_some_iff.mp e3
        rw [← e]
        exact nd2.idxOf_getElem i hi
      rw [zt, lookup_zip (by rw [List.length_take, hu]; omega) (List.mem_of_getElem? e3), ix, e2]
      rfl
    · rw [if_neg h] at e2
      have e2 : (us ++ ws)[n + ks.idxOf p]? = some v := e2
      rw [List.getElem?_append_right (by omega)] at e2
      have no : (ps.zip us).lookup p = none := lookup_none fun q hq z => by
        rw [zt] at hq
        obtain ⟨j, hj⟩ := List.getElem?_of_mem (List.of_mem_zip (show (q.1, q.2) ∈ _ from hq)).1
        have hjn : j < n := by
          have := (List.getElem?_eq_some_iff.mp hj).1
          rw [List.length_take] at this
          omega
        rw [List.getElem?_take_of_lt hjn, z] at hj
        have := (List.getElem?_inj (List.getElem?_eq_some_iff.mp e1).1 nd).mp (e1.trans hj.symm)
        omega
      have hm : p ∈ ks := k4 p (List.mem_of_getElem? (i := i - n) (by rw [List.getElem?_drop, show n + (i - n) = i by omega]; exact e1))
      rw [no, lookup_zip hw hm, Option.none_or]
      rw [show n + ks.idxOf p - us.length = ks.idxOf p by omega] at e2
      exact e2

theorem rd_pick {Z : Hp} {ds : List D} {xs : List V} {perm : List Nat} (r : RDs g Z ds xs) : RDs g Z (pick perm ds) (pick perm xs) := by
  induction perm with
  | nil => exact .nil
  | cons j perm ih =>
    have l := r.length
    by_cases hj : j < ds.length
    · have e1 : pick (j :: perm) ds = ds[j] :: pick perm ds := by unfold pick; rw [List.filterMap_cons, List.getElem?_eq_getElem hj]
      have e2 : pick (j :: perm) xs = xs[j]'(l ▸ hj) :: pick perm xs := by unfold pick; rw [List.filterMap_cons, List.getElem?_eq_getElem (l ▸ hj)]
      rw [e1, e2]
      obtain ⟨v, h1, h2⟩ := r.get (List.getElem?_eq_getElem hj)
      rw [List.getElem?_eq_getElem (l ▸ hj)] at h1
      cases h1
      exact .cons h2 ih
    · have e1 : pick (j :: perm) ds = pick perm ds := by unfold pick; rw [List.filterMap_cons, List.getElem?_eq_none (by omega)]
      have e2 : pick (j :: perm) xs = pick perm xs := by unfold pick; rw [List.filterMap_cons, List.getElem?_eq_none (by omega)]
      rw [e1, e2]
      exact ih
/-- data as arguments -/
theorem sr_data {Z H : Hp} {ds : List D} {xs : List V} (sb : Same Z H) (r : RDs g Z ds xs) : Sr g Z ((ds.map Vl.d).map some) (xs.map some) H := by
  refine ⟨by simp [r.length], sb, fun i v e => ?_, fun i j t u ys zs a e => ?_⟩
  · have e := map_some e
    rw [List.getElem?_map] at e
    cases q : ds[i]? with
    | none => rw [q] at e; cases e
    | some d =>
      rw [q] at e
      cases e
      obtain ⟨x, h1, h2⟩ := r.get q
      exact ⟨x, some_map h1, h2⟩
  · have e := map_some e
    rw [List.getElem?_map] at e
    cases q : ds[i]? with
    | none => rw [q] at e; cases e
    | some d => rw [q] at e; cases e
theorem no_own {ds : List D} {σ : L2.St} {a : Addr} : ¬ Own ((ds.map Vl.d).map some) σ a := fun ⟨i, t, ys, e, _⟩ => by
  have e := map_some e
  rw [List.getElem?_map] at e
  cases q : ds[i]? with
  | none => rw [q] at e; cases e
  | some d => rw [q] at e; cases e
theorem d_callk {k n : Nat} {sg : Sg} {ks : List Str} {p pos : Pos} {es : List Expr} {kws : List Keyword} {ts tk : T} (O : OkX g c W Φ kk X) (hS : c.sg[k]? = some sg) (hg : c.sc.names.lookup sg.name = some .globalImplicit) (db : (sg.name == ("__debug__" : Str)) = false)
    (ha : PA X es (rdIt g W Φ ts)) (hk : PK X kws (rdIt g W Φ tk)) (ns : es.all noStar = true) (hn : es = [] → ts = .nil) (kn : kwNames kws = some ks) (ok : kwOk sg.ps es.length ks = true) (l1 : plainLen ts = some es.length) (l2 : plainLen tk = some ks.length) :
    PE X (.Call (.Name sg.name p) es kws pos) (rdE g W Φ (.callk k (permOf sg.ps es.length ks) ts tk)) := by
  obtain ⟨fd, as, hm, hkp, hp, has, hd, nd, F⟩ := O.fnm k sg hS
  refine PE.mono (pe_G (E := fun σ => WE W σ) (gU := fun us ws => pick (permOf sg.ps es.length ks) (us ++ ws)) (gV := fun us ws => pick (permOf sg.ps es.length ks) (us ++ ws)) F O.hr O.gd (by show X.env.scope.names.lookup sg.name = _; rw [O.hs]; exact hg) hm hkp db
    (fun σ => passAt O.tk σ) (fun s us ws h1 h2 => bind_kw hp has hd nd ok h1 h2 s) (fun vs zs us ws r1 r2 => pick_vals (r1.append r2)) (rdIt_len l1) (rdIt_len l2) (fun e σ H Q h => ?_) ha hk ns kn) fun σ H Q ⟨Z, s, st, h⟩ => ?_
  · obtain ⟨Z, s, st, h⟩ := h
    rw [hn e] at h
    have h : Res g W σ Z H s (.ok [] s) fun ds _ Z' H' => ∀ xs, RDs g Z' ds xs → Q xs H' := h
    exact h.now st [] .nil
  · let nx : List D → List D → S → R Vl := fun xs ys s => match Φ k ((pick (permOf sg.ps es.length ks) (xs ++ ys)).map .d) with
      | .ok (v, _) _ => .ok v s
      | .ex c fs _ => .ex c fs s
      | .no => .no
    have h : Res g W σ Z H s ((evL Φ ts s).bind fun xs s => (evL Φ tk s).bind fun ys s => nx xs ys s) fun v _ Z' H' => ∀ x, RF g H Z' H' v x → Q x H' := h
    refine ⟨Z, s, st, h.bind.mono fun ds s1 Z1 H1 k1 st1 o1 q xs rs => ⟨Z1, s1, st1, q.bind.mono fun es' s2 Z2 H2 k2 st2 o2 q2 ys rs2 => ?_⟩⟩
    have rr : RDs g Z2 (pick (permOf sg.ps es.length ks) (ds ++ es')) (pick (permOf sg.ps es.length ks) (xs ++ ys)) := rd_pick ((rs.mono k2.z).append rs2)
    refine ⟨Z2, _, sr_data st2.sub rr, ?_⟩
    cases e2 : Φ k ((pick (permOf sg.ps es.length ks) (ds ++ es')).map .d) with
    | no => simp only [nx, e2] at q2; exact q2.elim
    | ok r sr =>
      obtain ⟨v, os⟩ := r
      simp only [nx, e2] at q2
      intro Z' H' x k3 so oo rf
      have k3' : Ext Z2 H2 Z' H' := k3.wide fun a z => (no_own z).elim
      exact q2 Z' H' (k3'.wide fun _ z => z.elim) (st2.ext k3' so.sub) (fun _ q => q) x ((rf.back k2).back k1)
    | ex cc fs os =>
      simp only [nx, e2] at q2
      intro Z' H' dd k3 so oo rx
      have k3' : Ext Z2 H2 Z' H' := k3.wide fun a z => (no_own z).elim
      exact q2 Z' H' dd (k3'.wide fun _ z => z.elim) (st2.ext k3' so.sub) (fun _ q => q) rx
end
end MI

set_option Elab.async false
set_option linter.all false
set_option maxRecDepth 100000
set_option maxHeartbeats 4000000
/-! Built-in functions. -/
namespace MI
open PySem PySem.Spec PyProof.Rows L2
section
variable {g : G} {c : Cc} {W : WXX} {Φ : Call} {kk : Nat} {X : Cx}
inductive RBs (g : G) (Z H : Hp) : List D → List V → Prop where
  | nil : RBs g Z H [] []
  | cons {x : D} {v : V} {xs : List D} {vs : List V} : RB g Z H x v → RBs g Z H xs vs → RBs g Z H (x :: xs) (v :: vs)
theorem RBs.of {Z H : Hp} : ∀ {xs : List D} {vs : List V}, RDs g Z xs vs → RBs g Z H xs vs
  | _, _, .nil => .nil
  | _, _, .cons h r => .cons (.d h) (RBs.of r)
theorem RB.l {Z H : Hp} {xs : List D} {v : V} (sb : Same Z H) (r : RB g Z H (.lst xs) v) : ∃ a vs, v = .ref a ∧ SqP g.K H a vs ∧ RDs g Z xs vs := by
  cases r with
  | d h =>
    obtain ⟨a, vs, e, q, rs⟩ := h.l
    exact ⟨a, vs, e, sqP_mono sb q, rs⟩
  | own h rs => exact ⟨_, _, rfl, .inl (.inl h), rs⟩
theorem RB.t {Z H : Hp} {xs : List D} {v : V} (r : RB g Z H (.tup xs) v) : RD g Z (.tup xs) v := by
  cases r with
  | d h => exact h
theorem RB.i {Z H : Hp} {i : Int} {v : V} (r : RB g Z H (.int i) v) : v = .int i := by
  cases r with
  | d h => exact h.i
theorem RB.bl' {Z H : Hp} {b : Bool} {v : V} (r : RB g Z H (.bl b) v) : v = .bl b := by
  cases r with
  | d h => cases h; rfl
theorem RB.dp {Z H : Hp} (sb : Same Z H) {x : D} {v : V} {d : PyData} (r : RB g Z H x v) (e : toPy x = some d) : Dp g.K H v d := by
  cases r with
  | d h => exact h.dp sb e
  | own h rs =>
    simp only [toPy, Option.map_eq_some_iff] at e
    obtain ⟨ds, q, rfl⟩ := e
    exact .lst (.inl (.inl h)) (rs.dp sb q)
/-- what a built-in function asks and gives -/
def rBf (g : G) (b : Bf) : List V → Hp → VK → Prop := fun xs H Q => ∃ Z ds r, Same Z H ∧ RBs g Z H ds xs ∧ bf1 b ds = some r ∧ ∀ Z' H' v, Ext Z H Z' H' → Same Z' H' → RF g H Z' H' r v → Q v H'
theorem rbs1 {Z H : Hp} {x : D} {vs : List V} (r : RBs g Z H [x] vs) : ∃ v, vs = [v] ∧ RB g Z H x v := by
  cases r with
  | cons h q => cases q; exact ⟨_, rfl, h⟩
theorem rbs2 {Z H : Hp} {x y : D} {vs : List V} (r : RBs g Z H [x, y] vs) : ∃ v w, vs = [v, w] ∧ RB g Z H x v ∧ RB g Z H y w := by
  cases r with
  | cons h q =>
    obtain ⟨w, rfl, h2⟩ := rbs1 q
    exact ⟨_, _, rfl, h, h2⟩
theorem ints_rel {Z : Hp} : ∀ {xs : List D} {vs : List V} {ns : List Int}, RDs g Z xs vs → intsOf xs = some ns → vs = ns.map V.int ∧ xs = ns.map D.int
  | _, _, _, .nil, e => by cases e; exact ⟨rfl, rfl⟩
  | x :: xs, _, ns, .cons h r, e => by
    cases x with
    | int i =>
      obtain ⟨ms, e1, rfl⟩ := Option.map_eq_some_iff.mp (show (intsOf xs).map (i :: ·) = some ns from e)
      cases h
      obtain ⟨h1, h2⟩ := ints_rel r e1
      rw [h1, h2]
      exact ⟨rfl, rfl⟩
    | _ => cases e
theorem bools_rel {Z : Hp} : ∀ {xs : List D} {vs : List V} {ns : List Bool}, RDs g Z xs vs → boolsOf xs = some ns → vs = ns.map V.bl
  | _, _, _, .nil, e => by cases e; rfl
  | x :: xs, _, ns, .cons h r, e => by
    cases x with
    | bl i =>
      obtain ⟨ms, e1, rfl⟩ := Option.map_eq_some_iff.mp (show (boolsOf xs).map (i :: ·) = some ns from e)
      cases h
      rw [bools_rel r e1]
      rfl
    | _ => cases e
theorem ints_rd {Z : Hp} : ∀ ns : List Int, RDs g Z (ns.map D.int) (ns.map V.int)
  | [] => .nil
  | n :: ns => .cons (.int n) (ints_rd ns)
theorem cf_len (hK : g.K = X.K) : CallR X (.builtin "len") (rBf g .len) := by
  rintro pins s σ H vs us Q I r ⟨Z, ds, v, sb, rb, e, q⟩
  unfold bf1 at e
  split at e <;> first | cases e | skip
  all_goals rename_i h0; cases h0
  · obtain ⟨w, rfl, r1⟩ := rbs1 rb
    obtain ⟨a, ws, rfl, h, rs⟩ := r1.l sb
    exact call_len pins s σ H _ us Q I r ⟨_, _, rfl, .inl ⟨ws, hK ▸ h.sq, rs.length⟩, q Z H _ .refl sb (.flat (.int _))⟩
  · obtain ⟨w, rfl, r1⟩ := rbs1 rb
    obtain ⟨a, ws, rfl, h, rs⟩ := r1.t.t
    exact call_len pins s σ H _ us Q I r ⟨_, _, rfl, .inr ⟨ws, hK ▸ sqT_mono sb h, rs.length⟩, q Z H _ .refl sb (.flat (.int _))⟩

theorem kit_all : ∀ n ∈ tyNames, kitB "NoneType" n = some false ∧ kitB "bool" n = some (n == "bool" || n == "int") ∧ kitB "int" n = some (n == "int") ∧ kitB "str" n = some (n == "str") ∧ kitB "list" n = some (n == "list") ∧ kitB "tuple" n = some (n == "tuple") := by
  decide +kernel
theorem tyx_list {H : Hp} {a : Addr} {vs : List V} (h : SqP X.K H a vs) : TyX X.K H (.ref a) (.type "list") := by
  rcases h with (h | ⟨o, h⟩) | ⟨its, n, h, _⟩
  · exact .base (.lst h)
  · exact .base (.frz h)
  · exact .kList h rfl
theorem tyx_tup {H : Hp} {a : Addr} {vs : List V} (h : SqT X.K H a vs) : TyX X.K H (.ref a) (.type "tuple") := by
  rcases h with (h | ⟨o, h⟩) | ⟨o, its, n, hk, hc, _⟩
  · exact .base (.tup h)
  · exact .fTuple h
  · exact .kTuple hk hc
theorem cf_isinst (hK : g.K = X.K) : CallR X (.builtin "isinstance") (rBf g .isinst) := by
  rintro pins s σ H vs us Q I r ⟨Z, ds, v, sb, rb, e, q⟩
  unfold bf1 at e
  split at e <;> first | cases e | skip
  all_goals rename_i h0; cases h0
  rename_i x n
  split at e
  · rename_i hn
    have hn : n ∈ tyNames := by simpa using hn
    obtain ⟨k1, k2, k3, k4, k5, k6⟩ := kit_all n hn
    obtain ⟨b, e1, e2⟩ := Option.map_eq_some_iff.mp e
    subst e2
    obtain ⟨u, w, rfl, r1, r2⟩ := rbs2 rb
    have hw : w = .ty n := by
      cases r2 with
      | d h => cases h; rfl
    subst hw
    have qb := q Z H _ .refl sb (RF.b b)
    have fin : ∀ {t : String}, TyX X.K H u (.type t) → kitB t n = some b → wpAny (model X.prog X.w) X.A (call (.builtin "isinstance") us) (EP X pins σ Q) X.xe s := fun {t} ht hk => call_isi pins s σ H _ us Q I r ⟨_, _, _, _, _, rfl, .ty n, ht, kit_ty hk, qb⟩
    cases x with
    | non =>
      cases r1 with
      | d h => cases h; cases e1; exact fin (.base .non) k1
    | bl y =>
      cases r1 with
      | d h => cases h; cases e1; exact fin (.base (.bl _)) k2
    | int y =>
      cases r1 with
      | d h => cases h; cases e1; exact fin (.base (.int _)) k3
    | str y =>
      cases r1 with
      | d h => cases h; cases e1; exact fin (.base (.str _)) k4
    | lst y =>
      obtain ⟨a, ws, rfl, h, _⟩ := r1.l sb
      cases e1
      exact fin (tyx_list (hK ▸ h)) k5
    | tup y =>
      obtain ⟨a, ws, rfl, h, _⟩ := r1.t.t
      cases e1
      exact fin (tyx_tup (hK ▸ sqT_mono sb h)) k6
    | ty y => cases e1
    | fn y => cases e1
    | cl y => cases e1
  · cases e
theorem cf_abs : CallR X (.builtin "abs") (rBf g .abs) := by
  rintro pins s σ H vs us Q I r ⟨Z, ds, v, sb, rb, e, q⟩
  unfold bf1 at e
  split at e <;> first | cases e | skip
  all_goals rename_i h0; cases h0
  rename_i i
  obtain ⟨w, rfl, r1⟩ := rbs1 rb
  cases r1.i
  refine call_abs pins s σ H _ us Q I r ⟨i, rfl, ?_⟩
  have : (if i < 0 then -i else i) = (i.natAbs : Int) := by split <;> omega
  rw [this]
  exact q Z H _ .refl sb (.flat (.int _))
theorem cf_max (hK : g.K = X.K) (cm : X.calm = true) : CallR X (.builtin "max") (rBf g .max) := by
  rintro pins s σ H vs us Q I r ⟨Z, ds, v, sb, rb, e, q⟩
  unfold bf1 at e
  split at e <;> first | cases e | skip
  all_goals rename_i h0; cases h0
  · rename_i i j
    obtain ⟨w, w', rfl, r1, r2⟩ := rbs2 rb
    cases r1.i
    cases r2.i
    exact call_max2 cm pins s σ H _ us Q I r ⟨i, j, rfl, q Z H _ .refl sb (.flat (.int _))⟩
  · obtain ⟨ns, e1, e2⟩ := Option.bind_eq_some_iff.mp e
    obtain ⟨m, e3, e4⟩ := Option.map_eq_some_iff.mp e2
    subst e4
    obtain ⟨w, rfl, r1⟩ := rbs1 rb
    obtain ⟨a, ws, rfl, h, rs⟩ := r1.l sb
    obtain ⟨rfl, -⟩ := ints_rel rs e1
    obtain ⟨hm, hg⟩ := List.max?_eq_some_iff.mp e3
    refine cr_max cm pins s σ H _ us Q I r ⟨a, ns, rfl, (hK ▸ h.sq), List.length_pos_of_mem hm, fun m' hm' hg' => ?_⟩
    have : m' = m := Int.le_antisymm (hg m' hm') (hg' m hm)
    subst this
    exact q Z H _ .refl sb (.flat (.int _))
theorem cf_min (hK : g.K = X.K) (cm : X.calm = true) : CallR X (.builtin "min") (rBf g .min) := by
  rintro pins s σ H vs us Q I r ⟨Z, ds, v, sb, rb, e, q⟩
  unfold bf1 at e
  split at e <;> first | cases e | skip
  all_goals rename_i h0; cases h0
  · rename_i i j
    obtain ⟨w, w', rfl, r1, r2⟩ := rbs2 rb
    cases r1.i
    cases r2.i
    exact call_min2 cm pins s σ H _ us Q I r ⟨i, j, rfl, q Z H _ .refl sb (.flat (.int _))⟩
  · obtain ⟨ns, e1, e2⟩ := Option.bind_eq_some_iff.mp e
    obtain ⟨m, e3, e4⟩ := Option.map_eq_some_iff.mp e2
    subst e4
    obtain ⟨w, rfl, r1⟩ := rbs1 rb
    obtain ⟨a, ws, rfl, h, rs⟩ := r1.l sb
    obtain ⟨rfl, -⟩ := ints_rel rs e1
    obtain ⟨hm, hg⟩ := List.min?_eq_some_iff.mp e3
    refine cr_min cm pins s σ H _ us Q I r ⟨a, ns, rfl, (hK ▸ h.sq), List.length_pos_of_mem hm, fun m' hm' hg' => ?_⟩
    have : m' = m := Int.le_antisymm (hg' m hm) (hg m' hm')
    subst this
    exact q Z H _ .refl sb (.flat (.int _))
theorem cf_int : CallR X (.type "int") (rBf g .int) := by
  rintro pins s σ H vs us Q I r ⟨Z, ds, v, sb, rb, e, q⟩
  unfold bf1 at e
  split at e <;> first | cases e | skip
  all_goals rename_i h0; cases h0
  obtain ⟨w, rfl, r1⟩ := rbs1 rb
  cases r1.i
  exact call_int1 pins s σ H _ us Q I r (.inl ⟨_, rfl, q Z H _ .refl sb (.flat (.int _))⟩)
theorem cf_bool : CallR X (.type "bool") (rBf g .bool) := by
  rintro pins s σ H vs us Q I r ⟨Z, ds, v, sb, rb, e, q⟩
  unfold bf1 at e
  split at e <;> first | cases e | skip
  all_goals rename_i h0; cases h0
  · obtain ⟨w, rfl, r1⟩ := rbs1 rb
    cases r1.i
    exact call_bool1 pins s σ H _ us Q I r (.inl ⟨_, rfl, q Z H _ .refl sb (.flat (.bl _))⟩)
  · obtain ⟨w, rfl, r1⟩ := rbs1 rb
    cases r1.bl'
    exact call_bool1 pins s σ H _ us Q I r (.inr ⟨_, rfl, q Z H _ .refl sb (.flat (.bl _))⟩)
theorem cf_divmod : CallR X (.builtin "divmod") (rBf g .divmod) := by
  rintro pins s σ H vs us Q I r ⟨Z, ds, v, sb, rb, e, q⟩
  unfold bf1 at e
  split at e <;> first | cases e | skip
  all_goals rename_i h0; cases h0
  rename_i i j
  split at e
  · rename_i hc
    cases e
    simp only [Bool.and_eq_true, decide_eq_true_eq] at hc
    obtain ⟨w, w', rfl, r1, r2⟩ := rbs2 rb
    cases r1.i
    cases r2.i
    have lg := w4_log hc.2
    refine call_divmodW pins s σ H _ us Q I r ⟨i, j, rfl, ⟨hc.1, PyProof.noPylong_of_log2 (by omega)⟩, fun p hp => ?_⟩
    exact q _ _ _ (.layT sb hp) (Same.layT sb hp) (.tup sb hp (.cons (.int _) (.cons (.int _) .nil)))
  · cases e
theorem cf_all (hK : g.K = X.K) (cm : X.calm = true) : CallR X (.builtin "all") (rBf g .all) := by
  rintro pins s σ H vs us Q I r ⟨Z, ds, v, sb, rb, e, q⟩
  unfold bf1 at e
  split at e <;> first | cases e | skip
  all_goals rename_i h0; cases h0
  obtain ⟨bs, e1, e2⟩ := Option.map_eq_some_iff.mp e
  subst e2
  obtain ⟨w, rfl, r1⟩ := rbs1 rb
  obtain ⟨a, ws, rfl, h, rs⟩ := r1.l sb
  rw [bools_rel rs e1] at h
  exact cr_all cm pins s σ H _ us Q I r ⟨a, bs, rfl, (hK ▸ h.sq), q Z H _ .refl sb (.flat (.bl _))⟩
theorem cf_any (hK : g.K = X.K) (cm : X.calm = true) : CallR X (.builtin "any") (rBf g .any) := by
  rintro pins s σ H vs us Q I r ⟨Z, ds, v, sb, rb, e, q⟩
  unfold bf1 at e
  split at e <;> first | cases e | skip
  all_goals rename_i h0; cases h0
  obtain ⟨bs, e1, e2⟩ := Option.map_eq_some_iff.mp e
  subst e2
  obtain ⟨w, rfl, r1⟩ := rbs1 rb
  obtain ⟨a, ws, rfl, h, rs⟩ := r1.l sb
  rw [bools_rel rs e1] at h
  exact cr_any cm pins s σ H _ us Q I r ⟨a, bs, rfl, (hK ▸ h.sq), q Z H _ .refl sb (.flat (.bl _))⟩
theorem cf_sum (hK : g.K = X.K) (cm : X.calm = true) : CallR X (.builtin "sum") (rBf g .sum) := by
  rintro pins s σ H vs us Q I r ⟨Z, ds, v, sb, rb, e, q⟩
  unfold bf1 at e
  split at e <;> first | cases e | skip
  all_goals rename_i h0; cases h0
  obtain ⟨ns, e1, e2⟩ := Option.map_eq_some_iff.mp e
  subst e2
  obtain ⟨w, rfl, r1⟩ := rbs1 rb
  obtain ⟨a, ws, rfl, h, rs⟩ := r1.l sb
  rw [(ints_rel rs e1).1] at h
  exact cr_sum cm pins s σ H _ us Q I r ⟨a, ns, rfl, (hK ▸ h.sq), q Z H _ .refl sb (.flat (.int _))⟩
theorem le_ord : (∀ a b c : Int, decide (a ≤ b) = true → decide (b ≤ c) = true → decide (a ≤ c) = true) ∧ ∀ a b : Int, (decide (a ≤ b) || decide (b ≤ a)) = true := by
  constructor
  · intro a b c h1 h2
    simp only [decide_eq_true_eq] at *
    omega
  · intro a b
    simp only [Bool.or_eq_true, decide_eq_true_eq]
    omega
theorem sorted_is {ns ns' : List Int} (p : ns'.Perm ns) (s : ns'.Pairwise (· ≤ ·)) : ns' = ns.mergeSort fun a b => decide (a ≤ b) := by
  have h1 := List.pairwise_mergeSort (le := fun a b : Int => decide (a ≤ b)) le_ord.1 le_ord.2 ns
  have h2 := List.mergeSort_perm ns fun a b : Int => decide (a ≤ b)
  have h1' : (ns.mergeSort fun a b => decide (a ≤ b)).Pairwise (· ≤ ·) := h1.imp fun h => by simpa using h
  exact (p.trans h2.symm).eq_of_pairwise (fun a b _ _ h h' => Int.le_antisymm h h') s h1'
theorem cf_sorted (hK : g.K = X.K) : CallR X (.builtin "sorted") (rBf g .sorted) := by
  rintro pins s σ H vs us Q I r ⟨Z, ds, v, sb, rb, e, q⟩
  unfold bf1 at e
  split at e <;> first | cases e | skip
  all_goals rename_i h0; cases h0
  obtain ⟨ns, e1, e2⟩ := Option.map_eq_some_iff.mp e
  subst e2
  obtain ⟨w, rfl, r1⟩ := rbs1 rb
  obtain ⟨a, ws, rfl, h, rs⟩ := r1.l sb
  rw [(ints_rel rs e1).1] at h
  refine cr_sortedI pins s σ H _ us Q I r ⟨a, ns, rfl, (hK ▸ h.sq), fun ns' p pm st hp => ?_⟩
  rw [sorted_is pm st]
  exact q _ _ _ (.lay hp) (Same.lay sb hp) (.own sb hp (ints_rd _))
theorem cf_tuple (hK : g.K = X.K) : CallR X (.type "tuple") (rBf g .tuple) := by
  rintro pins s σ H vs us Q I r ⟨Z, ds, v, sb, rb, e, q⟩
  unfold bf1 at e
  split at e <;> first | cases e | skip
  all_goals rename_i h0; cases h0
  · obtain ⟨w, rfl, r1⟩ := rbs1 rb
    obtain ⟨a, ws, rfl, h, rs⟩ := r1.l sb
    exact call_tuple_of pins s σ H _ us Q I r ⟨a, ws, rfl, .inl ⟨hK ▸ h.sq, fun l hl => q _ _ _ (.layT sb hl) (Same.layT sb hl) (.tup sb hl rs)⟩⟩
  · obtain ⟨w, rfl, r1⟩ := rbs1 rb
    obtain ⟨a, ws, rfl, h, rs⟩ := r1.t.t
    exact call_tuple_of pins s σ H _ us Q I r ⟨a, ws, rfl, .inr ⟨hK ▸ sqT_mono sb h, q Z H _ .refl sb (.flat (.tup h rs))⟩⟩
theorem cf_list (hK : g.K = X.K) : CallR X (.type "list") (rBf g .list) := by
  rintro pins s σ H vs us Q I r ⟨Z, ds, v, sb, rb, e, q⟩
  unfold bf1 at e
  split at e <;> first | cases e | skip
  all_goals rename_i h0; cases h0
  · obtain ⟨w, rfl, r1⟩ := rbs1 rb
    obtain ⟨a, ws, rfl, h, rs⟩ := r1.l sb
    exact call_list_of pins s σ H _ us Q I r ⟨a, ws, rfl, .inl (hK ▸ h.sq), fun l hl => q _ _ _ (.lay hl) (Same.lay sb hl) (.own sb hl rs)⟩
  · obtain ⟨w, rfl, r1⟩ := rbs1 rb
    obtain ⟨a, ws, rfl, h, rs⟩ := r1.t.t
    exact call_list_of pins s σ H _ us Q I r ⟨a, ws, rfl, .inr (hK ▸ sqT_mono sb h), fun l hl => q _ _ _ (.lay hl) (Same.lay sb hl) (.own sb hl rs)⟩
theorem cf_repr (gd : X.A.guards = some []) (hr : X.A.units + 200 < cLine) (hK : g.K = X.K) : CallR X (.builtin "repr") (rBf g .repr) := by
  rintro pins s σ H vs us Q I r ⟨Z, ds, v, sb, rb, e, q⟩
  unfold bf1 at e
  split at e <;> first | cases e | skip
  all_goals rename_i h0; cases h0
  rename_i x
  split at e
  · rename_i d hd
    split at e
    · rename_i ok
      cases e
      simp only [Bool.and_eq_true, Bool.not_eq_true', decide_eq_true_eq] at ok
      obtain ⟨⟨⟨o1, o2⟩, o3⟩, o4⟩ := ok
      have o4 := fitsL_le o4
      obtain ⟨w, rfl, r1⟩ := rbs1 rb
      obtain ⟨u, rfl, ru⟩ := vals1 r
      have dp : Dp X.K H w d := hK ▸ r1.dp sb hd
      obtain ⟨as, rd⟩ := Dp.reads I d w u dp ru
      have qs := q Z H _ .refl sb (.flat (.str d.shown))
      have fin : ∀ h' t tk, (∀ b o, s.heap.get? b = some o → h'.get? b = some o) → EP X pins σ Q (.str d.shown t) { s with heap := h', toks := tk } := fun h' t tk k => ⟨.str d.shown, H, I.kept k, ⟨t, rfl⟩, qs⟩
      cases dp with
      | non =>
        cases ru
        refine PySem.P.repr_of_none ?_
        exact ⟨.str _, H, I.tok _, ⟨s.toks, by simp [PyData.shown]⟩, qs⟩
      | bl b =>
        cases ru
        refine PySem.P.repr_of_bool ?_
        exact ⟨.str _, H, I.tok _, ⟨s.toks, by simp [PyData.shown]⟩, qs⟩
      | int i =>
        obtain ⟨t, rfl⟩ := ru
        refine PySem.P.repr_of_int (by simpa [PyData.showable] using o1) ?_
        exact ⟨.str _, H, I.tok _, ⟨s.toks, by simp [PyData.shown]⟩, qs⟩
      | str z =>
        obtain ⟨t, rfl⟩ := ru
        have e : (PyData.str z).shown = reprText z := by simp [PyData.shown]
        rw [e] at qs o4
        exact PySem.P.repr_of_str ⟨.str _, H, I.tok _, ⟨_, rfl⟩, qs⟩ o4
      | lst h a =>
        cases ru
        exact repr_of_reads' rd o1 (PyData.noDict_hsm o2) gd (by omega) (fun _ _ e => e) (fun h' t tk k => fin h' t tk k) o4
      | tup h a =>
        cases ru
        exact repr_of_reads' rd o1 (PyData.noDict_hsm o2) gd (by omega) (fun _ _ e => e) (fun h' t tk k => fin h' t tk k) o4
    · cases e
  · cases e

/-! ### the call of a built-in by its name -/
def bfV : Bf → Value
  | .len => .builtin "len" | .abs => .builtin "abs" | .max => .builtin "max" | .min => .builtin "min" | .int => .type "int" | .isinst => .builtin "isinstance" | .divmod => .builtin "divmod" | .repr => .builtin "repr" | .all => .builtin "all" | .any => .builtin "any"
  | .sum => .builtin "sum" | .sorted => .builtin "sorted" | .list => .type "list" | .tuple => .type "tuple" | .bool => .type "bool" | .str => .type "str"
def bfTab : List (Str × Bf) := [("len", .len), ("abs", .abs), ("max", .max), ("min", .min), ("int", .int), ("isinstance", .isinst), ("divmod", .divmod), ("repr", .repr), ("all", .all), ("any", .any), ("sum", .sum), ("sorted", .sorted), ("list", .list), ("tuple", .tuple), ("bool", .bool)]
theorem bfTab_ok : ∀ p ∈ bfTab, bootBuiltins p.1 = some (bfV p.2) ∧ p.1 ∈ bns ∧ p.1 ≠ ("__name__" : Str) ∧ (p.1 == ("__debug__" : Str)) = false := by decide +kernel
theorem cf_any_bf (O : OkX g c W Φ kk X) (b : Bf) (hb : b ≠ .str) : CallR X (bfV b) (rBf g b) := by
  cases b with
  | len => exact cf_len O.hK
  | abs => exact cf_abs
  | max => exact cf_max O.hK O.cm
  | min => exact cf_min O.hK O.cm
  | int => exact cf_int
  | isinst => exact cf_isinst O.hK
  | divmod => exact cf_divmod
  | repr => exact cf_repr O.gd (by have := O.hr.un; omega) O.hK
  | all => exact cf_all O.hK O.cm
  | any => exact cf_any O.hK O.cm
  | sum => exact cf_sum O.hK O.cm
  | sorted => exact cf_sorted O.hK
  | list => exact cf_list O.hK
  | tuple => exact cf_tuple O.hK
  | bool => exact cf_bool
  | str => exact absurd rfl hb
theorem pe_bf {b : Bf} {x : Str} {p pos : Pos} {e : Expr} {es : List Expr} {t : TA} (O : OkX g c W Φ kk X) (hx : (x, b) ∈ bfTab) (hg : c.sc.names.lookup x = some .globalImplicit) (ha : PA X (e :: es) t) (ns : (e :: es).all noStar = true) :
    PE X (.Call (.Name x p) (e :: es) [] pos) (tCB (rBf g b) t) := by
  obtain ⟨hv, hm, h1, h2⟩ := bfTab_ok _ hx
  have hg' : Gl X x := by show X.env.scope.names.lookup x = _; rw [O.hs]; exact hg
  have mg := O.blt x hm
  rw [List.all_cons, Bool.and_eq_true] at ns
  have hb : b ≠ .str := by
    rintro rfl
    simp [bfTab] at hx
  have cf := cf_any_bf (g := g) O b hb
  cases b <;> first
    | exact pe_callB cf hg' mg hv ha h1 h2 (star_cons ns.1 es _) (star_any ns.2 pos _)
    | exact pe_callTy cf hg' mg hv ha h1 h2 (star_cons ns.1 es _) (star_any ns.2 pos _)
    | exact absurd rfl hb
theorem d_bf {b : Bf} {x : Str} {p pos : Pos} {e : Expr} {es : List Expr} {ts : T} (O : OkX g c W Φ kk X) (hx : (x, b) ∈ bfTab) (hg : c.sc.names.lookup x = some .globalImplicit) (ha : PA X (e :: es) (rdIt g W Φ ts)) (ns : (e :: es).all noStar = true) (nv : ∀ i, ts ≠ .cons (.var i) .nil) :
    PE X (.Call (.Name x p) (e :: es) [] pos) (rdE g W Φ (.bf b ts)) := by
  refine PE.mono (pe_bf O hx hg ha ns) fun σ H Q ⟨Z, s, st, h⟩ => ?_
  have e : evE Φ (.bf b ts) s = (evL Φ ts s).bind fun xs s => R.ofO (bf1 b xs) s := by
    cases ts with
    | cons a r =>
      cases a <;> first
        | rfl
        | (cases r <;> first | rfl | exact absurd rfl (nv _))
    | _ => rfl
  rw [e] at h
  refine ⟨Z, s, st, h.bind.mono fun ds s1 Z1 H1 k1 st1 o1 q xs rs => ?_⟩
  obtain ⟨r, e, q⟩ := fin_ofO st1 k1.f q
  exact ⟨Z1, ds, r, st1.sub, .of rs, e, q⟩
theorem d_bfV {b : Bf} {x y : Str} {p py pos : Pos} {i : Nat} (O : OkX g c W Φ kk X) (hx : (x, b) ∈ bfTab) (hg : c.sc.names.lookup x = some .globalImplicit) (hy : PE X (.Name y py) (tVar i)) :
    PE X (.Call (.Name x p) [.Name y py] [] pos) (rdE g W Φ (.bf b (.cons (.var i) .nil))) := by
  refine PE.mono (pe_bf O hx hg (pa_cons hy pa_nil rfl) rfl) fun σ H Q ⟨Z, s, st, h⟩ => ?_
  have h : Res g W σ Z H s (match peek i s with
    | some x => R.ofO (bf1 b [x]) s
    | none => .no) fun v _ Z' H' => ∀ x, RF g H Z' H' v x → Q x H' := h
  cases e0 : peek i s with
  | none => rw [e0] at h; exact h.elim
  | some d =>
    rw [e0] at h
    obtain ⟨v, hv, rb⟩ := peek_ok st e0
    obtain ⟨r, e, q⟩ := fin_ofO st (fun a e => e) h
    exact ⟨v, hv, Z, [d], r, st.sub, .cons rb .nil, e, q⟩
end
end MI

set_option Elab.async false
set_option linter.all false
set_option maxRecDepth 100000
set_option maxHeartbeats 4000000
/-! What is walked; targets; statements. -/
namespace MI
open PySem PySem.Spec PyProof.Rows L2
section
variable {g : G} {c : Cc} {W : WXX} {Φ : Call} {kk : Nat} {X : Cx}

/-! ### what is walked -/
structure JR (g : G) (Z0 : Hp) (ds : List D) (J : It) : Prop where
  go : ∀ (i : Nat) d Z H, Same Z0 Z → Same Z H → ds[i]? = some d → J.go i H ∧ ∀ x H', J.yld i H x H' → ∃ Z', Ext Z H Z' H' ∧ Same Z' H' ∧ RD g Z' d x
  stop : ∀ (i : Nat) Z H, Same Z0 Z → Same Z H → ds.length ≤ i → J.stop i H
def rdI (g : G) (W : WXX) (Φ : Call) (t : T) : TI := fun σ H R => ∃ Z s, Sr g Z s σ H ∧ Res g W σ Z H s (evI Φ t s) fun ds _ Z' H' => ∀ J, JR g Z' ds J → R J H'
theorem PI.mono {tg e : Expr} {t t' : TI} (h : PI X tg e t) (m : ∀ σ H Q, t' σ H Q → t σ H Q) : PI X tg e t' := ⟨fun pins s σ H Q I q => h.run pins s σ H Q I (m σ H Q q)⟩
theorem jr_list (hK : g.K = X.K) {Z0 : Hp} {ds : List D} {a : Addr} {vs : List V} (h : SqP X.K Z0 a vs) (r : RDs g Z0 ds vs) : JR g Z0 ds (Itl X.K a) where
  go := fun i d Z H z sb e => by
    obtain ⟨v, hv, rd⟩ := r.get e
    have hH := sqP_mono sb (sqP_mono z h)
    refine ⟨⟨vs, v, hH.sq, hv⟩, fun x H' ⟨e1, e2⟩ => ?_⟩
    subst e1
    have := e2 vs hH.sq
    rw [hv] at this
    cases this
    exact ⟨Z, .refl, sb, rd.mono z⟩
  stop := fun i Z H z sb l => ⟨vs, (sqP_mono sb (sqP_mono z h)).sq, by rw [← r.length]; exact l⟩
theorem jr_tup (hK : g.K = X.K) {Z0 : Hp} {ds : List D} {a : Addr} {vs : List V} (h : SqT X.K Z0 a vs) (r : RDs g Z0 ds vs) : JR g Z0 ds (Itt X.K a) where
  go := fun i d Z H z sb e => by
    obtain ⟨v, hv, rd⟩ := r.get e
    have hH := sqT_mono sb (sqT_mono z h)
    refine ⟨⟨vs, v, hH, hv⟩, fun x H' ⟨e1, e2⟩ => ?_⟩
    subst e1
    have := e2 vs hH
    rw [hv] at this
    cases this
    exact ⟨Z, .refl, sb, rd.mono z⟩
  stop := fun i Z H z sb l => ⟨vs, sqT_mono sb (sqT_mono z h), by rw [← r.length]; exact l⟩
theorem rangeL_get {lo : Int} {n i : Nat} {d : D} (h : (rangeL lo n)[i]? = some d) : i < n ∧ d = .int (lo + i) := by
  unfold rangeL at h
  rw [List.getElem?_map] at h
  cases e : (List.range n)[i]? with
  | none => rw [e] at h; cases h
  | some k =>
    rw [e] at h
    obtain ⟨h1, h2⟩ := List.getElem?_eq_some_iff.mp e
    simp at h2
    subst h2
    cases h
    exact ⟨by simpa using h1, rfl⟩
theorem rangeL_len (lo : Int) (n : Nat) : (rangeL lo n).length = n := by unfold rangeL; simp
theorem jr_range {Z0 : Hp} {lo : Int} {n : Nat} : JR g Z0 (rangeL lo n) (Itr lo n) where
  go := fun i d Z H z sb e => by
    obtain ⟨h1, rfl⟩ := rangeL_get e
    refine ⟨h1, fun x H' ⟨e1, e2⟩ => ?_⟩
    subst e1; subst e2
    exact ⟨Z, .refl, sb, .int _⟩
  stop := fun i Z H z sb l => by rw [rangeL_len] at l; exact l
/-- a list or a tuple, walked -/
def iSeq (K : PySem.W.Frag) (tl : TE) : TI := fun σ H R => tl σ H fun x H1 => ∃ a, x = .ref a ∧ ((∃ xs, SqL K H1 a xs ∧ R (Itl K a) H1) ∨ ∃ xs, SqT K H1 a xs ∧ R (Itt K a) H1)
theorem pi_seq {tg l : Expr} {tl : TE} (hl : PE X l tl) : PI X tg l (iSeq X.K tl) := by
  refine ⟨fun pins s σ H R I h => thn (hl.run pins s σ H _ I h) fun v s1 ⟨x, H1, I1, r1, a, e, q⟩ => ?_⟩
  subst e
  cases r1
  have here : ∀ b ∈ [s1.heap.objs.size], FpOk X pins H1 b := fun b hb => by
    have e : b = s1.heap.objs.size := by simpa using hb
    subst e
    exact I1.fpOk (Nat.le_refl _) (I1.hok.fresh (Nat.le_refl _))
  rcases q with ⟨xs, hq, q⟩ | ⟨xs, hq, q⟩
  · obtain ⟨its, rv, p, hz⟩ := I1.list hq
    exact wpAny_pyIter_list p.isList ⟨_, _, _, _, H1, rfl, I1.kept (t' := s1.toks) fun b o e => Heap.get?_push_of_some _ e, turn_list a _, ⟨_, Heap.get?_push_size _ rfl, rfl, rfl⟩, here, q⟩
  · obtain ⟨its, rv, p, hz⟩ := I1.tuple hq
    exact wpAny_pyIter_tuple (show s1.heap.IsTuple a its.toArray from p) ⟨_, _, _, _, H1, rfl, I1.kept (t' := s1.toks) fun b o e => Heap.get?_push_of_some _ e, turn_tuple a _, ⟨_, Heap.get?_push_size _ rfl, rfl, rfl⟩, here, q⟩
theorem i_it {tg e : Expr} {t : T} (O : OkX g c W Φ kk X) (h : PE X e (rdE g W Φ t)) : PI X tg e (rdI g W Φ (.it t)) := by
  refine PI.mono (pi_seq h) fun σ H R ⟨Z, s, st, h⟩ => ?_
  let nx : Vl → S → MI.R (List D) := fun x s => match items x.dat with
    | some xs => .ok xs s
    | none => .no
  have h : Res g W σ Z H s ((evE Φ t s).bind nx) fun ds _ Z' H' => ∀ J, JR g Z' ds J → R J H' := h
  refine rdE_op (f := nx) st h fun v s1 Z1 H1 x k1 st1 o1 rx h1 => ?_
  cases e : v.dat with
  | lst xs =>
    simp only [nx, e, items] at h1
    rw [e] at rx
    obtain ⟨a, vs, rfl, q, rs⟩ := rx.l
    exact ⟨a, rfl, .inl ⟨vs, O.hK ▸ (sqP_mono st1.sub q).sq, h1.now st1 _ (jr_list O.hK (O.hK ▸ q) rs)⟩⟩
  | tup xs =>
    simp only [nx, e, items] at h1
    rw [e] at rx
    obtain ⟨a, vs, rfl, q, rs⟩ := rx.t
    exact ⟨a, rfl, .inr ⟨vs, O.hK ▸ sqT_mono st1.sub q, h1.now st1 _ (jr_tup O.hK (O.hK ▸ q) rs)⟩⟩
  | _ => simp only [nx, e, items] at h1; exact h1.elim
theorem in62_ok {i : Int} (h : in62 i = true) : -(2 ^ 62) ≤ i ∧ i < 2 ^ 62 := by
  unfold in62 at h
  simpa only [Bool.and_eq_true, decide_eq_true_eq] using h
theorem i_rng1 {tg a : Expr} {ta : T} {p pos : Pos} (O : OkX g c W Φ kk X) (hg : c.sc.names.lookup ("range" : Str) = some .globalImplicit) (ha : PE X a (rdE g W Φ ta)) (ns : noStar a = true) : PI X tg (.Call (.Name "range" p) [a] [] pos) (rdI g W Φ (.rng (.cons ta .nil))) := by
  refine PI.mono (pi_range1 (by show X.env.scope.names.lookup _ = _; rw [O.hs]; exact hg) (O.blt _ (by decide +kernel)) (pa_cons ha pa_nil (star_cons ns [] _)) (star_cons ns [] _)) fun σ H R ⟨Z, s, st, h⟩ => ?_
  refine rdE_op (f := (fun x s => match x with | .d (.int j) => if in62 j then .ok (rangeL 0 j.toNat) s else .no | _ => .no : Vl → S → MI.R (List D))) st h fun v s1 Z1 H1 x k1 st1 o1 rx h1 => ?_
  split at h1
  · rename_i j
    split at h1
    · rename_i hj
      cases rx
      exact ⟨j, rfl, (in62_ok hj).1, (in62_ok hj).2, h1.now st1 _ jr_range⟩
    · exact h1.elim
  · exact h1.elim
theorem i_rng2 {tg a b : Expr} {ta tb : T} {p pos : Pos} (O : OkX g c W Φ kk X) (hg : c.sc.names.lookup ("range" : Str) = some .globalImplicit) (ha : PE X a (rdE g W Φ ta)) (hb : PE X b (rdE g W Φ tb)) (na : noStar a = true) (nb : noStar b = true) :
    PI X tg (.Call (.Name "range" p) [a, b] [] pos) (rdI g W Φ (.rng (.cons ta (.cons tb .nil)))) := by
  refine PI.mono (pi_range2 (by show X.env.scope.names.lookup _ = _; rw [O.hs]; exact hg) (O.blt _ (by decide +kernel)) (pa_cons ha (pa_cons hb pa_nil (star_cons nb [] _)) (star_cons na _ _)) (by rw [star_cons na, star_cons nb]; rfl) (star_cons nb [] _)) fun σ H R ⟨Z, s, st, h⟩ => ?_
  let fin : Vl → Vl → S → MI.R (List D) := fun x y s => match x, y with
    | .d (.int i), .d (.int j) => if in62 i && in62 j then .ok (rangeL i (j - i).toNat) s else .no
    | _, _ => .no
  have h : Res g W σ Z H s ((evE Φ ta s).bind fun x s => (evE Φ tb s).bind fun y s => fin x y s) fun ds _ Z' H' => ∀ J, JR g Z' ds J → R J H' := h
  refine rdE_op (f := fun x s => (evE Φ tb s).bind fun y s => fin x y s) st h fun v s1 Z1 H1 x k1 st1 o1 rx h1 => ?_
  refine rdE_op (f := fun y s => fin v y s) st1 h1 fun w s2 Z2 H2 y k2 st2 o2 ry h2 => ?_
  simp only [fin] at h2
  split at h2
  · rename_i i j
    split at h2
    · rename_i hij
      rw [Bool.and_eq_true] at hij
      cases rx
      cases ry
      exact ⟨i, j, rfl, ⟨(in62_ok hij.1).1, (in62_ok hij.1).2, (in62_ok hij.2).1, (in62_ok hij.2).2⟩, h2.now st2 _ jr_range⟩
    · exact h2.elim
  · exact h2.elim

/-! ### targets -/
/-- from a state to a later one: the slots may be others, a list that a slot holds for itself is an old one or new -/
structure KS (g : G) (Z H : Hp) (s : S) (σ : L2.St) (Z' H' : Hp) (s' : S) (σ' : L2.St) : Prop where
  k : Keep Z H (Own s σ) Z' H'
  st : Sr g Z' s' σ' H'
  o : ∀ a, Own s' σ' a → Own s σ a ∨ H a = none
  p : ∀ i, Tg s' i → Tg s i ∧ σ'[i]? = σ[i]?
theorem KS.trans {Z H Z1 H1 Z2 H2 : Hp} {s s1 s2 : S} {σ σ1 σ2 : L2.St} (a : KS g Z H s σ Z1 H1 s1 σ1) (b : KS g Z1 H1 s1 σ1 Z2 H2 s2 σ2) : KS g Z H s σ Z2 H2 s2 σ2 where
  k := a.k.two b.k fun x q => (a.o x q).symm
  st := b.st
  o := fun x q => (b.o x q).elim (fun z => a.o x z) fun z => .inr (a.k.f x z)
  p := fun i q => ⟨(a.p i (b.p i q).1).1, (b.p i q).2.trans (a.p i (b.p i q).1).2⟩
theorem KS.ofE {Z H Z1 H1 : Hp} {s s1 : S} {σ : L2.St} (k : Keep Z H (Own s σ) Z1 H1) (st : Sr g Z1 s1 σ H1) (o : ∀ a, Own s1 σ a → Own s σ a) (tl : TL s1 s) : KS g Z H s σ Z1 H1 s1 σ := ⟨k, st, fun a q => .inl (o a q), fun i q => ⟨tl i q, rfl⟩⟩
theorem KS.set1 {s : S} {σ : L2.St} {i j : Nat} {o : Option Vl} {x : Option V} (q : Tg (s.set i o) j) (h : ∀ ys, ¬ (o = some (.own true ys) ∨ o = some (.fz ys))) : Tg s j ∧ (σ.set i x)[j]? = σ[j]? := by
  rcases q.of_set with ⟨n, q⟩ | ⟨_, _, ys, e⟩
  · exact ⟨q, List.getElem?_set_ne (fun z => n z.symm)⟩
  · exact (h ys e).elim
theorem fresh_no (v : Vl) : ∀ ys, ¬ (some v.fresh = some (.own true ys) ∨ some v.fresh = some (.fz ys)) := fun ys e => by
  cases v <;> rcases e with e | e <;> cases e
theorem fresh_own {v : Vl} {t : Bool} {ys : List D} (e : v.fresh = .own t ys) : ∃ t', v = .own t' ys := by
  cases v with
  | own t' zs => cases e; exact ⟨t', rfl⟩
  | _ => cases e
theorem RV.fresh {Z H : Hp} {v : Vl} {x : V} (r : RV g Z H v x) : RV g Z H v.fresh x := by
  cases v <;> exact r
theorem RF.fresh {H0 Z H : Hp} {v : Vl} {x : V} (r : RF g H0 Z H v x) : RF g H0 Z H v.fresh x := ⟨r.1.fresh, fun t ys a e1 e2 => by
  obtain ⟨t', e⟩ := fresh_own e1
  exact r.2 t' ys a e e2⟩
def ResB (g : G) (W : WXX) (Z H : Hp) (s : S) (σ : L2.St) (o : O) (Q : L2.St → Hp → Prop) : Prop := match o with
  | .nx s' => ∀ Z' H' σ', KS g Z H s σ Z' H' s' σ' → Q σ' H'
  | .ex c fs s' => ∀ Z' H' σ' dd, KS g Z H s σ Z' H' s' σ' → RX g Z' H' fs dd → W (.ref (g.ca c)) dd σ' H'
  | _ => False
theorem ResB.rebase {Z H Z1 H1 : Hp} {s s1 : S} {σ σ1 : L2.St} {o : O} {Q : L2.St → Hp → Prop} (h : ResB g W Z H s σ o Q) (a : KS g Z H s σ Z1 H1 s1 σ1) : ResB g W Z1 H1 s1 σ1 o Q := by
  cases o with
  | nx s' => exact fun Z' H' σ' b => h Z' H' σ' (a.trans b)
  | ex c fs s' => exact fun Z' H' σ' dd b rx => h Z' H' σ' dd (a.trans b) rx
  | _ => exact h
def rdG (g : G) (W : WXX) (Φ : Call) (p : T) : TG := fun v σ H Q => ∃ Z s d, Sr g Z s σ H ∧ RD g Z d v ∧ ResB g W Z H s σ (bindP Φ p d s) Q
def rdGs (g : G) (W : WXX) (Φ : Call) (p : T) : TGs := fun vs σ H Q => ∃ Z s ds, Sr g Z s σ H ∧ RDs g Z ds vs ∧ ResB g W Z H s σ (bindPs Φ p ds s) Q
theorem PG.mono {tg : Expr} {t t' : TG} (h : PG X tg t) (m : ∀ v σ H Q, t' v σ H Q → t v σ H Q) : PG X tg t' := ⟨fun pins s σ H v u Q I r q => h.run pins s σ H v u Q I r (m v σ H Q q)⟩
theorem PGs.mono {tg : List Expr} {t t' : TGs} (h : PGs X tg t) (m : ∀ v σ H Q, t' v σ H Q → t v σ H Q) : PGs X tg t' := ⟨fun pins s σ H v u Q I r q => h.run pins s σ H v u Q I r (m v σ H Q q)⟩
/-- a slot takes a value -/
theorem Sr.set {Z H : Hp} {s : S} {σ : L2.St} {i : Nat} {v : Vl} {x : V} (st : Sr g Z s σ H) (rv : RV g Z H v x) (fr : ∀ t ys a, v = .own t ys → x = .ref a → ¬ Own s σ a) :
    Sr g Z (s.set i (some v)) (σ.set i (some x)) H ∧ ∀ a, Own (s.set i (some v)) (σ.set i (some x)) a → Own s σ a ∨ ∃ t ys, v = .own t ys ∧ x = .ref a := by
  have key : ∀ (j : Nat) (w : Vl), (s.set i (some v))[j]? = some (some w) → (i = j ∧ w = v ∧ (σ.set i (some x))[j]? = some (some x)) ∨ (i ≠ j ∧ s[j]? = some (some w) ∧ (σ.set i (some x))[j]? = σ[j]?) := fun j w e => by
    by_cases hij : i = j
    · subst hij
      have hl : i < s.length := by
        have := (List.getElem?_eq_some_iff.mp e).1
        simpa using this
      rw [List.getElem?_set_self hl] at e
      cases e
      exact .inl ⟨rfl, rfl, List.getElem?_set_self (by rw [← st.len]; exact hl)⟩
    · rw [List.getElem?_set_ne hij] at e
      exact .inr ⟨hij, e, List.getElem?_set_ne hij⟩
  refine ⟨⟨by simp [st.len], st.sub, fun j w e => ?_, fun j j' t u ys zs a e1 e2 e3 e4 => ?_⟩, fun a ⟨j, t, ys, e1, e2⟩ => ?_⟩
  · rcases key j w e with ⟨rfl, rfl, h⟩ | ⟨_, h1, h2⟩
    · exact ⟨x, h, rv⟩
    · obtain ⟨y, hy, r⟩ := st.rel j w h1
      exact ⟨y, h2.trans hy, r⟩
  · rcases key j _ e1 with ⟨rfl, q1, h1⟩ | ⟨n1, q1, h1⟩
    · rw [h1] at e3
      cases e3
      rcases key j' _ e2 with ⟨rfl, q2, h2⟩ | ⟨n2, q2, h2⟩
      · rfl
      · rw [h2] at e4
        exact absurd ⟨j', u, zs, q2, e4⟩ (fr t ys a q1.symm rfl)
    · rw [h1] at e3
      rcases key j' _ e2 with ⟨rfl, q2, h2⟩ | ⟨n2, q2, h2⟩
      · rw [h2] at e4
        cases e4
        exact absurd ⟨j, t, ys, q1, e3⟩ (fr u zs a q2.symm rfl)
      · rw [h2] at e4
        exact st.inj j j' t u ys zs a q1 q2 e3 e4
  · rcases key j _ e1 with ⟨rfl, q1, h1⟩ | ⟨n1, q1, h1⟩
    · rw [h1] at e2
      cases e2
      exact .inr ⟨t, ys, q1.symm, rfl⟩
    · rw [h1] at e2
      exact .inl ⟨j, t, ys, q1, e2⟩
theorem g_var {i : Nat} {x : Str} {pos : Pos} (O : OkX g c W Φ kk X) (hN : c.N[i]? = some x) (hl : Loc c.sc x) (hf : X.fn x = true ∨ c.sc.names.lookup x = some .local) : PG X (.Name x pos) (rdG g W Φ (.var i)) := by
  refine PG.mono (pg_name (i := i) (by rw [O.hN]; exact O.nd) (by rw [O.hN]; exact hN) (by rw [O.hs]; exact hl) (by rw [O.hs]; exact hf)) fun v σ H Q ⟨Z, s, d, st, rd, h⟩ => ?_
  have h : ResB g W Z H s σ (if i < s.length then .nx (s.set i (some (.d d))) else .no) Q := h
  split at h
  · obtain ⟨st', o'⟩ := st.set (i := i) (v := .d d) (x := v) rd fun _ _ _ e => nomatch e
    exact h Z H _ ⟨.refl, st', fun a q => (o' a q).imp id (fun ⟨_, _, e, _⟩ => nomatch e), fun j q => KS.set1 q fun ys e => (by rcases e with e | e <;> cases e)⟩
  · exact h.elim
theorem gs_nil : PGs X [] (rdGs g W Φ .nil) := PGs.mono pgs_nil fun vs σ H Q ⟨Z, s, ds, st, r, h⟩ => by
  cases ds with
  | nil =>
    cases r
    exact ⟨rfl, h Z H σ ⟨.refl, st, fun _ q => .inl q, fun _ q => ⟨q, rfl⟩⟩⟩
  | cons d ds => exact h.elim
theorem gs_cons {e : Expr} {es : List Expr} {p ps : T} (h1 : PG X e (rdG g W Φ p)) (h2 : PGs X es (rdGs g W Φ ps)) (hs : (assignEach (e :: es) X.env).map (·.2) = assign e X.env :: (assignEach es X.env).map (·.2)) : PGs X (e :: es) (rdGs g W Φ (.cons p ps)) := by
  refine PGs.mono (pgs_cons h1 h2 hs) fun vs σ H Q ⟨Z, s, ds, st, r, h⟩ => ?_
  cases r with
  | nil => exact h.elim
  | @cons d v ds vs rd rs =>
    have h : ResB g W Z H s σ (match bindP Φ p d s with
      | .nx s => bindPs Φ ps ds s
      | o => o) Q := h
    refine ⟨v, vs, rfl, Z, s, d, st, rd, ?_⟩
    cases e : bindP Φ p d s with
    | nx s1 =>
      rw [e] at h
      exact fun Z1 H1 σ1 k => ⟨Z1, s1, ds, k.st, rs.mono k.k.z, ResB.rebase (o := bindPs Φ ps ds s1) h k⟩
    | ex c fs s' => rw [e] at h; exact h
    | rt v s' => rw [e] at h; exact h
    | bk s' => rw [e] at h; exact h
    | ct s' => rw [e] at h; exact h
    | no => rw [e] at h; exact h
theorem g_tup {es : List Expr} {k : Nat} {pos : Pos} {ps : T} (O : OkX g c W Φ kk X) (h : PGs X es (rdGs g W Φ ps)) (hst : (assignEach es X.env).findIdx? (·.1) = none) (hn : (assignEach es X.env).length = es.length) (hl : plainLen ps = some es.length) :
    PG X (.Tuple es k pos) (rdG g W Φ (.tup ps)) := by
  refine PG.mono (pg_tup (n := es.length) O.cm h hn hst) fun v σ H Q ⟨Z, s, d, st, rd, h⟩ => ?_
  cases d with
  | tup ds =>
    obtain ⟨a, vs, rfl, q, rs⟩ := rd.t
    have h : ResB g W Z H s σ (if plainLen ps = some ds.length then bindPs Φ ps ds s else .no) Q := h
    rw [hl] at h
    split at h
    · rename_i e
      exact ⟨a, vs, rfl, O.hK ▸ sqT_mono st.sub q, by rw [← rs.length]; exact (Option.some.inj e).symm, Z, s, ds, st, rs, h⟩
    · exact h.elim
  | _ => exact h.elim
/-- an item of a slot's own list changed -/
theorem Sr.item {Z H : Hp} {s : S} {σ : L2.St} {i : Nat} {t : Bool} {xs ys : List D} {a : Addr} {ws : List V} (st : Sr g Z s σ H) (e : s[i]? = some (some (.own t xs))) (hx : σ[i]? = some (some (.ref a))) (r : RDs g Z ys ws) (ha : H a ≠ none) (za : Z a = none) :
    KS g Z H s σ Z (upd H a (.lst ws)) (s.set i (some (.own t ys))) σ := by
  have hl : i < s.length := (List.getElem?_eq_some_iff.mp e).1
  have key : ∀ (j : Nat) (w : Vl), (s.set i (some (.own t ys)))[j]? = some (some w) → (i = j ∧ w = .own t ys) ∨ (i ≠ j ∧ s[j]? = some (some w)) := fun j w q => by
    by_cases hij : i = j
    · subst hij
      rw [List.getElem?_set_self hl] at q
      cases q
      exact .inl ⟨rfl, rfl⟩
    · rw [List.getElem?_set_ne hij] at q
      exact .inr ⟨hij, q⟩
  have own : ∀ b, Own (s.set i (some (.own t ys))) σ b → Own s σ b := fun b ⟨j, u, zs, e1, e2⟩ => by
    rcases key j _ e1 with ⟨rfl, _⟩ | ⟨_, q⟩
    · exact ⟨i, t, xs, e, e2⟩
    · exact ⟨j, u, zs, q, e2⟩
  have oa : Own s σ a := ⟨i, t, xs, e, hx⟩
  refine ⟨⟨Same.refl _, fun b o q n => ?_, fun _ _ _ _ z => z, fun b q => ?_⟩, ⟨by simp [st.len], fun b o q => ?_, fun j w q => ?_, fun j k u u' zs zs' b e1 e2 e3 e4 => ?_⟩, fun b q => .inl (own b q), fun j q => ?_⟩
  · rw [upd_ne (by rintro rfl; exact n oa)]; exact q
  · by_cases hb : b = a
    · subst hb; rw [upd_same] at q; cases q
    · rwa [upd_ne hb] at q
  · rw [upd_ne (by rintro rfl; rw [za] at q; cases q)]; exact st.sub b o q
  · rcases key j w q with ⟨rfl, rfl⟩ | ⟨hij, q⟩
    · exact ⟨_, hx, a, ws, rfl, upd_same, za, r⟩
    · obtain ⟨x, h1, h2⟩ := st.rel j w q
      refine ⟨x, h1, ?_⟩
      cases w with
      | d y => exact h2
      | fz y => exact h2
      | own u zs =>
        obtain ⟨b, vs, rfl, hb, zb, rs⟩ := h2
        have : b ≠ a := by rintro rfl; exact hij (st.inj i j t u xs zs b e q hx h1)
        exact ⟨b, vs, rfl, by rw [upd_ne this]; exact hb, zb, rs⟩
  · rcases key j _ e1 with ⟨rfl, _⟩ | ⟨_, q1⟩
    · rcases key k _ e2 with ⟨rfl, _⟩ | ⟨_, q2⟩
      · rfl
      · exact st.inj _ _ t u' xs zs' b e q2 e3 e4
    · rcases key k _ e2 with ⟨rfl, _⟩ | ⟨_, q2⟩
      · exact st.inj _ _ u t zs xs b q1 e e3 e4
      · exact st.inj j k u u' zs zs' b q1 q2 e3 e4
  · refine ⟨TL.set (fun ys' q l => ?_) j q, rfl⟩
    rcases q with q | q
    · cases q
      exact ⟨xs, .inl e⟩
    · cases q
def noSlice : Expr → Bool
  | .Slice _ _ _ _ => false
  | _ => true
theorem sub_plain {b : Expr} (h : noSlice b = true) : PlainIx b := fun o i => by cases b <;> first | rfl | cases h
theorem assign_sub {o b : Expr} {pos : Pos} (h : noSlice b = true) (env : Env) (v : Value) : assign (.Subscript o b pos) env v = (do
      let ov ← holding [v] (eval o env)
      let iv ← holding [v, ov] (eval b env)
      standAt pos
      holding [v, ov, iv] (setItem ov iv v)
      release [v, ov, iv] []) := by cases b <;> first | rfl | cases h
theorem g_sub {i : Nat} {x : Str} {px pos : Pos} {b : Expr} {tb : T} (O : OkX g c W Φ kk X) (hv : PE X (.Name x px) (tVar i)) (hb : PE X b (rdE g W Φ tb)) (hp : noSlice b = true) : PG X (.Subscript (.Name x px) b pos) (rdG g W Φ (.idx (.var i) tb)) := by
  refine PG.mono (pg_sub hv hb set_list (assign_sub hp _)) fun v σ H Q ⟨Z, s, d, st, rd, h⟩ => ?_
  let nx : Vl → S → MI.O := fun y s => match y with
    | .d (.int k) => (match s[i]? with
      | some (some (.own tag xs)) => if 0 ≤ k && k.toNat < xs.length then .nx (s.set i (some (.own tag (xs.set k.toNat d)))) else .no
      | _ => .no)
    | _ => .no
  have h : ResB g W Z H s σ (match peek i s with
    | none => (.no : MI.O)
    | some _ => match evE Φ tb s with
      | .ok (.d (.int k)) s => (match s[i]? with
        | some (some (.own tag xs)) => if 0 ≤ k && k.toNat < xs.length then .nx (s.set i (some (.own tag (xs.set k.toNat d)))) else .no
        | _ => .no)
      | .ex c fs s => .ex c fs s
      | _ => .no) Q := h
  cases e0 : peek i s with
  | none => rw [e0] at h; exact h.elim
  | some x0 =>
    rw [e0] at h
    obtain ⟨v0, hv0, _⟩ := peek_ok st e0
    refine ⟨v0, hv0, Z, s, st, ?_⟩
    cases e : evE Φ tb s with
    | no => rw [e] at h; exact h.elim
    | ex cc fs s' =>
      rw [e] at h
      exact fun Z' H' dd k st' o rx => h Z' H' σ dd (.ofE k st' o (tlEx e)) rx
    | ok y s1 =>
      rw [e] at h
      intro Z1 H1 k1 st1 o1 u rf
      have h : ResB g W Z H s σ (nx y s1) Q := by
        cases y with
        | d z => cases z <;> exact h
        | own t xs => exact h
        | fz xs => exact h
      cases y with
      | d z =>
        cases z with
        | int k =>
          have hu : u = .int k := RD.i rf.1
          subst hu
          simp only [nx] at h
          split at h
          · rename_i tag xs es
            split at h
            · rename_i hk
              simp only [Bool.and_eq_true, decide_eq_true_eq] at hk
              obtain ⟨x1, hx1, a, vs, rfl, ha, za, rs⟩ := st1.rel _ _ es
              rw [hv0] at hx1
              cases hx1
              have hl := rs.length
              have ks := st1.item (i := i) es hv0 (rs.set (rd.mono k1.z) k.toNat) (by rw [ha]; simp) za
              refine ⟨a, vs, k, k.toNat, rfl, rfl, ha, ?_, h _ _ _ ((KS.ofE k1 st1 o1 (tlE e)).trans ks)⟩
              unfold ixN
              rw [if_pos hk.1, if_pos (by omega)]
            · exact h.elim
          · exact h.elim
        | _ => exact h.elim
      | own t xs => exact h.elim
      | fz xs => exact h.elim

/-! ### statements -/
/-- what is wanted behind a statement, told of the evaluator's end -/
def ResS (g : G) (W : WXX) (D : Ends) (Z H : Hp) (s : S) (σ : L2.St) (o : O) : Prop := match o with
  | .nx s' => ∀ Z' H' σ', KS g Z H s σ Z' H' s' σ' → D.nx σ' H'
  | .bk s' => ∀ Z' H' σ', KS g Z H s σ Z' H' s' σ' → D.bk σ' H'
  | .ct s' => ∀ Z' H' σ', KS g Z H s σ Z' H' s' σ' → D.ct σ' H'
  | .rt v s' => ∀ Z' H' σ' x, KS g Z H s σ Z' H' s' σ' → RF g H Z' H' v x → D.rt x H'
  | .ex c fs s' => ∀ Z' H' σ' dd, KS g Z H s σ Z' H' s' σ' → RX g Z' H' fs dd → W (.ref (g.ca c)) dd σ' H'
  | .no => False
theorem ResS.rebase {D : Ends} {Z H Z1 H1 : Hp} {s s1 : S} {σ σ1 : L2.St} {o : O} (h : ResS g W D Z H s σ o) (a : KS g Z H s σ Z1 H1 s1 σ1) : ResS g W D Z1 H1 s1 σ1 o := by
  cases o with
  | nx s' => exact fun Z' H' σ' b => h Z' H' σ' (a.trans b)
  | bk s' => exact fun Z' H' σ' b => h Z' H' σ' (a.trans b)
  | ct s' => exact fun Z' H' σ' b => h Z' H' σ' (a.trans b)
  | rt v s' => exact fun Z' H' σ' x b rf => h Z' H' σ' x (a.trans b) (rf.back a.k)
  | ex c fs s' => exact fun Z' H' σ' dd b rx => h Z' H' σ' dd (a.trans b) rx
  | no => exact h
def rdS (g : G) (W : WXX) (Φ : Call) (t : T) : TS := fun D σ H => ∃ Z s, Sr g Z s σ H ∧ ResS g W D Z H s σ (exS Φ t s)
theorem PS.mono {st : Stmt} {t t' : TS} (h : PS X st t) (m : ∀ D σ H, t' D σ H → t D σ H) : PS X st t' := ⟨fun pins s σ H D I q => h.run pins s σ H D I (m D σ H q)⟩
theorem PSs.mono {st : List Stmt} {t t' : TS} (h : PSs X st t) (m : ∀ D σ H, t' D σ H → t D σ H) : PSs X st t' := ⟨fun pins s σ H D I q => h.run pins s σ H D I (m D σ H q)⟩
theorem s_nil : PSs X [] (rdS g W Φ .pass) := PSs.mono pss_nil fun D σ H ⟨Z, s, st, h⟩ => by
  have h : ResS g W D Z H s σ (.nx s) := h
  exact h Z H σ ⟨.refl, st, fun _ q => .inl q, fun _ q => ⟨q, rfl⟩⟩
theorem s_one {st : Stmt} {t : T} (h : PS X st (rdS g W Φ t)) : PSs X [st] (rdS g W Φ t) := pss_one h
theorem s_cons {st : Stmt} {r : List Stmt} {t u : T} (h1 : PS X st (rdS g W Φ t)) (h2 : PSs X r (rdS g W Φ u)) : PSs X (st :: r) (rdS g W Φ (.seq t u)) := by
  refine PSs.mono (pss_cons h1 h2) fun D σ H ⟨Z, s, st, h⟩ => ⟨Z, s, st, ?_⟩
  have h : ResS g W D Z H s σ (match exS Φ t s with | .nx s => exS Φ u s | o => o) := h
  cases e : exS Φ t s with
  | nx s1 =>
    rw [e] at h
    exact fun Z1 H1 σ1 k => ⟨Z1, s1, k.st, ResS.rebase (o := exS Φ u s1) h k⟩
  | bk s' => rw [e] at h; exact h
  | ct s' => rw [e] at h; exact h
  | rt v s' => rw [e] at h; exact h
  | ex c fs s' => rw [e] at h; exact h
  | no => rw [e] at h; exact h
end
end MI

set_option Elab.async false
set_option linter.all false
set_option maxRecDepth 100000
set_option maxHeartbeats 4000000
/-! Statements. -/
namespace MI
open PySem PySem.Spec PyProof.Rows L2
section
variable {g : G} {c : Cc} {W : WXX} {Φ : Call} {kk : Nat} {X : Cx}
/-- an expression within a statement -/
theorem st_E {D : Ends} {Z H : Hp} {s : S} {σ : L2.St} {t : T} {f : Vl → S → MI.O} {Q : VK} (st : Sr g Z s σ H) (h : ResS g W D Z H s σ (match evE Φ t s with | .ok v s => f v s | .ex c fs s => .ex c fs s | .no => .no))
    (k : ∀ v s1 Z1 H1 x, KS g Z H s σ Z1 H1 s1 σ → (∀ a, Own s1 σ a → Own s σ a) → RF g H Z1 H1 v x → ResS g W D Z H s σ (f v s1) → Q x H1) : rdE g W Φ t σ H Q := by
  refine ⟨Z, s, st, ?_⟩
  cases e : evE Φ t s with
  | no => rw [e] at h; exact h.elim
  | ex cc fs s' =>
    rw [e] at h
    exact fun Z' H' dd k st' o rx => h Z' H' σ dd (.ofE k st' o (tlEx e)) rx
  | ok v s1 =>
    rw [e] at h
    exact fun Z1 H1 k1 st1 o1 x rf => k v s1 Z1 H1 x (.ofE k1 st1 o1 (tlE e)) o1 rf h
/-- .. used as a datum -/
theorem st_D {D : Ends} {Z H : Hp} {s : S} {σ : L2.St} {t : T} {f : Vl → S → MI.O} {Q : VK} (st : Sr g Z s σ H) (h : ResS g W D Z H s σ (match evE Φ t s with | .ok v s => f v s | .ex c fs s => .ex c fs s | .no => .no))
    (k : ∀ v s1 Z1 H1 x, KS g Z H s σ Z1 H1 s1 σ → RD g Z1 v.dat x → ResS g W D Z H s σ (f v s1) → Q x H1) : rdE g W Φ t σ H Q := by
  refine rdE_of st ?_
  cases e : evE Φ t s with
  | no => rw [e] at h; exact h.elim
  | ex cc fs s' =>
    rw [e] at h
    exact fun Z' H' dd k st' o rx => h Z' H' σ dd (.ofE k st' o (tlEx e)) rx
  | ok v s1 =>
    rw [e] at h
    exact fun Z1 H1 k1 st1 o1 x rd => k v s1 Z1 H1 x (.ofE k1 st1 o1 (tlE e)) rd h
theorem st_T {D : Ends} {Z H : Hp} {s : S} {σ : L2.St} {t : T} {f : Bool → S → MI.O} {Q : Bool → Hp → Prop} (st : Sr g Z s σ H)
    (h : ResS g W D Z H s σ (match evE Φ t s with | .ok v s => (match tru v.dat with | some b => f b s | none => .no) | .ex c fs s => .ex c fs s | .no => .no))
    (k : ∀ b s1 Z1 H1, KS g Z H s σ Z1 H1 s1 σ → ResS g W D Z H s σ (f b s1) → Q b H1) : rdT g W Φ t σ H Q := by
  refine ⟨Z, s, st, ?_⟩
  cases e : evE Φ t s with
  | no => rw [e] at h; exact h.elim
  | ex cc fs s' =>
    rw [e] at h
    exact fun Z' H' dd k st' o rx => h Z' H' σ dd (.ofE k st' o (tlEx e)) rx
  | ok v s1 =>
    rw [e] at h
    show Res g W σ Z H s (R.ofO (tru v.dat) s1) _
    cases e2 : tru v.dat with
    | none => simp only [e2] at h; exact h.elim
    | some b =>
      simp only [e2] at h
      exact fun Z1 H1 k1 st1 o1 => k b s1 Z1 H1 (.ofE k1 st1 o1 (tlE e)) h
theorem s_ret {e : Expr} {t : T} {pos : Pos} (h : PE X e (rdE g W Φ t)) : PS X (.Return (some e) pos) (rdS g W Φ (.ret t)) := PS.mono (ps_ret h) fun D σ H ⟨Z, s, st, h⟩ =>
  st_E (f := fun v s => .rt v s) st h fun v s1 Z1 H1 x ks _ rf q => q Z1 H1 σ x ks rf
theorem s_retN {pos : Pos} : PS X (.Return none pos) (rdS g W Φ .retN) := PS.mono ps_retN fun D σ H ⟨Z, s, st, h⟩ => by
  have h : ResS g W D Z H s σ (.rt (.d .non) s) := h
  exact h Z H σ .non ⟨.refl, st, fun _ q => .inl q, fun _ q => ⟨q, rfl⟩⟩ (.flat .non)
theorem s_pass {pos : Pos} : PS X (.Pass pos) (rdS g W Φ .pass) := PS.mono ps_pass fun D σ H ⟨Z, s, st, h⟩ => by
  have h : ResS g W D Z H s σ (.nx s) := h
  exact h Z H σ ⟨.refl, st, fun _ q => .inl q, fun _ q => ⟨q, rfl⟩⟩
theorem s_brk {pos : Pos} : PS X (.Break pos) (rdS g W Φ .brk) := PS.mono ps_break fun D σ H ⟨Z, s, st, h⟩ => by
  have h : ResS g W D Z H s σ (.bk s) := h
  exact h Z H σ ⟨.refl, st, fun _ q => .inl q, fun _ q => ⟨q, rfl⟩⟩
theorem s_cont {pos : Pos} : PS X (.Continue pos) (rdS g W Φ .cont) := PS.mono ps_continue fun D σ H ⟨Z, s, st, h⟩ => by
  have h : ResS g W D Z H s σ (.ct s) := h
  exact h Z H σ ⟨.refl, st, fun _ q => .inl q, fun _ q => ⟨q, rfl⟩⟩
theorem s_ex {e : Expr} {t : T} {pos : Pos} (h : PE X e (rdE g W Φ t)) (hs : swapsWith e none pos.line X.env = pure false) : PS X (.Expr e pos) (rdS g W Φ (.ex t)) := PS.mono (ps_expr h hs) fun D σ H ⟨Z, s, st, h⟩ =>
  st_E (f := fun _ s => .nx s) st h fun v s1 Z1 H1 x ks _ rf q => q Z1 H1 σ ks
theorem s_if {e : Expr} {a b : List Stmt} {tc ta tb : T} {pos : Pos} (hc : PT X e (rdT g W Φ tc)) (ha : PSs X a (rdS g W Φ ta)) (hb : PSs X b (rdS g W Φ tb)) : PS X (.If e a b pos) (rdS g W Φ (.iff tc ta tb)) := by
  refine PS.mono (ps_if hc ha hb) fun D σ H ⟨Z, s, st, h⟩ => ?_
  refine st_T (D := D) (f := fun b s => if b = true then exS Φ ta s else exS Φ tb s) st ?_ fun b s1 Z1 H1 ks q => ?_
  · have h : ResS g W D Z H s σ (match evE Φ tc s with
      | .ok v s => (match tru v.dat with
        | some true => exS Φ ta s
        | some false => exS Φ tb s
        | none => .no)
      | .ex c fs s => .ex c fs s
      | .no => .no) := h
    cases e1 : evE Φ tc s with
    | no => rw [e1] at h; exact h
    | ex cc fs s' => rw [e1] at h; exact h
    | ok v s1 =>
      rw [e1] at h
      dsimp only at h ⊢
      cases e2 : tru v.dat with
      | none => rw [e2] at h; exact h
      | some b => rw [e2] at h; cases b <;> exact h
  · cases b with
    | true => exact iteT ⟨Z1, s1, ks.st, ResS.rebase (by simpa using q) ks⟩
    | false => exact iteF ⟨Z1, s1, ks.st, ResS.rebase (by simpa using q) ks⟩
/-- name = value -/
theorem s_asg {i : Nat} {x : Str} {e : Expr} {t : T} {px pos : Pos} (O : OkX g c W Φ kk X) (hN : c.N[i]? = some x) (hl : Loc c.sc x) (hf : X.fn x = true ∨ c.sc.names.lookup x = some .local) (h : PE X e (rdE g W Φ t)) (hs : swapsWith e (some (.Name x px)) pos.line X.env = pure false) :
    PS X (.Assign [.Name x px] e pos) (rdS g W Φ (.asg (.var i) t)) := by
  refine PS.mono (ps_set (i := i) (by rw [O.hN]; exact O.nd) (by rw [O.hN]; exact hN) (by rw [O.hs]; exact hl) h hs (by rw [O.hs]; exact hf)) fun D σ H ⟨Z, s, st, h⟩ => ?_
  refine st_E (D := D) (f := fun v s => if i < s.length then .nx (s.set i (some v.fresh)) else .no) st h fun v s1 Z1 H1 x ks o1 rf q => ?_
  split at q
  · obtain ⟨st', o'⟩ := ks.st.set (i := i) rf.fresh.1 fun t ys a e1 e2 o => by
      obtain ⟨ws, hw, _⟩ := Own.some st (o1 a o)
      rw [rf.fresh.2 t ys a e1 e2] at hw
      cases hw
    refine q Z1 H1 _ ⟨ks.k, st', fun a z => ?_, fun j z => ⟨(ks.p j (KS.set1 (σ := σ) (x := none) z (fresh_no v)).1).1, (KS.set1 z (fresh_no v)).2⟩⟩
    rcases o' a z with z | ⟨t, ys, e1, e2⟩
    · exact ks.o a z
    · exact .inr (rf.fresh.2 t ys a e1 e2)
  · exact q.elim
theorem only_B {D : Ends} {Z H : Hp} {s : S} {σ : L2.St} {o : MI.O} (h : ResS g W D Z H s σ (onlyN o)) : ResB g W Z H s σ o D.nx := by
  cases o with
  | nx s' => exact h
  | ex c fs s' => exact h
  | _ => exact h.elim
/-- target = value -/
theorem s_asgP {tg e : Expr} {p t : T} {pos : Pos} (hp : PG X tg (rdG g W Φ p)) (h : PE X e (rdE g W Φ t)) (nv : ∀ i, p ≠ .var i) (hs : swapsWithSole [tg] e pos.line X.env = pure false) (hw : swappedStores [tg] e X.env = pure none) (h1 : (assignEach [tg] X.env).map (·.2) = [assign tg X.env]) :
    PS X (.Assign [tg] e pos) (rdS g W Φ (.asg p t)) := by
  refine PS.mono (ps_asg h hp hs hw h1) fun D σ H ⟨Z, s, st, h⟩ => ?_
  have h : ResS g W D Z H s σ (match evE Φ t s with
    | .ok v s => onlyN (bindP Φ p v.dat s)
    | .ex c fs s => .ex c fs s
    | .no => .no) := by
    cases p <;> first | exact h | exact absurd rfl (nv _)
  refine st_D (D := D) (f := fun v s => onlyN (bindP Φ p v.dat s)) st h fun v s1 Z1 H1 x ks rd q => ⟨Z1, s1, v.dat, ks.st, rd, (only_B q).rebase ks⟩
/-- xs.append(e) -/
theorem s_app {i : Nat} {x : Str} {e : Expr} {t : T} {px pa pos pos2 : Pos} (hv : PE X (.Name x px) (tVar i)) (h : PE X e (rdE g W Φ t)) (ns : noStar e = true) (ln : (pa.endLine == pos.line) = true) : PS X (.Expr (.Call (.Attribute (.Name x px) "append" pa) [e] [] pos) pos2) (rdS g W Φ (.app i t)) := by
  have few : ((backTo pos (starEach [e] X.env)).all (fun x => !x.1) && (backToKw pos (keywordEach [] X.env)).all (fun x => x.1.isSome) && decide ([e].length + ([] : List Keyword).length + (if ([] : List Keyword).isEmpty then 0 else 1) < 30)) = true := by
    rw [star_cons ns]; rfl
  refine PS.mono (ps_expr (pe_bm PySem.F.plainAttrs_list PySem.F.slot_list_append PySem.F.type_list_append mt_append hv (pa_cons h pa_nil (star_cons ns [] _)) rfl few ln (star_cons ns [] _))) fun D σ H ⟨Z, s, st, h⟩ => ?_
  let f : Vl → S → MI.O := fun v s => match s[i]? with
    | some (some (.own tag xs)) => if fitsL (xs.length + 1) then .nx (s.set i (some (.own tag (xs ++ [v.dat])))) else .no
    | _ => .no
  have h : ResS g W D Z H s σ (match s[i]? with
    | some (some (.own _ _)) => (match evE Φ t s with
      | .ok v s => f v s
      | .ex c fs s => .ex c fs s
      | .no => .no)
    | _ => .no) := h
  split at h
  · rename_i tg zs e0
    obtain ⟨x0, hx0, a, vs0, rfl, ha0, _, _⟩ := st.rel _ _ e0
    refine ⟨_, hx0, .inl ⟨rfl, _, .inl (.inl ha0)⟩, st_D (D := D) (f := f) st h fun v s1 Z1 H1 y ks rd q => ?_⟩
    simp only [f] at q
    split at q
    · rename_i tag xs es
      split at q
      · rename_i fit
        obtain ⟨x1, hx1, a1, vs, rfl, ha, za, rs⟩ := ks.st.rel _ _ es
        rw [hx0] at hx1
        cases hx1
        have fit := fitsL_le fit
        rw [rs.length] at fit
        have ks2 := ks.st.item (i := i) es hx0 (rs.append (.cons rd .nil)) (by rw [ha]; simp) za
        exact ⟨a, vs, y, rfl, rfl, ha, fit, q _ _ _ (ks.trans ks2)⟩
      · exact q.elim
    · exact q.elim
  · exact h.elim
end
end MI

set_option Elab.async false
set_option linter.all false
set_option maxRecDepth 100000
set_option maxHeartbeats 4000000
/-! Several names at once; loops. -/
namespace MI
open PySem PySem.Spec PyProof.Rows L2
section
variable {g : G} {c : Cc} {W : WXX} {Φ : Call} {kk : Nat} {X : Cx}
/-- how a tuple of targets takes a written tuple: the names, stored crosswise; or one by one -/
def swK (sc : Scope) (ts vs : List Expr) : Option (Option (List Str)) :=
  if (!(ts.length == 2 || ts.length == 3) || vs.length != ts.length || sc.kind != .function) = true then some none
  else if (vs.any fun | .Starred .. => true | _ => false) = true then some none
  else
    let line := (ts.head?.map (·.pos.line)).getD 0
    let names := ts.filterMap fun
      | .Name id pos => if (sc.names.lookup id == some .local && pos.line == line) = true then some id else none
      | _ => none
    if (names.length != ts.length || names.eraseDups.length != names.length) = true then some none
    else if vs.all (foldedForSure 8) = true then some none
    else if vs.all (constantsAlone 8) = true then none
    else some (some names)
theorem sw_is {sc : Scope} {ts vs : List Expr} {env : Env} {k k2 : Nat} {p p2 : Pos} {r : Option (List Str)} (he : env.scope = sc) (hk : sc.kind = .function) (h : swK sc ts vs = some r) : swappedStores [.Tuple ts k p] (.Tuple vs k2 p2) env = pure r := by
  have bk : env.blockKind = sc.kind := by
    unfold Env.blockKind
    rw [he, hk]
    rfl
  have kd : env.kindOf = fun x => sc.names.lookup x := by
    funext x
    unfold Env.kindOf
    rw [he]
  unfold swappedStores
  dsimp only
  rw [bk, kd]
  unfold swK at h
  split at h
  · rename_i c1
    cases h
    exact if_pos c1
  · rename_i c1
    refine (if_neg c1).trans ?_
    split at h
    · rename_i c2
      cases h
      exact if_pos c2
    · rename_i c2
      refine (if_neg c2).trans ?_
      dsimp only at h
      split at h
      · rename_i c3
        cases h
        exact if_pos c3
      · rename_i c3
        refine (if_neg c3).trans ?_
        split at h
        · rename_i c4
          cases h
          exact if_pos c4
        · rename_i c4
          refine (if_neg c4).trans ?_
          split at h
          · cases h
          · rename_i c5
            refine (if_neg c5).trans ?_
            cases h
            rfl
/-- values side by side -/
def rdV' (g : G) (W : WXX) (Φ : Call) (t : T) : TA := fun σ H Q => ∃ Z s, Sr g Z s σ H ∧ Res g W σ Z H s (evV Φ t s) fun vs _ Z' H' => ∀ xs, AgsR g H Z' H' σ (vs.map .val) xs → Q xs H'
theorem v_nil : PA X [] (rdV' g W Φ .nil) := PA.mono pa_nil fun σ H Q ⟨Z, s, st, h⟩ => by
  have h : Res g W σ Z H s (.ok [] s) fun vs _ Z' H' => ∀ xs, AgsR g H Z' H' σ (vs.map .val) xs → Q xs H' := h
  exact h.now st [] .nil
theorem v_cons {e : Expr} {es : List Expr} {t ts : T} (h1 : PE X e (rdE g W Φ t)) (h2 : PA X es (rdV' g W Φ ts)) (ns : noStar e = true) : PA X (e :: es) (rdV' g W Φ (.cons t ts)) := by
  refine PA.mono (pa_cons h1 h2 (star_cons ns es _)) fun σ H Q ⟨Z, s, st, h⟩ => ?_
  have h : Res g W σ Z H s ((evE Φ t s).bind fun x s => (evV Φ ts s).bind fun vs s => .ok (x :: vs) s) fun vs _ Z' H' => ∀ xs, AgsR g H Z' H' σ (vs.map .val) xs → Q xs H' := h
  refine ⟨Z, s, st, h.bind.mono fun v s1 Z1 H1 k1 st1 o1 q x rf => ⟨Z1, s1, st1, q.bind.mono fun vs s2 Z2 H2 k2 st2 o2 q2 xs rs => ?_⟩⟩
  have q2 : Res g W σ Z2 H2 s2 (.ok (v :: vs) s2) fun vs _ Z' H' => ∀ xs, AgsR g H Z' H' σ (vs.map .val) xs → Q xs H' := q2
  exact q2.now st2 _ (.val_cons rf k1.f (own_old st o1) k2 rs)
def setAllV : List Nat → List V → L2.St → L2.St
  | i :: is, x :: xs, σ => setAllV is xs (σ.set i (some x))
  | _, _, σ => σ
theorem set_all {H0 Z H : Hp} : ∀ {is : List Nat} {vs : List Vl} {xs : List V} {s : S} {σ : L2.St} {σ0 : L2.St}, Sr g Z s σ H → AgsR g H0 Z H σ0 (vs.map .val) xs → (∀ (j : Nat) t ys a, vs[j]? = some (.own t ys) → xs[j]? = some (.ref a) → ¬ Own s σ a) → is.length = vs.length →
    Sr g Z (setAll is vs s) (setAllV is xs σ) H ∧ ∀ a, Own (setAll is vs s) (setAllV is xs σ) a → Own s σ a ∨ H0 a = none
  | [], vs, xs, s, σ, σ0, st, r, fr, h => ⟨by simpa [setAll, setAllV] using st, fun a q => .inl (by simpa [setAll, setAllV] using q)⟩
  | i :: is, [], xs, s, σ, σ0, st, r, fr, h => by simp at h
  | i :: is, v :: vs, xs, s, σ, σ0, st, r, fr, h => by
    obtain ⟨x, ys, rfl, r2⟩ := AgsR.tail (a := .val v) (ags := vs.map .val) r
    obtain ⟨st1, o1⟩ := st.set (i := i) (v := v) (x := x) (r.val 0 v x rfl rfl) fun t zs a e1 e2 => by
      subst e1; subst e2
      exact fr 0 t zs a rfl rfl
    have fr1 : ∀ (j : Nat) t zs a, vs[j]? = some (.own t zs) → ys[j]? = some (.ref a) → ¬ Own (s.set i (some v)) (σ.set i (some x)) a := fun j t zs a e1 e2 q => by
      rcases o1 a q with q | ⟨t', zs', e3, e4⟩
      · exact fr (j + 1) t zs a (by simpa using e1) (by simpa using e2) q
      · subst e3; subst e4
        have := r.apart 0 (j + 1) t' t zs' zs a (by simp) (by simp [e1]) rfl (by simpa using e2)
        omega
    obtain ⟨st2, o2⟩ := set_all (is := is) (vs := vs) (xs := ys) st1 r2 fr1 (by simpa using h)
    refine ⟨st2, fun a q => ?_⟩
    rcases o2 a q with q | q
    · rcases o1 a q with q | ⟨t, zs, e3, e4⟩
      · exact .inl q
      · subst e3; subst e4
        exact .inr (r.new 0 t zs a rfl rfl)
    · exact .inr q
theorem AgsR.fresh {H0 Z H : Hp} {σ : L2.St} {vs : List Vl} {xs : List V} (r : AgsR g H0 Z H σ (vs.map .val) xs) : AgsR g H0 Z H σ ((vs.map Vl.fresh).map .val) xs := by
  have get : ∀ (j : Nat) v, ((vs.map Vl.fresh).map Ag.val)[j]? = some (.val v) → ∃ w, (vs.map Ag.val)[j]? = some (.val w) ∧ v = w.fresh := fun j v e => by
    rw [List.map_map, List.getElem?_map] at e
    obtain ⟨w, h1, h2⟩ := Option.map_eq_some_iff.mp e
    cases h2
    exact ⟨w, by rw [List.getElem?_map, h1]; rfl, rfl⟩
  refine ⟨by simpa using r.len, fun j v x e1 e2 => ?_, fun j i x e1 e2 => ?_, fun j t ys a e1 e2 => ?_, fun j j' t u ys zs a e1 e2 e3 e4 => ?_⟩
  · obtain ⟨w, h, rfl⟩ := get j v e1
    exact (r.val j w x h e2).fresh
  · rw [List.map_map, List.getElem?_map] at e1
    obtain ⟨w, h1, h2⟩ := Option.map_eq_some_iff.mp e1
    cases h2
  · obtain ⟨w, h, q⟩ := get j _ e1
    obtain ⟨t', rfl⟩ := fresh_own q.symm
    exact r.new j t' ys a h e2
  · obtain ⟨w, h, q⟩ := get j _ e1
    obtain ⟨t', rfl⟩ := fresh_own q.symm
    obtain ⟨w2, h2, q2⟩ := get j' _ e2
    obtain ⟨u', rfl⟩ := fresh_own q2.symm
    exact r.apart j j' t' u' ys zs a h h2 e3 e4
theorem set_all_p : ∀ {is : List Nat} {vs : List Vl} {xs : List V} {s : S} {σ : L2.St} {j : Nat}, is.length = vs.length → is.length = xs.length → Tg (setAll is (vs.map Vl.fresh) s) j → Tg s j ∧ (setAllV is xs σ)[j]? = σ[j]?
  | [], [], [], s, σ, j, _, _, q => ⟨by simpa [setAll] using q, by simp [setAllV]⟩
  | i :: is, v :: vs, x :: xs, s, σ, j, h1, h2, q => by
    obtain ⟨q1, q2⟩ := set_all_p (is := is) (vs := vs) (xs := xs) (s := s.set i (some v.fresh)) (σ := σ.set i (some x)) (by simpa using h1) (by simpa using h2) q
    obtain ⟨q3, q4⟩ := KS.set1 (σ := σ) (x := some x) q1 (fresh_no v)
    exact ⟨q3, q2.trans q4⟩
  | [], _ :: _, _, _, _, _, h, _, _ => by simp at h
  | [], [], _ :: _, _, _, _, _, h, _ => by simp at h
  | _ :: _, [], _, _, _, _, h, _, _ => by simp at h
  | _ :: _, _ :: _, [], _, _, _, _, h, _ => by simp at h
/-- the evaluator's end of such an assignment -/
theorem par_end {D : Ends} {σ : L2.St} {Z H : Hp} {s : S} {is : List Nat} {ts : T} {Q : List V → Hp → Prop} (st : Sr g Z s σ H) (h : ResS g W D Z H s σ (exS Φ (.par is ts) s))
    (k : ∀ xs Z1 H1, xs.length = is.length → (Same Z1 H1 ∧ ∀ Z' H', Ext Z1 H1 Z' H' → Z' = Z1 → Same Z1 H' → D.nx (setAllV is xs σ) H') → Q xs H1) : rdV' g W Φ ts σ H Q := by
  have h : ResS g W D Z H s σ (match evV Φ ts s with
    | .ok vs s => if is.length = vs.length && is.all (fun i => decide (i < s.length)) then .nx (setAll is (vs.map Vl.fresh) s) else .no
    | .ex c fs s => .ex c fs s
    | .no => .no) := h
  refine ⟨Z, s, st, ?_⟩
  cases e : evV Φ ts s with
  | no => rw [e] at h; exact h.elim
  | ex cc fs s' =>
    rw [e] at h
    exact fun Z' H' dd k st' o rx => h Z' H' σ dd (.ofE k st' o (tlVx e)) rx
  | ok vs s1 =>
    rw [e] at h
    intro Z1 H1 k1 st1 o1 xs rs
    dsimp only at h
    split at h
    · rename_i c1
      simp only [Bool.and_eq_true, decide_eq_true_eq] at c1
      have lx : xs.length = is.length := by
        have := rs.len
        rw [List.length_map] at this
        omega
      refine k xs Z1 H1 lx ⟨st1.sub, fun Z' H' ex ez sb => ?_⟩
      subst ez
      have st2 := st1.ext ex sb
      have fr : ∀ (j : Nat) t ys a, vs[j]? = some (.own t ys) → xs[j]? = some (.ref a) → H a = none := fun j t ys a e1 e2 => rs.new j t ys a (by rw [List.getElem?_map, e1]; rfl) e2
      have rs2 : AgsR g H Z' H' σ (vs.map .val) xs := ⟨rs.len, fun j v x e1 e2 => (rs.val j v x e1 e2).keep ex fun _ _ _ _ _ z => z.elim, rs.ref, rs.new, rs.apart⟩
      obtain ⟨st3, o3⟩ := set_all (is := is) st2 rs2.fresh (fun j t ys a e1 e2 q => by
        rw [List.getElem?_map] at e1
        obtain ⟨w, h1, h2⟩ := Option.map_eq_some_iff.mp e1
        obtain ⟨t', rfl⟩ := fresh_own h2
        obtain ⟨ws, hw, _⟩ := Own.some st (o1 a q)
        rw [fr j t' ys a h1 e2] at hw
        cases hw) (by rw [List.length_map]; exact c1.1)
      exact h Z' H' _ ⟨k1.two ex (fun _ z => z.elim), st3, fun a q => (o3 a q).imp (o1 a) id, fun j q => ⟨tlV e j (set_all_p (σ := σ) c1.1 lx.symm q).1, (set_all_p c1.1 lx.symm q).2⟩⟩
    · exact h.elim

theorem s_par2 {i j : Nat} {x y : Str} {a b : Expr} {px py pt pos : Pos} {kt k2 : Nat} {pt2 : Pos} {ts : T} (O : OkX g c W Φ kk X) (hi : c.N[i]? = some x) (hj : c.N[j]? = some y) (hij : i ≠ j) (hx : c.sc.names.lookup x = some .local) (hy : c.sc.names.lookup y = some .local) (ha : PA X [a, b] (rdV' g W Φ ts))
    (hk : c.sc.kind = .function) (hw : swK c.sc [.Name x px, .Name y py] [a, b] = some (some [x, y])) : PS X (.Assign [.Tuple [.Name x px, .Name y py] kt pt] (.Tuple [a, b] k2 pt2) pos) (rdS g W Φ (.par [i, j] ts)) := by
  refine PS.mono (ps_par (i := i) (j := j) O.cm (by rw [O.hN]; exact O.nd) (by rw [O.hN]; exact hi) (by rw [O.hN]; exact hj) hij (by rw [O.hs]; exact hx) (by rw [O.hs]; exact hy) ha (sw_is O.hs hk hw)) fun D σ H ⟨Z, s, st, h⟩ => ?_
  refine par_end st h fun xs Z1 H1 hl q => ?_
  match xs, hl with
  | [v, w], _ => exact ⟨v, w, rfl, q.2 Z1 H1 .refl rfl q.1⟩
theorem s_par3 {i j l : Nat} {x y z : Str} {a b e : Expr} {px py pz pt pos : Pos} {kt k2 : Nat} {pt2 : Pos} {ts : T} (O : OkX g c W Φ kk X) (hi : c.N[i]? = some x) (hj : c.N[j]? = some y) (hl : c.N[l]? = some z) (hij : i ≠ j) (hil : i ≠ l) (hjl : j ≠ l) (hx : c.sc.names.lookup x = some .local)
    (hy : c.sc.names.lookup y = some .local) (hz : c.sc.names.lookup z = some .local) (ha : PA X [a, b, e] (rdV' g W Φ ts)) (hk : c.sc.kind = .function) (hw : swK c.sc [.Name x px, .Name y py, .Name z pz] [a, b, e] = some (some [x, y, z])) :
    PS X (.Assign [.Tuple [.Name x px, .Name y py, .Name z pz] kt pt] (.Tuple [a, b, e] k2 pt2) pos) (rdS g W Φ (.par [i, j, l] ts)) := by
  refine PS.mono (ps_par3 (i := i) (j := j) (l := l) O.cm (by rw [O.hN]; exact O.nd) (by rw [O.hN]; exact hi) (by rw [O.hN]; exact hj) (by rw [O.hN]; exact hl) hij hil hjl (by rw [O.hs]; exact hx) (by rw [O.hs]; exact hy) (by rw [O.hs]; exact hz) ha (sw_is O.hs hk hw)) fun D σ H ⟨Z, s, st, h⟩ => ?_
  refine par_end st h fun xs Z1 H1 hl q => ?_
  match xs, hl with
  | [u, v, w], _ => exact ⟨u, v, w, rfl, q.2 Z1 H1 .refl rfl q.1⟩
/-- names as targets, one by one -/
def gNames (is : List Nat) : TGs := fun vs σ H Q => vs.length = is.length ∧ Q (setAllV is vs σ) H
def isNames (c : Cc) : List Expr → List Nat → Prop
  | [], [] => True
  | .Name x _ :: es, i :: is => c.N[i]? = some x ∧ Loc c.sc x ∧ isNames c es is
  | _, _ => False
theorem names_each {env : Env} : ∀ {es : List Expr} {is : List Nat}, isNames c es is → (assignEach es env).findIdx? (·.1) = none ∧ (assignEach es env).length = is.length
  | [], [], _ => ⟨rfl, rfl⟩
  | .Name x p :: es, i :: is, h => by
    obtain ⟨h1, h2⟩ := names_each (env := env) h.2.2
    constructor
    · show (((false, assign (.Name x p) env) :: assignEach es env).findIdx? (·.1)) = none
      rw [List.findIdx?_cons]
      simp [h1]
    · show ((false, assign (.Name x p) env) :: assignEach es env).length = _
      rw [List.length_cons, h2, List.length_cons]
theorem gs_names (O : OkX g c W Φ kk X) (hf : ∀ x, X.fn x = true) : ∀ {es : List Expr} {is : List Nat}, isNames c es is → PGs X es (gNames is)
  | [], [], _ => PGs.mono pgs_nil fun vs σ H Q ⟨h1, h2⟩ => by
    cases vs with
    | nil => exact ⟨rfl, by simpa [setAllV] using h2⟩
    | cons v vs => simp at h1
  | .Name x p :: es, i :: is, h => by
    refine PGs.mono (pgs_cons (pg_name (i := i) (by rw [O.hN]; exact O.nd) (by rw [O.hN]; exact h.1) (by rw [O.hs]; exact h.2.1) (.inl (hf x))) (gs_names O hf h.2.2) rfl) fun vs σ H Q ⟨h1, h2⟩ => ?_
    cases vs with
    | nil => simp at h1
    | cons v vs => exact ⟨v, vs, rfl, by simpa using h1, h2⟩
theorem s_parT {es vs : List Expr} {is : List Nat} {pt pos : Pos} {kt k2 : Nat} {pt2 : Pos} {ts : T} (O : OkX g c W Φ kk X) (hf : ∀ x, X.fn x = true) (hn : isNames c es is) (ha : PA X vs (rdV' g W Φ ts)) (hk : c.sc.kind = .function) (hw : swK c.sc es vs = some none) (hz : is.length ≤ 1000) :
    PS X (.Assign [.Tuple es kt pt] (.Tuple vs k2 pt2) pos) (rdS g W Φ (.par is ts)) := by
  obtain ⟨n1, n2⟩ := names_each (env := X.env) hn
  refine PS.mono (ps_asg (pe_tup ha) (pg_tup (n := is.length) O.cm (gs_names O hf hn) n2 n1) rfl (sw_is O.hs hk hw) rfl) fun D σ H ⟨Z, s, st, h⟩ => ?_
  refine par_end st h fun xs Z1 H1 hl q => ⟨by rw [hl]; exact Nat.le_of_lt (small1000 hz), fun p hp => ?_⟩
  exact ⟨p, xs, rfl, .of upd_same, hl, hl, q.2 Z1 _ (.lay hp) rfl (Same.lay q.1 hp)⟩
end
end MI

set_option Elab.async false
set_option linter.all false
set_option maxRecDepth 100000
set_option maxHeartbeats 4000000
/-! Loops. -/
namespace MI
open PySem PySem.Spec PyProof.Rows L2
section
variable {g : G} {c : Cc} {W : WXX} {Φ : Call} {kk : Nat} {X : Cx}
def stepW (Φ : Call) (tc tb : T) : S → MI.O := fun s => match evE Φ tc s with
    | .ok v s => (match tru v.dat with
      | some true => (match exS Φ tb s with | .ct s => .nx s | o => o)
      | some false => .bk s
      | none => .no)
    | .ex c fs s => .ex c fs s
    | .no => .no
theorem s_while {e : Expr} {b : List Stmt} {tc tb : T} {pos : Pos} (O : OkX g c W Φ kk X) (hc : PT X e (rdT g W Φ tc)) (hb : PSs X b (rdS g W Φ tb)) : PS X (.While e b [] pos) (rdS g W Φ (.whl tc tb)) := by
  refine PS.mono (ps_while O.po hc hb) fun D σ H ⟨Z, s, st, h⟩ => ?_
  have h : ResS g W D Z H s σ (loopN FUEL (stepW Φ tc tb) s) := h
  refine ⟨fun m σ' H' => ∃ Z' s', Sr g Z' s' σ' H' ∧ ResS g W D Z' H' s' σ' (loopN m (stepW Φ tc tb) s'), ⟨FUEL, Z, s, st, h⟩, ?_⟩
  clear h st
  rintro m σ1 H1 ⟨Z1, s1, st, h⟩
  cases m with
  | zero => exact h.elim
  | succ n =>
    let f : Bool → S → MI.O := fun k s => if k = true then (match exS Φ tb s with
        | .nx s => loopN n (stepW Φ tc tb) s
        | .ct s => loopN n (stepW Φ tc tb) s
        | .bk s => .nx s
        | o => o) else .nx s
    have h : ResS g W D Z1 H1 s1 σ1 (match evE Φ tc s1 with | .ok v s => (match tru v.dat with | some b => f b s | none => .no) | .ex c fs s => .ex c fs s | .no => .no) := by
      have h : ResS g W D Z1 H1 s1 σ1 (match stepW Φ tc tb s1 with
        | .nx s' => loopN n (stepW Φ tc tb) s'
        | .bk s' => .nx s'
        | o => o) := h
      unfold stepW at h
      cases e1 : evE Φ tc s1 with
      | no => rw [e1] at h; exact h
      | ex cc fs s' => rw [e1] at h; exact h
      | ok v s2 =>
        rw [e1] at h
        dsimp only at h ⊢
        cases e2 : tru v.dat with
        | none => rw [e2] at h; exact h
        | some k =>
          rw [e2] at h
          cases k with
          | false => exact h
          | true =>
            show ResS g W D Z1 H1 s1 σ1 (match exS Φ tb s2 with
              | .nx s => loopN n (stepW Φ tc tb) s
              | .ct s => loopN n (stepW Φ tc tb) s
              | .bk s => .nx s
              | o => o)
            dsimp only at h
            cases e3 : exS Φ tb s2 with
            | nx s' => rw [e3] at h; exact h
            | bk s' => rw [e3] at h; exact h
            | ct s' => rw [e3] at h; exact h
            | rt v s' => rw [e3] at h; exact h
            | ex c fs s' => rw [e3] at h; exact h
            | no => rw [e3] at h; exact h
    refine st_T (D := D) (f := f) st h fun k s2 Z2 H2 ks2 q => ?_
    cases k with
    | false =>
      refine iteF ?_
      have q : ResS g W D Z1 H1 s1 σ1 (.nx s2) := q
      exact q Z2 H2 σ1 ks2
    | true =>
      refine iteT ⟨fun σ' H' => ∃ Z' s', Sr g Z' s' σ' H' ∧ ResS g W D Z' H' s' σ' (loopN n (stepW Φ tc tb) s'), fun σ' H' w => ⟨n, Nat.lt_succ_self n, w⟩, Z2, s2, ks2.st, ?_⟩
      have q : ResS g W D Z2 H2 s2 σ1 (match exS Φ tb s2 with
        | .nx s => loopN n (stepW Φ tc tb) s
        | .ct s => loopN n (stepW Φ tc tb) s
        | .bk s => .nx s
        | o => o) := ResS.rebase (by
          have q := q
          simp only [f, if_true] at q
          exact q) ks2
      cases e3 : exS Φ tb s2 with
      | nx s3 =>
        rw [e3] at q
        exact fun Z3 H3 σ3 k3 => ⟨Z3, s3, k3.st, ResS.rebase q k3⟩
      | ct s3 =>
        rw [e3] at q
        exact fun Z3 H3 σ3 k3 => ⟨Z3, s3, k3.st, ResS.rebase q k3⟩
      | bk s3 => rw [e3] at q; exact q
      | rt v s3 => rw [e3] at q; exact q
      | ex cc fs s3 => rw [e3] at q; exact q
      | no => rw [e3] at q; exact q
def stepF (Φ : Call) (p b : T) : D → S → MI.O := fun x s => match onlyN (bindP Φ p x s) with
      | .nx s => exS Φ b s
      | o => o
theorem drop_some {α : Type} {l : List α} {i : Nat} {d : α} (h : l[i]? = some d) : l.drop i = d :: l.drop (i + 1) := by
  obtain ⟨h1, h2⟩ := List.getElem?_eq_some_iff.mp h
  rw [List.drop_eq_getElem_cons h1, h2]
theorem s_for {tg it : Expr} {b : List Stmt} {p ti tb : T} {pos : Pos} (O : OkX g c W Φ kk X) (hi : PI X tg it (rdI g W Φ ti)) (hp : PG X tg (rdG g W Φ p)) (hb : PSs X b (rdS g W Φ tb)) (hs : ∀ x, foldedSetIterable it X.env x = pure x) : PS X (.For tg it b [] pos) (rdS g W Φ (.for p ti tb)) := by
  refine PS.mono (ps_for O.po O.cm hi hp hb hs) fun D σ H ⟨Z, s, st, h⟩ => ⟨Z, s, st, ?_⟩
  have h : ResS g W D Z H s σ (match evI Φ ti s with
    | .ok xs s => loopL (stepF Φ p tb) xs s
    | .ex c fs s => .ex c fs s
    | .no => .no) := h
  cases e : evI Φ ti s with
  | no => rw [e] at h; exact h
  | ex cc fs s' =>
    rw [e] at h
    exact fun Z' H' dd k st' o rx => h Z' H' σ dd (.ofE k st' o (tlIx e)) rx
  | ok ds s0 =>
    rw [e] at h
    intro Z0 H0 k0 st0 o0 J jr
    have h0 : ResS g W D Z0 H0 s0 σ (loopL (stepF Φ p tb) ds s0) := ResS.rebase h (.ofE k0 st0 o0 (tlI e))
    refine ⟨fun i m σ' H' => m = ds.length - i ∧ ∃ Z' s', Same Z0 Z' ∧ Sr g Z' s' σ' H' ∧ ResS g W D Z' H' s' σ' (loopL (stepF Φ p tb) (ds.drop i) s'), ⟨_, rfl, Z0, s0, Same.refl _, st0, by simpa using h0⟩, ?_⟩
    clear h0 h
    rintro i m σ1 H1 ⟨rfl, Z1, s1, z1, st1, h⟩
    cases hd : ds[i]? with
    | none =>
      have hl : ds.length ≤ i := List.getElem?_eq_none_iff.mp hd
      rw [List.drop_eq_nil_of_le hl] at h
      have h : ResS g W D Z1 H1 s1 σ1 (.nx s1) := h
      exact .inl ⟨jr.stop i Z1 H1 z1 st1.sub hl, h Z1 H1 σ1 ⟨.refl, st1, fun _ q => .inl q, fun _ q => ⟨q, rfl⟩⟩⟩
    | some d =>
      have hl := (List.getElem?_eq_some_iff.mp hd).1
      obtain ⟨go, yl⟩ := jr.go i d Z1 H1 z1 st1.sub hd
      refine .inr ⟨go, fun σ' H' => ∃ Z' s', Same Z0 Z' ∧ Sr g Z' s' σ' H' ∧ ResS g W D Z' H' s' σ' (loopL (stepF Φ p tb) (ds.drop (i + 1)) s'), fun σ' H' w => ⟨ds.length - (i + 1), by omega, rfl, w⟩, fun x H2 hy => ?_⟩
      obtain ⟨Z2, ex, sb, rd⟩ := yl x H2 hy
      have st2 := st1.ext ex sb
      have h2 : ResS g W D Z2 H2 s1 σ1 (loopL (stepF Φ p tb) (ds.drop i) s1) := ResS.rebase h ⟨ex.wide fun _ z => z.elim, st2, fun _ q => .inl q, fun _ q => ⟨q, rfl⟩⟩
      rw [drop_some hd] at h2
      have h2 : ResS g W D Z2 H2 s1 σ1 (match (match onlyN (bindP Φ p d s1) with
          | .nx s => exS Φ tb s
          | o => o) with
        | .nx s' => loopL (stepF Φ p tb) (ds.drop (i + 1)) s'
        | .ct s' => loopL (stepF Φ p tb) (ds.drop (i + 1)) s'
        | .bk s' => .nx s'
        | o => o) := h2
      refine ⟨Z2, s1, d, st2, rd, ?_⟩
      cases e1 : bindP Φ p d s1 with
      | nx s3 =>
        rw [e1] at h2
        intro Z3 H3 σ3 k3
        have q := ResS.rebase h2 k3
        refine ⟨Z3, s3, k3.st, ?_⟩
        have q : ResS g W D Z3 H3 s3 σ3 (match exS Φ tb s3 with
          | .nx s' => loopL (stepF Φ p tb) (ds.drop (i + 1)) s'
          | .ct s' => loopL (stepF Φ p tb) (ds.drop (i + 1)) s'
          | .bk s' => .nx s'
          | o => o) := q
        have zz : Same Z0 Z3 := (z1.trans ex.z).trans k3.k.z
        cases e3 : exS Φ tb s3 with
        | nx s4 =>
          rw [e3] at q
          exact fun Z4 H4 σ4 k4 => ⟨Z4, s4, zz.trans k4.k.z, k4.st, ResS.rebase q k4⟩
        | ct s4 =>
          rw [e3] at q
          exact fun Z4 H4 σ4 k4 => ⟨Z4, s4, zz.trans k4.k.z, k4.st, ResS.rebase q k4⟩
        | bk s4 => rw [e3] at q; exact q
        | rt v s4 => rw [e3] at q; exact q
        | ex cc fs s4 => rw [e3] at q; exact q
        | no => rw [e3] at q; exact q
      | ex cc fs s3 => rw [e1] at h2; exact h2
      | bk s3 => rw [e1] at h2; exact h2
      | ct s3 => rw [e1] at h2; exact h2
      | rt v s3 => rw [e1] at h2; exact h2
      | no => rw [e1] at h2; exact h2
end
end MI

set_option Elab.async false
set_option linter.all false
set_option maxRecDepth 100000
set_option maxHeartbeats 4000000
/-! List comprehensions. -/
namespace MI
open PySem PySem.Spec PyProof.Rows L2
section
variable {g : G} {c : Cc} {W : WXX} {Φ : Call} {kk : Nat} {X : Cx}
theorem wipe_get (σ : L2.St) : ∀ (vs : List Nat) (j : Nat), (wipe σ vs)[j]? = if j ∈ vs then (if j < σ.length then some none else none) else σ[j]?
  | [], j => by simp [wipe]
  | v :: vs, j => by
    unfold wipe
    by_cases h : v = j
    · subst h
      rw [if_pos List.mem_cons_self]
      by_cases hl : v < σ.length
      · rw [List.getElem?_set_self (by rw [wipe_length]; exact hl), if_pos hl]
      · rw [if_neg hl, List.getElem?_eq_none (by rw [List.length_set, wipe_length]; omega)]
    · rw [List.getElem?_set_ne h, wipe_get σ vs j]
      have : (j ∈ v :: vs) ↔ j ∈ vs := by simp [Ne.symm h]
      simp only [this]
theorem wipeS_get (s : S) : ∀ (vs : List Nat) (j : Nat), (wipeS s vs)[j]? = if j ∈ vs then (if j < s.length then some none else none) else s[j]?
  | [], j => by simp [wipeS]
  | v :: vs, j => by
    have len : (wipeS s vs).length = s.length := by
      have : ∀ vs : List Nat, (wipeS s vs).length = s.length := fun vs => by
        induction vs with
        | nil => rfl
        | cons v vs ih => unfold wipeS; rw [List.length_set, ih]
      exact this vs
    unfold wipeS
    by_cases h : v = j
    · subst h
      rw [if_pos List.mem_cons_self]
      by_cases hl : v < s.length
      · rw [List.getElem?_set_self (by rw [len]; exact hl), if_pos hl]
      · rw [if_neg hl, List.getElem?_eq_none (by rw [List.length_set, len]; omega)]
    · rw [List.getElem?_set_ne h, wipeS_get s vs j]
      have : (j ∈ v :: vs) ↔ j ∈ vs := by simp [Ne.symm h]
      simp only [this]
theorem wipeS_len (s : S) : ∀ vs : List Nat, (wipeS s vs).length = s.length
  | [] => rfl
  | v :: vs => by unfold wipeS; rw [List.length_set, wipeS_len s vs]
theorem wipe_wipe {σ : L2.St} {vs : List Nat} : wipe (wipe σ vs) vs = wipe σ vs := by
  apply List.ext_getElem?
  intro j
  rw [wipe_get, wipe_length, wipe_get]
  split <;> rfl
theorem wipe_set {σ : L2.St} {vs : List Nat} {i : Nat} {o : Option V} (h : i ∈ vs) : wipe (σ.set i o) vs = wipe σ vs := by
  apply List.ext_getElem?
  intro j
  rw [wipe_get, wipe_get, List.length_set]
  split
  · rfl
  · rename_i hj
    rw [List.getElem?_set_ne]
    rintro rfl
    exact hj h
/-- slots forgotten on both sides -/
theorem Sr.wipe {Z H : Hp} {s : S} {σ : L2.St} (st : Sr g Z s σ H) (vs : List Nat) : Sr g Z (wipeS s vs) (L2.wipe σ vs) H ∧ ∀ a, Own (wipeS s vs) (L2.wipe σ vs) a → Own s σ a := by
  have key : ∀ (j : Nat) (v : Vl), (wipeS s vs)[j]? = some (some v) → j ∉ vs ∧ s[j]? = some (some v) := fun j v e => by
    rw [wipeS_get] at e
    split at e
    · split at e <;> cases e
    · rename_i h; exact ⟨h, e⟩
  have keyV : ∀ (j : Nat), j ∉ vs → (L2.wipe σ vs)[j]? = σ[j]? := fun j h => by rw [wipe_get, if_neg h]
  have own : ∀ a, Own (wipeS s vs) (L2.wipe σ vs) a → Own s σ a := fun a ⟨j, t, xs, e1, e2⟩ => by
    obtain ⟨h, e⟩ := key j _ e1
    rw [keyV j h] at e2
    exact ⟨j, t, xs, e, e2⟩
  refine ⟨⟨by rw [wipeS_len, wipe_length, st.len], st.sub, fun j v e => ?_, fun j k t u xs ys a e1 e2 e3 e4 => ?_⟩, own⟩
  · obtain ⟨h, e⟩ := key j v e
    rw [keyV j h]
    exact st.rel j v e
  · obtain ⟨h1, q1⟩ := key j _ e1
    obtain ⟨h2, q2⟩ := key k _ e2
    rw [keyV j h1] at e3
    rw [keyV k h2] at e4
    exact st.inj j k t u xs ys a q1 q2 e3 e4
/-- a comprehension's target -/
def PatOk (g : G) (Φ : Call) (p : T) (gr : TG) (own : List Nat) : Prop := ∀ (Z H : Hp) (s s2 : S) (σ : L2.St) (d : D) (x : V) (Q : L2.St → Hp → Prop), Sr g Z s σ H → RD g Z d x → bindP Φ p d s = .nx s2 →
  (∀ σ2, Sr g Z s2 σ2 H → (∀ a, Own s2 σ2 a → Own s σ a) → L2.wipe σ2 own = L2.wipe σ own → Q σ2 H) → gr x σ H Q
theorem pat_var {i : Nat} {own : List Nat} (h : i ∈ own) : PatOk g Φ (.var i) (gName i) own := fun Z H s s2 σ d x Q st rd e q => by
  have e : (if i < s.length then MI.O.nx (s.set i (some (.d d))) else .no) = .nx s2 := e
  split at e
  · cases e
    obtain ⟨st', o'⟩ := st.set (i := i) (v := .d d) (x := x) rd fun _ _ _ e => nomatch e
    exact q _ st' (fun a z => (o' a z).elim id fun ⟨_, _, e, _⟩ => nomatch e) (wipe_set h)
  · cases e
def varsT : List Nat → T
  | [] => .nil
  | i :: is => .cons (.var i) (varsT is)
theorem vars_bind : ∀ {is : List Nat} {ds : List D} {xs : List V} {Z H : Hp} {s s2 : S} {σ : L2.St} {own : List Nat}, Sr g Z s σ H → RDs g Z ds xs → bindPs Φ (varsT is) ds s = .nx s2 → (∀ i ∈ is, i ∈ own) →
    Sr g Z s2 (setAllV is xs σ) H ∧ (∀ a, Own s2 (setAllV is xs σ) a → Own s σ a) ∧ L2.wipe (setAllV is xs σ) own = L2.wipe σ own ∧ xs.length = is.length
  | [], ds, xs, Z, H, s, s2, σ, own, st, rs, e, ho => by
    cases ds with
    | nil =>
      cases rs
      have e : MI.O.nx s = .nx s2 := e
      cases e
      exact ⟨st, fun _ q => q, rfl, rfl⟩
    | cons d ds => cases e
  | i :: is, ds, xs, Z, H, s, s2, σ, own, st, rs, e, ho => by
    cases rs with
    | nil => cases e
    | @cons d x ds xs rd rs =>
      have e : (match (if i < s.length then MI.O.nx (s.set i (some (.d d))) else .no) with
        | .nx s => bindPs Φ (varsT is) ds s
        | o => o) = .nx s2 := e
      by_cases hi : i < s.length
      · rw [if_pos hi] at e
        obtain ⟨st', o'⟩ := st.set (i := i) (v := .d d) (x := x) rd fun _ _ _ e => nomatch e
        obtain ⟨h1, h2, h3, h4⟩ := vars_bind (own := own) st' rs e fun k hk => ho k (List.mem_cons_of_mem _ hk)
        refine ⟨h1, fun a z => ?_, h3.trans (wipe_set (ho i List.mem_cons_self)), by simp [h4]⟩
        rcases o' a (h2 a z) with q | ⟨_, _, e, _⟩
        · exact q
        · cases e
      · rw [if_neg hi] at e
        cases e
theorem varsT_len : ∀ is : List Nat, plainLen (varsT is) = some is.length
  | [] => rfl
  | i :: is => by
    show (plainLen (varsT is)).map (· + 1) = _
    rw [varsT_len is]
    rfl
theorem pat_vars (hK : g.K = X.K) {is own : List Nat} (ho : ∀ i ∈ is, i ∈ own) : PatOk g Φ (.tup (varsT is)) (gTup X.K is.length (gNames is)) own := fun Z H s s2 σ d x Q st rd e q => by
  cases d with
  | tup ds =>
    obtain ⟨a, xs, rfl, h, rs⟩ := rd.t
    have e : (if plainLen (varsT is) = some ds.length then bindPs Φ (varsT is) ds s else .no) = .nx s2 := e
    split at e
    · obtain ⟨h1, h2, h3, h4⟩ := vars_bind (own := own) st rs e ho
      exact ⟨a, xs, rfl, hK ▸ sqT_mono st.sub h, h4, h4, q _ h1 h2 h3⟩
    · cases e
  | _ => cases e

def W0 : WXX := fun _ _ _ _ => False
def TestOk (g : G) (Φ : Call) (tc : T) (tt : TT) : Prop := ∀ (Z H : Hp) (s s' : S) (σ : L2.St) (v : Vl) (k : Bool) (Q : Bool → Hp → Prop), Sr g Z s σ H → evE Φ tc s = .ok v s' → tru v.dat = some k →
  (∀ Z' H', Keep Z H (Own s σ) Z' H' → Sr g Z' s' σ H' → (∀ a, Own s' σ a → Own s σ a) → Q k H') → tt σ H Q
theorem test_rd {tc : T} : TestOk g Φ tc (rdT g W0 Φ tc) := fun Z H s s' σ v k Q st e1 e2 q => by
  refine ⟨Z, s, st, ?_⟩
  rw [e1]
  show Res g W0 σ Z H s (R.ofO (tru v.dat) s') _
  rw [e2]
  exact fun Z' H' k1 st1 o1 => q Z' H' k1 st1 o1
theorem test_yes : TestOk g Φ (.con (.bl true)) tYes := fun Z H s s' σ v k Q st e1 e2 q => by
  have e1 : R.ok (Vl.d (.bl true)) s = .ok v s' := e1
  cases e1
  cases e2
  exact q Z H .refl st fun _ z => z
def stepC (Φ : Call) (own : List Nat) (p c e : T) : D → S → Option (Option D × S) := fun x s => match bindP Φ p x s with
        | .nx s => (match evE Φ c s with
          | .ok b s => (match tru b.dat with
            | some true => (match evE Φ e s with
              | .ok v s => some (some v.dat, wipeS s own)
              | _ => none)
            | some false => some (none, wipeS s own)
            | none => none)
          | _ => none)
        | _ => none
/-- the state of a comprehension between two turns -/
structure LcSt (g : G) (Φ : Call) (own : List Nat) (p c e : T) (Z1 H1 : Hp) (s1 : S) (σ : L2.St) (D : Addr) (ds : List MI.D) (tot : List MI.D) (sf : S) (i : Nat) (H : Hp) (Z : Hp) (s : S) (acc : List MI.D) (vs : List V) (ys : List MI.D) : Prop where
  z : Same Z1 Z
  run : compL (stepC Φ own p c e) (ds.drop i) s = some (ys, sf)
  st : Sr g Z s (L2.wipe σ own) H
  lst : H D = some (.lst vs)
  zD : Z D = none
  rs : RDs g Z acc vs
  all : acc ++ ys = tot
  kp : Keep Z1 H1 (Own s1 σ) Z H
  ow : ∀ a, Own s (L2.wipe σ own) a → Own s1 σ a
/-- a comprehension's turns: what is walked is told of by jg and js, the end by fin -/
theorem lc_turns {own : List Nat} {p tc e : T} {gr : TG} {tt : TT} {σ : L2.St} {Z1 H1 : Hp} {s1 : S} {Q : VK} {ds tot : List MI.D} {sf : S} {J : It} {D : Addr} (hp : PatOk g Φ p gr own) (ht : TestOk g Φ tc tt) (st1 : Sr g Z1 s1 σ H1) (hD : H1 D = none)
    (jg : ∀ (i : Nat) d Z H, Keep Z1 H1 (Own s1 σ) Z H → Same Z H → ds[i]? = some d → J.go i H ∧ ∀ x H', J.yld i H x H' → ∃ Z', Ext Z H Z' H' ∧ Same Z' H' ∧ RD g Z' d x)
    (js : ∀ (i : Nat) Z H, Keep Z1 H1 (Own s1 σ) Z H → Same Z H → ds.length ≤ i → J.stop i H)
    (e0 : compL (stepC Φ own p tc e) ds (wipeS s1 own) = some (tot, sf)) (fit : tot.length ≤ sizeLine)
    (fin : ∀ Zc Hc vs, Sr g Zc (unwipe s1 sf own) σ Hc → Keep Z1 H1 (Own s1 σ) Zc Hc → (∀ a, Own (unwipe s1 sf own) σ a → Own s1 σ a) → Hc D = some (.lst vs) → Zc D = none → RDs g Zc tot vs → Q (.ref D) Hc) :
    ∃ W : Nat → Nat → Hp → Prop, (∃ m, W 0 m (upd H1 D (.lst []))) ∧ ∀ i m H, W i m H → (J.stop i H ∧ Q (.ref D) H) ∨ (J.go i H ∧ ∃ Nx : Hp → Prop, (∀ H', Nx H' → ∃ m', m' < m ∧ W (i + 1) m' H') ∧ ∀ x H', J.yld i H x H' → gr x (L2.wipe σ own) H' fun σ2 H2 => L2.wipe σ2 own = L2.wipe σ own ∧ tt σ2 H2 fun b H3 =>
      if b = true then (rdE g W0 Φ e) σ2 H3 fun y H4 => ∃ acc, H4 D = some (.lst acc) ∧ acc.length < sizeLine ∧ Nx (upd H4 D (.lst (acc ++ [y]))) else Nx H3) := by
  obtain ⟨stw, oww⟩ := st1.wipe own
  have noD : ∀ a, Own s1 σ a → a ≠ D := fun a o z => by
    obtain ⟨ws, hw, _⟩ := Own.some st1 o
    rw [z, hD] at hw
    cases hw
  refine ⟨fun i m H' => m = ds.length - i ∧ ∃ Z s acc vs ys, LcSt g Φ own p tc e Z1 H1 s1 σ D ds tot sf i H' Z s acc vs ys, ⟨_, rfl, Z1, wipeS s1 own, [], [], tot, ?_⟩, ?_⟩
  · exact ⟨Same.refl _, by simpa using e0, stw.ext (.lay hD) (Same.lay stw.sub hD), upd_same, Same.none st1.sub hD, .nil, rfl, (Ext.lay hD).wide fun _ z => z.elim, oww⟩
  · skip
    rintro i m Hc ⟨rfl, Zc, sc, acc, vs, ys, L⟩
    cases hd : ds[i]? with
    | none =>
      have hl : ds.length ≤ i := List.getElem?_eq_none_iff.mp hd
      have run := L.run
      rw [List.drop_eq_nil_of_le hl] at run
      have run : some ([], sc) = some (ys, sf) := run
      cases run
      have all := L.all
      rw [List.append_nil] at all
      refine .inl ⟨js i Zc Hc L.kp L.st.sub hl, ?_⟩
      -- the slots again as they stood
      have lsf : sf.length = s1.length := by rw [L.st.len, wipe_length, st1.len]
      have ug : ∀ (vs : List Nat) (j : Nat), (unwipe s1 sf vs)[j]? = if j ∈ vs then (if j < sf.length then some (match s1[j]? with | some (some (.d x)) => some (.d x) | _ => none) else none) else sf[j]? := fun vs j => by
        have ul : ∀ vs : List Nat, (unwipe s1 sf vs).length = sf.length := fun vs => by
          induction vs with
          | nil => rfl
          | cons v vs ih => unfold unwipe; rw [List.length_set, ih]
        induction vs with
        | nil => simp [unwipe]
        | cons v vs ih =>
          unfold unwipe
          by_cases hvj : v = j
          · subst hvj
            rw [if_pos List.mem_cons_self]
            by_cases hl : v < sf.length
            · rw [List.getElem?_set_self (by rw [ul]; exact hl), if_pos hl]
              try rfl
            · rw [if_neg hl, List.getElem?_eq_none (by rw [List.length_set, ul]; omega)]
          · rw [List.getElem?_set_ne hvj, ih]
            have : (j ∈ v :: vs) ↔ j ∈ vs := by simp [Ne.symm hvj]
            simp only [this]
      have key : ∀ (j : Nat) (v : Vl), (unwipe s1 sf own)[j]? = some (some v) → (j ∈ own ∧ ∃ x, v = .d x ∧ s1[j]? = some (some (.d x))) ∨ (j ∉ own ∧ sf[j]? = some (some v)) := fun j v ej => by
        rw [ug] at ej
        split at ej
        · rename_i hj
          split at ej
          · have ej := Option.some.inj ej
            split at ej
            · rename_i x hx
              cases ej
              exact .inl ⟨hj, x, rfl, hx⟩
            · cases ej
          · cases ej
        · rename_i hj
          exact .inr ⟨hj, ej⟩
      have keyV : ∀ (j : Nat), j ∉ own → (L2.wipe σ own)[j]? = σ[j]? := fun j hj => by rw [wipe_get, if_neg hj]
      have ownU : ∀ a, Own (unwipe s1 sf own) σ a → Own sf (L2.wipe σ own) a := fun a ⟨j, t, xs, q1, q2⟩ => by
        rcases key j _ q1 with ⟨_, x, e, _⟩ | ⟨hj, e⟩
        · cases e
        · exact ⟨j, t, xs, e, by rw [keyV j hj]; exact q2⟩
      have stU : Sr g Zc (unwipe s1 sf own) σ Hc := by
        refine ⟨?_, L.st.sub, fun j v q1 => ?_, fun j k t u xs ys a q1 q2 q3 q4 => ?_⟩
        · have ul : ∀ vs : List Nat, (unwipe s1 sf vs).length = sf.length := fun vs => by
            induction vs with
            | nil => rfl
            | cons v vs ih => unfold unwipe; rw [List.length_set, ih]
          rw [ul, lsf, st1.len]
        · rcases key j v q1 with ⟨_, x, rfl, e⟩ | ⟨hj, e⟩
          · obtain ⟨w, hw, r⟩ := st1.rel j _ e
            exact ⟨w, hw, RD.mono L.z r⟩
          · obtain ⟨w, hw, r⟩ := L.st.rel j v e
            exact ⟨w, by rw [← keyV j hj]; exact hw, r⟩
        · rcases key j _ q1 with ⟨_, x, e, _⟩ | ⟨hj, e⟩
          · cases e
          · rcases key k _ q2 with ⟨_, x, e', _⟩ | ⟨hk, e'⟩
            · cases e'
            · exact L.st.inj j k t u xs ys a e e' (by rw [keyV j hj]; exact q3) (by rw [keyV k hk]; exact q4)
      exact fin Zc Hc vs stU L.kp (fun a o => L.ow a (ownU a o)) L.lst L.zD (by have := L.rs; rwa [all] at this)
    | some d =>
      obtain ⟨go, yl⟩ := jg i d Zc Hc L.kp L.st.sub hd
      have hl := (List.getElem?_eq_some_iff.mp hd).1
      refine .inr ⟨go, fun H' => ∃ Z s acc vs ys, LcSt g Φ own p tc e Z1 H1 s1 σ D ds tot sf (i + 1) H' Z s acc vs ys, fun H' w => ⟨ds.length - (i + 1), by omega, rfl, w⟩, fun x H2 hy => ?_⟩
      obtain ⟨Z2, ex, sb, rd⟩ := yl x H2 hy
      have st2 := L.st.ext ex sb
      have run := L.run
      rw [drop_some hd] at run
      have run : (match stepC Φ own p tc e d sc with
        | none => none
        | some (y, s1) => match compL (stepC Φ own p tc e) (ds.drop (i + 1)) s1 with
          | none => none
          | some (ys, s2) => some (joinO y ys, s2)) = some (ys, sf) := run
      -- the turn's parts
      cases es : stepC Φ own p tc e d sc with
      | none => rw [es] at run; cases run
      | some pr =>
        obtain ⟨y, sn⟩ := pr
        rw [es] at run
        dsimp only at run
        cases er : compL (stepC Φ own p tc e) (ds.drop (i + 1)) sn with
        | none => rw [er] at run; cases run
        | some pr2 =>
          obtain ⟨yr, sl⟩ := pr2
          rw [er] at run
          have run := Option.some.inj run
          have ey : joinO y yr = ys := (Prod.mk.inj run).1
          have esl : sl = sf := (Prod.mk.inj run).2
          subst esl
          unfold stepC at es
          split at es
          · rename_i s3 eb
            split at es
            · rename_i b s4 ec
              refine hp Z2 H2 sc s3 (L2.wipe σ own) d x _ st2 rd eb fun σ3 st3 o3 w3 => ?_
              have w3 : L2.wipe σ3 own = L2.wipe σ own := w3.trans wipe_wipe
              refine ⟨w3, ?_⟩
              -- from the state between the turns to here
              have kD2 : Keep Z1 H1 (Own s1 σ) Z2 H2 := L.kp.two ex fun _ z => z.elim
              have D2 : H2 D = some (.lst vs) := ex.h D _ L.lst id
              have zD2 : Z2 D = none := ex.n D _ L.lst id L.zD
              have rs2 : RDs g Z2 acc vs := L.rs.mono ex.z
              have own3 : ∀ a, Own s3 σ3 a → Own s1 σ a := fun a o => L.ow a (o3 a o)
              split at es
              · rename_i et
                split at es
                · rename_i v s5 ee
                  cases es
                  refine ht Z2 H2 s3 s4 σ3 b true _ st3 ec et fun Z4 H4 k4 st4 o4 => iteT ⟨Z4, s4, st4, ?_⟩
                  rw [ee]
                  refine fun Z5 H5 k5 st5 o5 u rf => ?_
                  have own5 : ∀ a, Own s5 σ3 a → Own s1 σ a := fun a o => own3 a (o4 a (o5 a o))
                  have nD3 : ¬ Own s3 σ3 D := fun o => noD D (own3 D o) rfl
                  have nD4 : ¬ Own s4 σ3 D := fun o => nD3 (o4 D o)
                  have D4 : H4 D = some (.lst vs) := k4.h D _ D2 nD3
                  have zD4 : Z4 D = none := k4.n D _ D2 nD3 zD2
                  have D5 : H5 D = some (.lst vs) := k5.h D _ D4 nD4
                  have zD5 : Z5 D = none := k5.n D _ D4 nD4 zD4
                  have rs5 : RDs g Z5 acc vs := (rs2.mono k4.z).mono k5.z
                  have kD5 : Keep Z1 H1 (Own s1 σ) Z5 H5 := (kD2.two k4 fun a o => .inr (own3 a o)).two k5 fun a o => .inr (own3 a (o4 a o))
                  -- the element as a datum
                  obtain ⟨Z6, st6, rd6, e6, zD6, k6⟩ : ∃ Z6, Sr g Z6 s5 σ3 H5 ∧ RD g Z6 v.dat u ∧ Same Z5 Z6 ∧ Z6 D = none ∧ Keep Z1 H1 (Own s1 σ) Z6 H5 := by
                    obtain ⟨rv, fr⟩ := rf
                    cases v with
                    | d w => exact ⟨Z5, st5, rv, Same.refl _, zD5, kD5⟩
                    | fz w => exact ⟨Z5, st5, rv, Same.refl _, zD5, kD5⟩
                    | own t xs =>
                      obtain ⟨a, ws, rfl, ha, za, rs⟩ := rv
                      have hn : H4 a = none := fr t xs a rfl rfl
                      have aD : a ≠ D := by rintro rfl; rw [D4] at hn; cases hn
                      have no : ¬ Own s5 σ3 a := fun o => by
                        obtain ⟨zs, hz, _⟩ := Own.some st4 (o5 a o)
                        rw [hn] at hz; cases hz
                      have e2 : Same Z5 (upd Z5 a (.lst ws)) := fun b o q => by rw [upd_ne (ne_of_none q za)]; exact q
                      refine ⟨_, st5.freeze ha za no, .lst (.inl (.inl upd_same)) (rs.mono e2), e2, by rw [upd_ne (Ne.symm aD)]; exact zD5, ⟨kD5.z.trans e2, kD5.h, fun b o q nb zb => ?_, kD5.f⟩⟩
                      have : b ≠ a := by
                        rintro rfl
                        have h4 : H4 b = some o := k4.h b _ (kD2.h b _ q nb) fun z => nb (own3 b z)
                        rw [hn] at h4; cases h4
                      rw [upd_ne this]
                      exact kD5.n b o q nb zb
                  have sz : acc.length + 1 ≤ tot.length := by
                    have := congrArg List.length L.all
                    rw [← ey] at this
                    simp only [joinO, List.length_append, List.length_cons] at this
                    omega
                  refine ⟨vs, D5, by rw [← rs5.length]; omega, Z6, wipeS s5 own, acc ++ [v.dat], vs ++ [u], yr, ?_⟩
                  have rsl : RDs g Z6 (acc ++ [v.dat]) (vs ++ [u]) := (rs5.mono e6).append (.cons rd6 .nil)
                  have eL : Same Z6 (upd H5 D (.lst (vs ++ [u]))) := fun b o q => by
                    rw [upd_ne (ne_of_none q zD6)]
                    exact st6.sub b o q
                  have nD5 : ¬ Own s5 σ3 D := fun o => noD D (own5 D o) rfl
                  -- the list has grown; all else stands
                  have st7 : Sr g Z6 s5 σ3 (upd H5 D (.lst (vs ++ [u]))) := ⟨st6.len, eL, fun j w q => by
                    obtain ⟨y, hy, r⟩ := st6.rel j w q
                    refine ⟨y, hy, ?_⟩
                    cases w with
                    | d z => exact r
                    | fz z => exact r
                    | own t zs =>
                      obtain ⟨b, ws, rfl, hb, zb, rs⟩ := r
                      have : b ≠ D := by rintro rfl; exact nD5 ⟨j, t, zs, q, hy⟩
                      exact ⟨b, ws, rfl, by rw [upd_ne this]; exact hb, zb, rs⟩, st6.inj⟩
                  obtain ⟨st8, o8⟩ := st7.wipe own
                  rw [w3] at st8 o8
                  refine ⟨L.z.trans (ex.z.trans (k4.z.trans (k5.z.trans e6))), er, st8, upd_same, zD6, rsl, ?_, ⟨k6.z, fun b o q nb => ?_, k6.n, fun b q => ?_⟩, fun a o => own5 a (o8 a o)⟩
                  · rw [← L.all, ← ey, List.append_assoc]; rfl
                  · have : b ≠ D := by rintro rfl; rw [hD] at q; cases q
                    rw [upd_ne this]; exact k6.h b o q nb
                  · by_cases hb : b = D
                    · subst hb; exact hD
                    · rw [upd_ne hb] at q; exact k6.f b q
                · cases es
              · rename_i et
                cases es
                refine ht Z2 H2 s3 s4 σ3 b false _ st3 ec et fun Z4 H4 k4 st4 o4 => iteF ⟨Z4, wipeS s4 own, acc, vs, yr, ?_⟩
                have nD3 : ¬ Own s3 σ3 D := fun o => noD D (own3 D o) rfl
                obtain ⟨st8, o8⟩ := st4.wipe own
                rw [w3] at st8 o8
                exact ⟨L.z.trans (ex.z.trans k4.z), er, st8, k4.h D _ D2 nD3, k4.n D _ D2 nD3 zD2, rs2.mono k4.z, by rw [← L.all, ← ey]; rfl, kD2.two k4 fun a o => .inr (own3 a o), fun a o => own3 a (o4 a (o8 a o))⟩
              · cases es
            · cases es
          · cases es

/-- what is walked, or the slot of it -/
def rdIC (g : G) (W : WXX) (Φ : Call) (K : PySem.W.Frag) (t : T) : TI := fun σ H R => rdI g W Φ t σ H R ∨ ∃ i, t = .itv i ∧ iSeq K (tVar i) σ H R
theorem PI.ic {tg e : Expr} {t : T} (h : PI X tg e (rdI g W Φ t)) (hv : ∀ i, t = .itv i → PI X tg e (iSeq X.K (tVar i))) : PI X tg e (rdIC g W Φ X.K t) := ⟨fun pins s σ H R I q => by
  rcases q with q | ⟨i, rfl, q⟩
  · exact h.run pins s σ H R I q
  · exact (hv i rfl).run pins s σ H R I q⟩
theorem ownIt_ok {t : T} {s : S} {i : Nat} {tag : Bool} {xs : List MI.D} (h : ownIt t s = some (i, tag, xs)) : t = .itv i ∧ s[i]? = some (some (.own tag xs)) := by
  unfold ownIt at h
  split at h
  · split at h
    · rename_i e; cases h; exact ⟨rfl, e⟩
    · cases h
  · cases h
theorem lc_read {own : List Nat} {p it tc e : T} {gr : TG} {tt : TT} {te : TE} {σ : L2.St} {Z H : Hp} {s : S} {Q : VK} (O : OkX g c W Φ kk X) (hp : PatOk g Φ p gr own) (ht : TestOk g Φ tc tt) (he : te = rdE g W0 Φ e) (st : Sr g Z s σ H)
    (h : Res g W σ Z H s ((evI Φ it s).bind fun xs s => match compL (stepC Φ own p tc e) xs (wipeS s own) with
    | some (ys, s') => if fitsL ys.length then .ok (.own false ys) (unwipe s s' own) else .no
    | none => (.no : MI.R Vl)) fun v _ Z' H' => ∀ x, RF g H Z' H' v x → Q x H') : tLc (rdI g W Φ it) gr tt te own σ H Q := by
  subst he
  let nx : List MI.D → S → MI.R Vl := fun xs s => match compL (stepC Φ own p tc e) xs (wipeS s own) with
    | some (ys, s') => if fitsL ys.length then .ok (.own false ys) (unwipe s s' own) else .no
    | none => .no
  have h : Res g W σ Z H s ((evI Φ it s).bind nx) fun v _ Z' H' => ∀ x, RF g H Z' H' v x → Q x H' := h
  refine ⟨Z, s, st, h.bind.mono fun ds s1 Z1 H1 k1 st1 o1 q J jr D hD => ?_⟩
  simp only [nx] at q
  cases e0 : compL (stepC Φ own p tc e) ds (wipeS s1 own) with
  | none => rw [e0] at q; exact q.elim
  | some pr =>
    obtain ⟨tot, sf⟩ := pr
    rw [e0] at q
    dsimp only at q
    split at q
    · rename_i fit
      refine lc_turns hp ht st1 hD (fun i d Z H k sb hd => jr.go i d Z H k.z sb hd) (fun i Z H k sb hl => jr.stop i Z H k.z sb hl) e0 (fitsL_le fit) fun Zc Hc vs stU kU oU hl zD rs => ?_
      refine q Zc Hc kU stU oU (.ref D) ⟨⟨D, vs, rfl, hl, zD, rs⟩, fun t xs a e1 e2 => ?_⟩
      cases e2
      exact k1.f D hD
    · exact q.elim
/-- a comprehension over a list that a slot holds for itself: the slot is away for so long -/
theorem lc_readV {own : List Nat} {i : Nat} {p tc e : T} {gr : TG} {tt : TT} {te : TE} {σ : L2.St} {Z H : Hp} {s : S} {Q : VK} (O : OkX g c W Φ kk X) (hp : PatOk g Φ p gr own) (ht : TestOk g Φ tc tt) (he : te = rdE g W0 Φ e) (st : Sr g Z s σ H) {tag : Bool} {xs : List MI.D} (es : s[i]? = some (some (.own tag xs)))
    (h : Res g W σ Z H s (match compL (stepC Φ own p tc e) xs (wipeS (s.set i none) own) with
      | some (ys, s') => if fitsL ys.length && !own.contains i then .ok (.own false ys) ((unwipe (s.set i none) s' own).set i (some (.own tag xs))) else .no
      | none => (.no : R Vl)) fun v _ Z' H' => ∀ x, RF g H Z' H' v x → Q x H') : tLc (iSeq X.K (tVar i)) gr tt te own σ H Q := by
  subst he
  obtain ⟨x0, hx, a, vs0, rfl, ha, za, rs0⟩ := st.rel _ _ es
  have hl : i < s.length := (List.getElem?_eq_some_iff.mp es).1
  have key : ∀ (j : Nat) (v : Vl), (s.set i none)[j]? = some (some v) → i ≠ j ∧ s[j]? = some (some v) := fun j v q => by
    by_cases hij : i = j
    · subst hij; rw [List.getElem?_set_self hl] at q; cases q
    · rw [List.getElem?_set_ne hij] at q; exact ⟨hij, q⟩
  have st1 : Sr g Z (s.set i none) σ H := ⟨by simpa using st.len, st.sub, fun j v q => st.rel j v (key _ _ q).2, fun j k t u xs ys b e1 e2 e3 e4 => st.inj j k t u xs ys b (key _ _ e1).2 (key _ _ e2).2 e3 e4⟩
  have no : ¬ Own (s.set i none) σ a := by
    rintro ⟨j, u, ys, q1, q2⟩
    obtain ⟨hij, q1⟩ := key _ _ q1
    exact hij (st.inj i j tag u xs ys a es q1 hx q2)
  have ow : ∀ b, Own (s.set i none) σ b → Own s σ b := fun b ⟨j, u, ys, q1, q2⟩ => ⟨j, u, ys, (key _ _ q1).2, q2⟩
  refine ⟨_, hx, a, rfl, .inl ⟨vs0, .inl (.inl ha), fun D hD => ?_⟩⟩
  have hm : ∀ Z' H', Keep Z H (Own (s.set i none) σ) Z' H' → H' a = some (.lst vs0) := fun Z' H' k => k.h a _ ha no
  cases e0 : compL (stepC Φ own p tc e) xs (wipeS (s.set i none) own) with
  | none => rw [e0] at h; exact h.elim
  | some pr =>
    obtain ⟨tot, sf⟩ := pr
    rw [e0] at h
    dsimp only at h
    split at h
    · rename_i fit
      rw [Bool.and_eq_true] at fit
      have ni : i ∉ own := fun q => by
        have := fit.2
        rw [List.contains_iff_mem.mpr q] at this
        cases this
      refine lc_turns hp ht st1 hD (fun j d Z' H' k sb hd => ?_) (fun j Z' H' k sb hl => ?_) e0 (fitsL_le fit.1) fun Zc Hc vs stU kU oU hD' zD rs => ?_
      · obtain ⟨v, hv, rd⟩ := rs0.get hd
        have sq : SqL X.K H' a vs0 := .inl (.inl (hm Z' H' k))
        refine ⟨⟨vs0, v, sq, hv⟩, fun x H2 ⟨e1, e2⟩ => ?_⟩
        subst e1
        have := e2 vs0 sq
        rw [hv] at this
        cases this
        exact ⟨Z', .refl, sb, rd.mono k.z⟩
      · exact ⟨vs0, .inl (.inl (hm Z' H' k)), by rw [← rs0.length]; exact hl⟩
      · -- the slot is back
        have hl2 : i < (unwipe (s.set i none) sf own).length := by rw [stU.len, ← st.len]; exact hl
        have key2 : ∀ (j : Nat) (v : Vl), ((unwipe (s.set i none) sf own).set i (some (.own tag xs)))[j]? = some (some v) → (j = i ∧ v = .own tag xs) ∨ (i ≠ j ∧ (unwipe (s.set i none) sf own)[j]? = some (some v)) := fun j v q => by
          by_cases hij : i = j
          · subst hij; rw [List.getElem?_set_self hl2] at q; cases q; exact .inl ⟨rfl, rfl⟩
          · rw [List.getElem?_set_ne hij] at q; exact .inr ⟨hij, q⟩
        have hc : Hc a = some (.lst vs0) := hm Zc Hc kU
        have zc : Zc a = none := kU.n a _ ha no za
        have noU : ¬ Own (unwipe (s.set i none) sf own) σ a := fun q => no (oU a q)
        refine h Zc Hc (kU.wide ow) ⟨by rw [List.length_set]; exact stU.len, stU.sub, fun j v q => ?_, fun j k t u ys zs b q1 q2 q3 q4 => ?_⟩ (fun b ⟨j, u, ys, q1, q2⟩ => ?_) (.ref D) ⟨⟨D, vs, rfl, hD', zD, rs⟩, fun t ys b e1 e2 => ?_⟩
        · rcases key2 j v q with ⟨rfl, rfl⟩ | ⟨_, q⟩
          · exact ⟨_, hx, a, vs0, rfl, hc, zc, rs0.mono kU.z⟩
          · exact stU.rel j v q
        · rcases key2 _ _ q1 with ⟨rfl, _⟩ | ⟨n1, q1⟩
          · rcases key2 _ _ q2 with ⟨rfl, _⟩ | ⟨n2, q2⟩
            · rfl
            · rw [hx] at q3
              cases q3
              exact absurd ⟨k, u, zs, q2, q4⟩ noU
          · rcases key2 _ _ q2 with ⟨rfl, _⟩ | ⟨n2, q2⟩
            · rw [hx] at q4
              cases q4
              exact absurd ⟨j, t, ys, q1, q3⟩ noU
            · exact stU.inj j k t u ys zs b q1 q2 q3 q4
        · rcases key2 _ _ q1 with ⟨rfl, _⟩ | ⟨_, q1⟩
          · rw [hx] at q2
            cases q2
            exact ⟨_, tag, xs, es, hx⟩
          · exact ow b (oU b ⟨j, u, ys, q1, q2⟩)
        · cases e2
          exact hD
    · exact h.elim

theorem lc_readC {own : List Nat} {p it tc e : T} {gr : TG} {tt : TT} {te : TE} {σ : L2.St} {Z H : Hp} {s : S} {Q : VK} (O : OkX g c W Φ kk X) (hp : PatOk g Φ p gr own) (ht : TestOk g Φ tc tt) (he : te = rdE g W0 Φ e) (st : Sr g Z s σ H)
    (h : Res g W σ Z H s (evE Φ (.comp own p it tc e) s) fun v _ Z' H' => ∀ x, RF g H Z' H' v x → Q x H') : tLc (rdIC g W Φ X.K it) gr tt te own σ H Q := by
  have h : Res g W σ Z H s (match ownIt it s with
    | some (i, tag, xs) => (match compL (stepC Φ own p tc e) xs (wipeS (s.set i none) own) with
      | some (ys, s') => if fitsL ys.length && !own.contains i then .ok (.own false ys) ((unwipe (s.set i none) s' own).set i (some (.own tag xs))) else .no
      | none => .no)
    | none => (evI Φ it s).bind fun xs s => match compL (stepC Φ own p tc e) xs (wipeS s own) with
      | some (ys, s') => if fitsL ys.length then .ok (.own false ys) (unwipe s s' own) else .no
      | none => (.no : MI.R Vl)) fun v _ Z' H' => ∀ x, RF g H Z' H' v x → Q x H' := h
  cases eo : ownIt it s with
  | some pr =>
    obtain ⟨i, tag, xs⟩ := pr
    rw [eo] at h
    obtain ⟨rfl, es⟩ := ownIt_ok eo
    exact .inr ⟨i, rfl, lc_readV O hp ht he st es h⟩
  | none =>
    rw [eo] at h
    exact .inl (lc_read O hp ht he st h)
/-- the block's own place in the text -/
theorem ok_blk {scope : Scope} {s : Shared} {H : Hp} {C : Addr} {cl : List (Str × Addr)} {fp : List Addr} (O : OkX g c W Φ kk X) : OkX g { c with sc := relS scope c.sc } W0 Φ kk (X.blk s H scope (compEnvC scope cl C X.env) fp) where
  hK := O.hK
  hN := O.hN
  nd := O.nd
  hs := by
    show relS scope X.env.scope = _
    rw [O.hs]
  cm := O.cm
  hr := O.hr
  gd := O.gd
  tk := fun u s' x => by
    obtain ⟨a, B, sI, pins, σ, H, cls, d, _, _, _, _, _, _, _, _, w⟩ := x
    exact w.elim
  po := PassesOwn.never
  fnm := O.fnm
  glm := O.glm
  blt := O.blt
theorem d_comp {elt tg iter : Expr} {ifs : List Expr} {scope : Scope} {own : List (Str × Nat)} {pos : Pos} {p it tc e : T} {gr : TG} {tt : TT} (O : OkX g c W Φ kk X) (hi : PI X tg iter (rdIC g W Φ X.K it)) (ok : blkC c.N c.sc scope own = true)
    (hg : ∀ (s : Shared) (H : Hp) (C : Addr) (cl : List (Str × Addr)) (fp : List Addr), PG (X.blk s H scope (compEnvC scope cl C X.env) fp) tg gr) (hp : PatOk g Φ p gr (own.map (·.2)))
    (ht : ∀ (s : Shared) (H : Hp) (C : Addr) (cl : List (Str × Addr)) (fp : List Addr), PTs (X.blk s H scope (compEnvC scope cl C X.env) fp) ifs tt) (ho : TestOk g Φ tc tt)
    (he : ∀ (s : Shared) (H : Hp) (C : Addr) (cl : List (Str × Addr)) (fp : List Addr), PE (X.blk s H scope (compEnvC scope cl C X.env) fp) elt (rdE g W0 Φ e)) (hs : ∀ x, foldedSetIterable iter X.env x = pure x) :
    PE X (.ListComp elt [⟨tg, iter, ifs, 0⟩] scope pos) (rdE g W Φ (.comp (own.map (·.2)) p it tc e)) :=
  PE.mono (pe_lc O.cm (by rw [O.hN]; exact O.nd) hi (by rw [O.hN, O.hs]; exact blkOk_by ok) hg ht he hs) fun σ H Q ⟨Z, s, st, h⟩ => lc_readC O hp ho rfl st h
/-- name = [..] -/
theorem s_asgC {i : Nat} {y : Str} {py : Pos} {elt tg iter : Expr} {ifs : List Expr} {scope : Scope} {own : List (Str × Nat)} {pos spos : Pos} {p it tc e : T} {gr : TG} {tt : TT} (O : OkX g c W Φ kk X) (hy : c.N[i]? = some y) (hl : c.sc.names.lookup y = some .local)
    (hsw : swapsWith (.ListComp elt [⟨tg, iter, ifs, 0⟩] scope pos) (some (.Name y py)) spos.line X.env = pure true) (hi : PI X tg iter (rdIC g W Φ X.K it)) (ok : blkC c.N c.sc scope own = true)
    (hg : ∀ (s : Shared) (H : Hp) (C : Addr) (cl : List (Str × Addr)) (fp : List Addr), PG (X.blk s H scope (compEnvC scope cl C X.env) fp) tg gr) (hp : PatOk g Φ p gr (own.map (·.2)))
    (ht : ∀ (s : Shared) (H : Hp) (C : Addr) (cl : List (Str × Addr)) (fp : List Addr), PTs (X.blk s H scope (compEnvC scope cl C X.env) fp) ifs tt) (ho : TestOk g Φ tc tt)
    (he : ∀ (s : Shared) (H : Hp) (C : Addr) (cl : List (Str × Addr)) (fp : List Addr), PE (X.blk s H scope (compEnvC scope cl C X.env) fp) elt (rdE g W0 Φ e)) (hs : ∀ x, foldedSetIterable iter X.env x = pure x) :
    PS X (.Assign [.Name y py] (.ListComp elt [⟨tg, iter, ifs, 0⟩] scope pos) spos) (rdS g W Φ (.asg (.var i) (.comp (own.map (·.2)) p it tc e))) := by
  refine PS.mono (ps_setLc (i := i) O.cm (by rw [O.hN]; exact O.nd) (by rw [O.hN]; exact hy) (by rw [O.hs]; exact hl) hsw hi (by rw [O.hN, O.hs]; exact blkOk_by ok) hg ht he hs) fun D σ H ⟨Z, s, st, h⟩ => ?_
  have key : rdE g W Φ (.comp (own.map (·.2)) p it tc e) σ H fun x H1 => D.nx (σ.set i (some x)) H1 := by
    refine st_E (D := D) (f := fun v s => if i < s.length then .nx (s.set i (some v.fresh)) else .no) st h fun v s1 Z1 H1 x ks o1 rf q => ?_
    split at q
    · obtain ⟨st', o'⟩ := ks.st.set (i := i) rf.fresh.1 fun t ys a e1 e2 o => by
        obtain ⟨ws, hw, _⟩ := Own.some st (o1 a o)
        rw [rf.fresh.2 t ys a e1 e2] at hw
        cases hw
      refine q Z1 H1 _ ⟨ks.k, st', fun a z => ?_, fun j z => ⟨(ks.p j (KS.set1 (σ := σ) (x := none) z (fresh_no v)).1).1, (KS.set1 z (fresh_no v)).2⟩⟩
      rcases o' a z with z | ⟨t, ys, e1, e2⟩
      · exact ks.o a z
      · exact .inr (rf.fresh.2 t ys a e1 e2)
    · exact q.elim
  obtain ⟨Z2, s2, st2, h2⟩ := key
  exact lc_readC O hp ho rfl st2 h2
end
end MI

set_option Elab.async false
set_option linter.all false
set_option maxRecDepth 100000
set_option maxHeartbeats 4000000
/-! Further constructs: xs[::-1], in, *xs, enumerate, zip, range with a step, xs.pop(), x += e. -/
namespace MI
open PySem PySem.Spec PyProof.Rows L2 HT
section
variable {prog : Program} {w : World} {A : Around} {E : Value → Shared → Prop} {s : Shared}
theorem slice_rev {sl : Addr} {vk : Value} {n : Nat} {Q : Int × Int × Nat → Shared → Prop} (hs : s.heap.IsSliceOf sl .none .none vk) (pk : IsPart vk (some (-1)))
    (h : Q ((n : Int) - 1, -1, n) s) : wpAny (model prog w) A (Builtin.Slice.sliceApplied (.ref sl) (pure (n : Int))) Q E s := by
  obtain ⟨os, hos, hcs, hds⟩ := id hs
  cases pk with
  | int i u =>
  unfold Builtin.Slice.sliceApplied Builtin.Slice.sliceFields
  refine wpAny_bind (wpAny_bind (wpAny_field hos hds (x := .none) rfl (wpAny_bind (wpAny_field hos hds (x := .none) rfl (wpAny_bind (wpAny_field hos hds (x := .int (-1) u) rfl (wpAny_pure ?_)))))))
  refine wpAny_bind (slicePart_int ?_)
  show wpAny _ _ (if ((-1 : Int) == 0) = true then _ else _) _ _ s
  rw [if_neg (by decide)]
  refine wpAny_bind (slicePart_none (wpAny_bind (slicePart_none (wpAny_bind (wpAny_pure ?_)))))
  show wpAny _ _ (match Builtin.Slice.sliceAdjust none none (-1) (n : Int) with | (lo, hi) => pure (lo, (-1 : Int), Builtin.Slice.slicePlaces lo hi (-1))) _ _ s
  have e : Builtin.Slice.sliceAdjust none none (-1) (n : Int) = ((n : Int) - 1, -1) := rfl
  rw [e]
  have e2 : Builtin.Slice.slicePlaces ((n : Int) - 1) (-1) (-1) = n := by
    unfold Builtin.Slice.slicePlaces
    have h1 : ¬ ((-1 : Int) > 0) := by decide
    simp only [h1, if_false, show (- -1 : Int) = 1 by decide, Int.ediv_one]
    split <;> omega
  show wpAny _ _ (pure ((n : Int) - 1, (-1 : Int), Builtin.Slice.slicePlaces ((n : Int) - 1) (-1) (-1))) _ _ s
  rw [e2]
  exact wpAny_pure h
theorem fm_congr {α β : Type} {f h : α → Option β} : ∀ {l : List α}, (∀ x ∈ l, f x = h x) → l.filterMap f = l.filterMap h
  | [], _ => rfl
  | x :: l, e => by
    rw [List.filterMap_cons, List.filterMap_cons, e x (by simp), fm_congr fun y hy => e y (by simp [hy])]
theorem pick_rev (xs : Array Value) : ((List.range xs.size).filterMap fun (m : Nat) => xs[((xs.size : Int) - 1 + (m : Int) * -1).toNat]?).toArray = xs.toList.reverse.toArray := by
  have e : ((List.range xs.size).filterMap fun (m : Nat) => xs[((xs.size : Int) - 1 + (m : Int) * -1).toNat]?) = ((List.range xs.size).map fun k => xs.size - 1 - k).filterMap (xs[·]?) := by
    rw [List.filterMap_map]
    refine fm_congr fun m hm => ?_
    have := List.mem_range.mp hm
    have e : ((xs.size : Int) - 1 + (m : Int) * -1).toNat = xs.size - 1 - m := by omega
    rw [e]
    try rfl
  rw [e, PySem.W.krv_range, List.filterMap_reverse, PySem.W.krv_all]
theorem getItem_tuple_rev {t sl : Addr} {items : Array Value} {vk : Value} {Q : Value → Shared → Prop} (ht : IsTup s.heap t items) (hs : s.heap.IsSliceOf sl .none .none vk) (pk : IsPart vk (some (-1)))
    (h : Q (.ref s.heap.objs.size) { s with heap := s.heap.push { cls := .type "tuple", data := .seq items.toList.reverse.toArray } })
    (hsz : items.size ≤ sizeLine) : wpAny (model prog w) A (getItem (.ref t) (.ref sl)) Q E s := by
  have htake : sizeOk (.seq items.toList.reverse.toArray) := by
    show items.toList.reverse.toArray.size ≤ sizeLine
    rw [List.size_toArray, List.length_reverse, Array.length_toList]
    exact hsz
  obtain ⟨os, hos, hcs, hds⟩ := id hs
  have hTs : s.TypeIs (.ref sl) "slice" := ⟨os, hos, hcs⟩
  unfold getItem
  try with_reducible refine wpAny_holding ?_
  first | refine wpAny_bind (wpAny_pure ?_) | skip
  refine wpAny_bind (wpAny_sequenceKey ht.typeIs (by decide) ?_)
  refine wpAny_bind (wpAny_callSpecial?_slot (name := Str.ofString "__getitem__") ht.typeIs PyProof.Rows.slot_tuple_getitem
    (wpAny_call_entry PyProof.Rows.slot_tuple_getitem ht.typeIs entry_tuple_getitem ?_ (args_tuple_getitem _ _)))
  show wpAny _ _ (Builtin.Tuple.tupleItemsOf (.ref t) >>= _) _ _ s
  refine wpAny_bind (tupleItemsOf_ ht ?_)
  refine wpAny_bind (wpAny_typeOf hTs ?_)
  rw [if_pos (by decide)]
  refine wpAny_bind (slice_rev hs pk ?_)
  have hno : ¬ ((((items.size : Int) - 1) == 0 && (-1 : Int) == 1 && items.size == items.size) = true) := by
    intro q
    rw [Bool.and_eq_true, Bool.and_eq_true] at q
    exact absurd (eq_of_beq q.1.2) (by decide)
  show wpAny _ _ (if (((items.size : Int) - 1) == 0 && (-1 : Int) == 1 && items.size == items.size) = true then _ else _) _ _ s
  rw [if_neg hno, pick_rev]
  first
    | exact wpAny_bind (m := Builtin.Tuple.tupleExact _) (wpAny_newObj_type (wpAny_pure ⟨_, rfl, wpAny_pure h⟩) htake)
    | exact wpAny_bind (m := Builtin.Tuple.tupleExact _) (wpAny_newObj_type (wpAny_bind (wpAny_pure (wpAny_pure ⟨_, rfl, wpAny_pure h⟩))) htake)
    | exact wpAny_bind (wpAny_bind (m := Builtin.Tuple.tupleExact _) (wpAny_newObj_type (wpAny_pure (wpAny_pure ⟨_, rfl, wpAny_pure h⟩)) htake))
    | exact wpAny_bind (wpAny_bind (m := Builtin.Tuple.tupleExact _) (wpAny_newObj_type (wpAny_pure ⟨_, rfl, wpAny_pure h⟩) htake))
end
section
variable {g : G} {c : Cc} {W : WXX} {Φ : Call} {kk : Nat} {X : Cx}
def tRevA (K : PySem.W.Frag) (te : TE) : TE := fun σ H Q => te σ H fun x H1 => ∃ a xs, x = .ref a ∧ ((SqL K H1 a xs ∧ ∀ p, H1 p = none → Q (.ref p) (upd H1 p (.lst xs.reverse))) ∨ (SqT K H1 a xs ∧ ∀ p, H1 p = none → Q (.ref p) (upd H1 p (.tup xs.reverse))))
theorem pe_revA {e : Expr} {te : TE} {k : Nat} {p1 p2 p3 pos : Pos} (he : PE X e te) : PE X (.Subscript e (.Slice none none (some (.UnaryOp .USub (.Constant (.int 1) k p1) p2)) p3) pos) (tRevA X.K te) := by
  refine ⟨fun pins s σ H Q I h => ?_⟩
  refine Subscript_ (thn (he.run pins s σ H _ I h) fun v s1 ⟨x, H1, I1, r1, q1⟩ => ?_)
  obtain ⟨a, xs, ex, q⟩ := q1
  subst ex
  cases r1
  have hst : PO X (some (.UnaryOp .USub (.Constant (.int 1) k p1) p2)) (tPart (tUn (rU fun i => .int (-i)) (tC (.int 1)))) := po_some (pe_un un_neg pe_int)
  refine wpAny_Slice (thn (po_none.run pins s1 σ H1 (fun o H2 => o = none ∧ H2 = H1) I1 ⟨rfl, rfl⟩) fun vl s2 ⟨l, H2, I2, pl, el, e2⟩ => ?_)
  subst el e2
  refine thn (po_none.run pins s2 σ H2 (fun o H3 => o = none ∧ H3 = H2) I2 ⟨rfl, rfl⟩) fun vu s3 ⟨u, H3, I3, pu, eu, e3⟩ => ?_
  subst eu e3
  refine thn (hst.run pins s3 σ H3 (fun o H4 => o = some (-1) ∧ H4 = H3) I3 ⟨1, rfl, -1, rfl, rfl, rfl⟩) fun vs s4 ⟨o, H4, I4, ps, eo, e4⟩ => ?_
  subst eo e4
  have I5 : Inv X pins σ H4 { s4 with heap := s4.heap.push { cls := .type "slice", data := .fields #[vl, vu, vs] } } := I4.kept (t' := s4.toks) fun b ob q => Heap.get?_push_of_some _ q
  show wpAny (model X.prog X.w) X.A (subscriptTail e (.Slice none none (some (.UnaryOp .USub (.Constant (.int 1) k p1) p2)) p3) (.ref a) (.ref s4.heap.objs.size)) (EP X pins σ Q) X.xe { s4 with heap := s4.heap.push { cls := .type "slice", data := .fields #[vl, vu, vs] } }
  rcases q with ⟨hx, q⟩ | ⟨hx, q⟩
  · obtain ⟨its, r, ht, hz⟩ := I5.list hx
    have hlen := r.length
    refine tail_any (ops := [.ref a, .ref s4.heap.objs.size]) ht.isList.typeIs (PySem.slot_list_getitem.lookup) ?_ (by with_unfolding_all rfl)
    refine wpAny_getItem_list_slice ht.isList (Heap.IsSliceOf.new _ vl vu vs) pl pu ps (by decide) ?_ (by rw [List.size_toArray]; omega)
    rw [PySem.W.krv_pick]
    refine ⟨.ref _, _, I5.laid (t' := s4.toks) (o := .lst xs.reverse) (fun b ob q => Heap.get?_push_of_some _ q) (Nat.le_refl _) ?_, rfl, q _ (I5.hok.fresh (Nat.le_refl _))⟩
    exact ⟨by rw [List.length_reverse]; exact hz, _, 0, r.reverse, Heap.get?_push_size _ rfl⟩
  · obtain ⟨its, r, ht, hz⟩ := I5.tuple hx
    have hlen := r.length
    cases pl
    cases pu
    refine tail_any (ops := [.ref a, .ref s4.heap.objs.size]) ht.typeIs (PyProof.Rows.slot_tuple_getitem.lookup) ?_ (by with_unfolding_all rfl)
    refine getItem_tuple_rev ht (Heap.IsSliceOf.new _ .none .none vs) ps ?_ (by rw [List.size_toArray]; omega)
    refine ⟨.ref _, _, I5.laid (t' := s4.toks) (o := .tup xs.reverse) (fun b ob q => Heap.get?_push_of_some _ q) (Nat.le_refl _) ?_, rfl, q _ (I5.hok.fresh (Nat.le_refl _))⟩
    exact ⟨by rw [List.length_reverse]; exact hz, _, r.reverse, _, Heap.get?_push_size _ rfl, rfl, _, rfl⟩
theorem RDs.rev {Z : Hp} {xs : List D} {vs : List V} (r : RDs g Z xs vs) : RDs g Z xs.reverse vs.reverse := by
  induction xs generalizing vs with
  | nil => cases r; exact .nil
  | cons x xs ih =>
    cases r with
    | cons h t => rw [List.reverse_cons, List.reverse_cons]; exact (ih t).append (.cons h .nil)
theorem d_rev {e : Expr} {te : T} {k : Nat} {p1 p2 p3 pos : Pos} (O : OkX g c W Φ kk X) (he : PE X e (rdE g W Φ te)) : PE X (.Subscript e (.Slice none none (some (.UnaryOp .USub (.Constant (.int 1) k p1) p2)) p3) pos) (rdE g W Φ (.sl1 te)) := by
  refine PE.mono (pe_revA he) fun σ H Q ⟨Z, s, st, h⟩ => ?_
  refine rdE_op (f := fun x s => R.ofO (revD x.dat) s) st h fun v s1 Z1 H1 x k1 st1 o1 rx h1 => ?_
  obtain ⟨r, e, q⟩ := fin_ofO st1 k1.f h1
  unfold revD at e
  split at e
  · rename_i hv
    rw [hv] at rx
    cases e
    obtain ⟨p, vs, rfl, h, rs⟩ := rx.l
    exact ⟨p, vs, rfl, .inl ⟨(O.hK ▸ sqP_mono st1.sub h : SqP X.K H1 p vs).sq, fun b hb => q _ _ _ (.lay hb) (Same.lay st1.sub hb) (.own st1.sub hb rs.rev)⟩⟩
  · rename_i hv
    rw [hv] at rx
    cases e
    obtain ⟨p, vs, rfl, h, rs⟩ := rx.t
    exact ⟨p, vs, rfl, .inr ⟨O.hK ▸ sqT_mono st1.sub h, fun b hb => q _ _ _ (.layT st1.sub hb) (Same.layT st1.sub hb) (.tup st1.sub hb rs.rev)⟩⟩
  · cases e
end
end MI
namespace MI
open PySem PySem.Spec PyProof.Rows L2
section
variable {g : G} {c : Cc} {W : WXX} {Φ : Call} {kk : Nat} {X : Cx}
theorem Room.units65 {k : Nat} {A : Around} (r : Room k A) : A.units + 65 < cLine := by have := r.un; omega
def inOp (n : Bool) : CmpOp := if n then .NotIn else .In
def rM (g : G) (n : Bool) : R2 := fun x y H Q => ∃ Z a b k, Same Z H ∧ RD g Z a x ∧ RB g Z H b y ∧ memD a b = some k ∧ Q (.bl (k != n)) H
theorem op_mem (hK : g.K = X.K) (hu : X.A.units + 65 < cLine) (n : Bool) : OpR X (compareOp (inOp n)) (rM g n) := by
  rintro pins s σ H x y v u Q I rx ry ⟨Z, a, b, k, sb, da, db, e, q⟩
  unfold memD at e
  split at e
  · split at e
    · rename_i ys _ _ d ds e1 e2
      split at e
      · rename_i sh
        rw [Bool.and_eq_true] at sh
        cases e
        have p1 : Dp X.K H x d := hK ▸ RD.dp sb da e1
        have p2 : Dp X.K H y (.list ds) := hK ▸ RB.dp sb db (show toPy (.lst ys) = some (.list ds) by simp only [toPy, e2, Option.map_some])
        cases n with
        | false => exact op_inD hu pins s σ H x y v u Q I rx ry ⟨d, ds, p1, p2, sh.1, sh.2, by simpa using q⟩
        | true => exact op_notInD hu pins s σ H x y v u Q I rx ry ⟨d, ds, p1, p2, sh.1, sh.2, by simpa using q⟩
      · cases e
    · cases e
  · split at e
    · rename_i ys _ _ d ds e1 e2
      split at e
      · rename_i sh
        rw [Bool.and_eq_true] at sh
        cases e
        have p1 : Dp X.K H x d := hK ▸ RD.dp sb da e1
        have p2 : Dp X.K H y (.tuple ds) := hK ▸ RB.dp sb db (show toPy (.tup ys) = some (.tuple ds) by simp only [toPy, e2, Option.map_some])
        obtain ⟨as, r1⟩ := Dp.reads I d x v p1 rx
        obtain ⟨bs, r2⟩ := Dp.reads I (.tuple ds) y u p2 ry
        cases n with
        | false => exact SeqAt.in_tuple_reads r2 r1 (SeqAt.canLay_of_shaped sh.2) (SeqAt.canLay_of_shaped sh.1) (room_in_shaped sh.1 hu) ⟨.bl _, H, I, rfl, by simpa using q⟩
        | true => exact SeqAt.notIn_tuple_reads r2 r1 (SeqAt.canLay_of_shaped sh.2) (SeqAt.canLay_of_shaped sh.1) (room_in_shaped sh.1 hu) ⟨.bl _, H, I, rfl, by simpa using q⟩
      · cases e
    · cases e
  · cases e
theorem mem_core {ta tb : T} {n : Bool} {σ : L2.St} {Z H : Hp} {s : S} {K : VK} (nv : ∀ i, tb ≠ .var i) (st : Sr g Z s σ H)
    (h : Res g W σ Z H s (evE Φ (.mem n ta tb) s) fun v _ Z' H' => ∀ k, v = Vl.d (D.bl k) → K (.bl k) H') : tOp (rM g n) (rdE g W Φ ta) (rdE g W Φ tb) σ H K := by
  have e : evE Φ (.mem n ta tb) s = (evE Φ ta s).bind fun x s => (evE Φ tb s).bind fun y s => R.ofO (memV n x.dat y.dat) s := by
    cases tb <;> first | rfl | exact absurd rfl (nv _)
  rw [e] at h
  refine rdE_op (f := fun x s => (evE Φ tb s).bind fun y s => R.ofO (memV n x.dat y.dat) s) st h fun v s1 Z1 H1 x k1 st1 o1 rx h1 => ?_
  refine rdE_op (f := fun y s => R.ofO (memV n v.dat y.dat) s) st1 h1 fun w s2 Z2 H2 y k2 st2 o2 ry h2 => ?_
  cases e : memD v.dat w.dat with
  | none => unfold memV at h2; rw [e] at h2; exact h2.elim
  | some k =>
    unfold memV at h2
    rw [e] at h2
    have h2 : Res g W σ Z2 H2 s2 (R.ok (Vl.d (D.bl (k != n))) s2) fun v _ Z' H' => ∀ k, v = Vl.d (D.bl k) → K (.bl k) H' := h2
    exact ⟨Z2, _, _, k, st2.sub, rx.mono k2.z, .d ry, e, h2.now st2 _ rfl⟩
theorem mem_coreV {ta : T} {i : Nat} {n : Bool} {σ : L2.St} {Z H : Hp} {s : S} {K : VK} (st : Sr g Z s σ H)
    (h : Res g W σ Z H s (evE Φ (.mem n ta (.var i)) s) fun v _ Z' H' => ∀ k, v = Vl.d (D.bl k) → K (.bl k) H') : tOp (rM g n) (rdE g W Φ ta) (tVar i) σ H K := by
  let nx : Vl → S → R Vl := fun x s => match peek i s with
    | some y => R.ofO (memV n x.dat y) s
    | none => .no
  have h : Res g W σ Z H s ((evE Φ ta s).bind nx) fun v _ Z' H' => ∀ k, v = Vl.d (D.bl k) → K (.bl k) H' := h
  refine rdE_op (f := nx) st h fun v s1 Z1 H1 x k1 st1 o1 rx h1 => ?_
  cases e1 : peek i s1 with
  | none => simp only [nx, e1] at h1; exact h1.elim
  | some y =>
    simp only [nx, e1] at h1
    obtain ⟨u, hu, rb⟩ := peek_ok st1 e1
    cases e : memD v.dat y with
    | none => unfold memV at h1; rw [e] at h1; exact h1.elim
    | some k =>
      unfold memV at h1
      rw [e] at h1
      have h1 : Res g W σ Z1 H1 s1 (R.ok (Vl.d (D.bl (k != n))) s1) fun v _ Z' H' => ∀ k, v = Vl.d (D.bl k) → K (.bl k) H' := h1
      exact ⟨u, hu, Z1, _, _, k, st1.sub, rx, rb, e, h1.now st1 _ rfl⟩
theorem d_mem {a b : Expr} {ta tb : T} {n : Bool} {pos : Pos} (O : OkX g c W Φ kk X) (ha : PE X a (rdE g W Φ ta)) (hb : PE X b (rdE g W Φ tb)) (nv : ∀ i, tb ≠ .var i) (hm : behindInMarks (inOp n) b = false) : PE X (.Compare a [inOp n] [b] pos) (rdE g W Φ (.mem n ta tb)) :=
  PE.mono (pe_cmpR (op_mem O.hK (Room.units65 O.hr) n) ha hb hm) fun σ H Q ⟨Z, s, st, h⟩ => mem_core nv st (h.mono fun v s' Z' H' _ _ _ q k e => q _ (e ▸ .flat (.bl _)))
theorem d_memV {a : Expr} {y : Str} {py : Pos} {ta : T} {i : Nat} {n : Bool} {pos : Pos} (O : OkX g c W Φ kk X) (ha : PE X a (rdE g W Φ ta)) (hb : PE X (.Name y py) (tVar i)) (hm : behindInMarks (inOp n) (.Name y py) = false) : PE X (.Compare a [inOp n] [.Name y py] pos) (rdE g W Φ (.mem n ta (.var i))) :=
  PE.mono (pe_cmpR (op_mem O.hK (Room.units65 O.hr) n) ha hb hm) fun σ H Q ⟨Z, s, st, h⟩ => mem_coreV st (h.mono fun v s' Z' H' _ _ _ q k e => q _ (e ▸ .flat (.bl _)))
theorem mem_test {ta tb : T} {n : Bool} {σ : L2.St} {Z H : Hp} {s : S} {Q : Bool → Hp → Prop} (h : Res g W σ Z H s ((evE Φ (.mem n ta tb) s).bind fun v s => R.ofO (tru v.dat) s) fun k _ _ H' => Q k H') :
    Res g W σ Z H s (evE Φ (.mem n ta tb) s) fun v _ Z' H' => ∀ k, v = Vl.d (D.bl k) → ∃ k', V.bl k = .bl k' ∧ Q k' H' := by
  refine h.bind.mono fun v s1 Z1 H1 k1 st1 o1 q k e => ?_
  subst e
  have q : Res g W σ Z1 H1 s1 (.ok k s1) fun k _ _ H' => Q k H' := q
  exact ⟨k, rfl, q.now st1⟩
theorem t_mem {a b : Expr} {ta tb : T} {n : Bool} {pos : Pos} (O : OkX g c W Φ kk X) (ha : PE X a (rdE g W Φ ta)) (hb : PE X b (rdE g W Φ tb)) (nv : ∀ i, tb ≠ .var i) (hm : behindInMarks (inOp n) b = false) : PT X (.Compare a [inOp n] [b] pos) (rdT g W Φ (.mem n ta tb)) :=
  PT.mono (pt_cmpR (op_mem O.hK (Room.units65 O.hr) n) ha hb hm) fun σ H Q ⟨Z, s, st, h⟩ => mem_core nv st (mem_test h)
theorem t_memV {a : Expr} {y : Str} {py : Pos} {ta : T} {i : Nat} {n : Bool} {pos : Pos} (O : OkX g c W Φ kk X) (ha : PE X a (rdE g W Φ ta)) (hb : PE X (.Name y py) (tVar i)) (hm : behindInMarks (inOp n) (.Name y py) = false) : PT X (.Compare a [inOp n] [.Name y py] pos) (rdT g W Φ (.mem n ta (.var i))) :=
  PT.mono (pt_cmpR (op_mem O.hK (Room.units65 O.hr) n) ha hb hm) fun σ H Q ⟨Z, s, st, h⟩ => mem_coreV st (mem_test h)
/-! star -/
theorem l_star {e : Expr} {es : List Expr} {t ts : T} {p : Pos} (O : OkX g c W Φ kk X) (h1 : PE X e (rdE g W Φ t)) (h2 : PA X es (rdIt g W Φ ts)) (nv : ∀ i, t ≠ .var i) : PA X (.Starred e p :: es) (rdIt g W Φ (.star t ts)) := by
  refine PA.mono (StX.pa_star h1 h2) fun σ H Q ⟨Z, s, st, h⟩ => ?_
  let nx : Vl → S → R (List D) := fun x s => match items x.dat with
    | some ys => (evL Φ ts s).bind fun xs s => .ok (ys ++ xs) s
    | none => .no
  have e : evL Φ (.star t ts) s = (evE Φ t s).bind nx := by
    cases t <;> first | rfl | exact absurd rfl (nv _)
  rw [e] at h
  refine rdE_op (f := nx) st h fun v s1 Z1 H1 x k1 st1 o1 rx h1 => ?_
  have key : ∀ {ys : List D} {vs : List V}, RDs g Z1 ys vs → Res g W σ Z1 H1 s1 ((evL Φ ts s1).bind fun xs s => .ok (ys ++ xs) s) (fun ds _ Z' H' => ∀ xs, RDs g Z' ds xs → Q xs H') → rdIt g W Φ ts σ H1 fun ws H2 => Q (vs ++ ws) H2 := fun {ys vs} rs q =>
    ⟨Z1, s1, st1, q.bind.mono fun ds s2 Z2 H2 k2 st2 o2 q2 xs r2 => by
      have q2 : Res g W σ Z2 H2 s2 (.ok (ys ++ ds) s2) fun ds _ Z' H' => ∀ xs, RDs g Z' ds xs → Q xs H' := q2
      exact q2.now st2 _ ((rs.mono k2.z).append r2)⟩
  cases e : v.dat with
  | lst xs =>
    simp only [nx, e, items] at h1
    rw [e] at rx
    obtain ⟨a, vs, rfl, q, rs⟩ := rx.l
    exact ⟨a, vs, rfl, .inr (O.hK ▸ (sqP_mono st1.sub q).sq), key rs h1⟩
  | tup xs =>
    simp only [nx, e, items] at h1
    rw [e] at rx
    obtain ⟨a, vs, rfl, q, rs⟩ := rx.t
    exact ⟨a, vs, rfl, .inl (O.hK ▸ sqT_mono st1.sub q), key rs h1⟩
  | _ => simp only [nx, e, items] at h1; exact h1.elim
theorem l_starV {y : Str} {py : Pos} {es : List Expr} {i : Nat} {ts : T} {p : Pos} (O : OkX g c W Φ kk X) (h1 : PE X (.Name y py) (tVar i)) (h2 : PA X es (rdIt g W Φ ts)) : PA X (.Starred (.Name y py) p :: es) (rdIt g W Φ (.star (.var i) ts)) := by
  refine PA.mono (StX.pa_star h1 h2) fun σ H Q ⟨Z, s, st, h⟩ => ?_
  let C : List D → S → Hp → Hp → Prop := fun ds _ Z' H' => ∀ xs, RDs g Z' ds xs → Q xs H'
  have h : Res g W σ Z H s (match (peek i s).bind items with
    | some ys => (evL Φ ts s).bind fun xs s => .ok (ys ++ xs) s
    | none => .no) C := h
  cases e : (peek i s).bind items with
  | none => rw [e] at h; exact h.elim
  | some ys =>
    rw [e] at h
    obtain ⟨y, e1, e2⟩ := Option.bind_eq_some_iff.mp e
    obtain ⟨u, hu, rb⟩ := peek_ok st e1
    have key : ∀ {vs : List V}, RDs g Z ys vs → rdIt g W Φ ts σ H fun ws H2 => Q (vs ++ ws) H2 := fun {vs} rs =>
      ⟨Z, s, st, Res.mono (C := fun xs s1 Z1 H1 => Res g W σ Z1 H1 s1 (.ok (ys ++ xs) s1) C) (Res.bind h) fun ds s2 Z2 H2 k2 st2 o2 q2 xs r2 => q2.now st2 _ ((rs.mono k2.z).append r2)⟩
    refine ⟨u, hu, ?_⟩
    cases y with
    | lst xs =>
      cases e2
      obtain ⟨a, vs, rfl, q, rs⟩ := rb.l st.sub
      exact ⟨a, vs, rfl, .inr (O.hK ▸ q).sq, key rs⟩
    | tup xs =>
      cases e2
      obtain ⟨a, vs, rfl, q, rs⟩ := rb.t.t
      exact ⟨a, vs, rfl, .inl (O.hK ▸ sqT_mono st.sub q), key rs⟩
    | _ => cases e2
end
end MI
namespace MI
open PySem PySem.Spec PyProof.Rows L2
/-! ### enumerate(tuple) -/
theorem meets_enumerate_newT (l : Addr) (items : Array Value) :
    Meets (Builtin.«enumerate.__new__» ⟨[.type "enumerate", .ref l], []⟩) (fun _ R s => s.heap.IsTuple l items ∧
      R (.ok (.ret (.ref (s.heap.push { cls := .type "tuple_iterator", data := .fields #[.ref l, .int 0 0] }).objs.size)))
        { s with heap := (s.heap.push { cls := .type "tuple_iterator", data := .fields #[.ref l, .int 0 0] }).push { cls := .type "enumerate", data := .fields #[.none, .bool false, .ref s.heap.objs.size, rawInt 0, .none, .none] } }) :=
  .of_wp fun prog w A R s h => by
    obtain ⟨hp, g, d, tk, os⟩ := s; obtain ⟨h1, h⟩ := h
    have hsub := sub_enumerate
    have q1 : ∀ {A' : Around} {E : Value → Shared → Prop} {Q : Value → Shared → Prop}, Q (.ref hp.objs.size) ⟨hp.push { cls := .type "tuple_iterator", data := .fields #[.ref l, .int 0 0] }, g, d, tk, os⟩ → wpAny (model prog w) A' (pyIter (.ref l)) Q E ⟨hp, g, d, tk, os⟩ :=
      fun q => wpAny_pyIter_tuple (s := ⟨hp, g, d, tk, os⟩) h1 q
    wp_walk using q1
    refine wpAny_stack_any fun st => wpAny_pure ?_
    split
    · rename_i c _ _ _ _ _
      cases (c == Value.type "enumerate")
      · wp_walk using q1
        exact ⟨_, rfl, h⟩
      · wp_walk using q1
        exact ⟨_, rfl, h⟩
    · wp_walk using q1
      exact ⟨_, rfl, h⟩
theorem call_enumerate_tuple {prog : Program} {w : World} {A : Around} {E : Value → Shared → Prop} {s : Shared} {l : Addr} {items : Array Value} {Q : Value → Shared → Prop} (hL : s.heap.IsTuple l items)
    (h : ∀ h', IsEnum h' (s.heap.objs.size + 1) s.heap.objs.size 0 .none → h'.IsTupleIter s.heap.objs.size l 0 → h'.objs.size = s.heap.objs.size + 2 →
      (∀ b o, s.heap.get? b = some o → h'.get? b = some o) → Q (.ref (s.heap.objs.size + 1)) { s with heap := h' }) :
    wpAny (model prog w) A (call (.type "enumerate") [.ref l]) Q E s := by
  refine callType_new PySem.F.called_enumerate (by decide) (PySem.F.typeCall_enumerate_1 _) (PySem.F.newCall_enumerate_1 _) (fun obj => PySem.F.args_object_init_2 obj _) PySem.F.entry_enumerate_new
    (meets_enumerate_newT l items) ⟨hL, ?_⟩
  have hz : (s.heap.push { cls := .type "tuple_iterator", data := .fields #[.ref l, .int 0 0] }).objs.size = s.heap.objs.size + 1 := Heap.size_push ..
  show _ ∧ _
  rw [hz]
  have he : IsEnum ((s.heap.push { cls := .type "tuple_iterator", data := .fields #[.ref l, .int 0 0] }).push
      { cls := .type "enumerate", data := .fields #[.none, .bool false, .ref s.heap.objs.size, rawInt 0, .none, .none] }) (s.heap.objs.size + 1) s.heap.objs.size 0 .none := by
    have := Heap.get?_push_size (s.heap.push { cls := .type "tuple_iterator", data := .fields #[.ref l, .int 0 0] })
      (o := { cls := .type "enumerate", data := .fields #[.none, .bool false, .ref s.heap.objs.size, rawInt 0, .none, .none] }) rfl
    rw [hz] at this; exact this
  refine ⟨⟨_, he, rfl⟩, h _ he ⟨_, Heap.get?_push_of_some _ (Heap.get?_push_size _ rfl), rfl, rfl⟩ (by rw [Heap.size_push, hz]) fun b o x => Heap.get?_push_of_some _ (Heap.get?_push_of_some _ x)⟩
def IteT (K : PySem.W.Frag) (a : Addr) : It :=
  ⟨fun i H => ∃ (xs : List V) (x : V), SqT K H a xs ∧ xs[i]? = some x, fun i H v H' => ∃ T x, v = .ref T ∧ H T = none ∧ H' = upd H T (.tup [.int (i : Nat), x]) ∧ ∀ xs, SqT K H a xs → xs[i]? = some x, fun i H => ∃ xs : List V, SqT K H a xs ∧ xs.length ≤ i⟩
theorem turn_enumT {P : Program} {w : World} {K : PySem.W.Frag} {elts : List Expr} {kk : Nat} {tpos : Pos} (a e it : Addr) :
    Turn P w K (.Tuple elts kk tpos) (IteT K a) [e, it] e (fun i h => (∃ old, IsEnum h e it ((i : Nat) : Int) old) ∧ h.IsTupleIter it a i ∧ e ≠ it) where
  mem := by simp
  obj := fun i h st b hb => by
    obtain ⟨⟨old, he⟩, ⟨o, ho, hc, hd⟩, _⟩ := st
    have e' : b = e ∨ b = it := by simpa using hb
    rcases e' with z | z
    · rw [z]; exact ⟨_, he, fun v q => nomatch q⟩
    · rw [z]; exact ⟨o, ho, fun v q => by rw [hd] at q; cases q⟩
  keep := fun i h h' st k => let ⟨⟨old, he⟩, hi, hne⟩ := st; ⟨⟨old, k e (by simp) _ he⟩, hi.at fun o q => k it (by simp) o q, hne⟩
  item := by
    intro X hP hw hK hc i pins s σ H E I hf st hg
    subst hP hw hK
    obtain ⟨⟨old, he⟩, hit, hne⟩ := st
    obtain ⟨xs, x, hq, hx⟩ := hg
    obtain ⟨its, rv, p, hz⟩ := I.tuple hq
    obtain ⟨u, hu, ru⟩ := rv.get hx
    have hel : e < s.heap.objs.size := Heap.lt_size he
    have hil : it < s.heap.objs.size := by obtain ⟨_, q, _⟩ := hit; exact Heap.lt_size q
    have p' : s.heap.IsTuple a its.toArray := p
    have hai : a ≠ it := by
      rintro rfl
      obtain ⟨o1, q1, c1, _⟩ := p'
      obtain ⟨o2, q2, c2, _⟩ := hit
      rw [q1] at q2
      cases q2
      rw [c1] at c2
      exact absurd c2 (by decide)
    have hea : e ≠ a := by
      rintro rfl
      obtain ⟨o1, q1, c1, _⟩ := p'
      have q2 : s.heap.get? e = some _ := he
      rw [q1] at q2
      cases q2
      have c1 : Value.type "enumerate" = Value.type "tuple" := c1
      exact absurd c1 (by decide)
    have hlt : i < its.toArray.size := by
      have := (List.getElem?_eq_some_iff.mp hu).1
      simpa using this
    refine wpAny_pyNext_enum_itemD (Draws.tuple (prog := X.prog) (w := X.w) (A := X.A.in1) (show X.A.in1.handled = none from I.ok.hd hc) it a hai its.toArray) he ⟨hit, p'⟩ hlt hne (by simp [hne, hea]) fun y h' tk hP ho hit' hT hsz hk => ?_
    have ey : y = u := by
      have hP : its.toArray[i]? = some y := hP
      have : its[i]? = some y := by simpa using hP
      rw [hu] at this
      cases this
      rfl
    subst ey
    refine ⟨_, rfl, wpAny_letOwnedTupleGo_enum (s := { s with heap := h', toks := tk + 1 }) ho fun h'' he' sb => ?_⟩
    have hT2 : h''.get? s.heap.objs.size = some { cls := .type "tuple", data := .seq #[.int i tk, y] } := (sb.2 _ (Nat.ne_of_gt hel)).trans hT
    have new : ObjOk X.prog X.w (upd H s.heap.objs.size (.tup [.int (i : Nat), x])) h'' s.heap.objs.size (.tup [.int (i : Nat), x]) :=
      ⟨by show 2 ≤ sizeLine; decide, [.int i tk, y], .cons ⟨_, rfl⟩ (.cons ru .nil), ⟨_, hT2, rfl, _, rfl⟩⟩
    have I1 : Inv X pins σ (upd H s.heap.objs.size (.tup [.int (i : Nat), x])) { s with heap := h'', toks := tk + 1 } :=
      I.turnedNew (ch := [e, it]) (fun b ob hb q => (sb.2 b (fun z => hb (by simp [z]))).trans (hk b ob (fun z => hb (by simp [z])) (fun z => hb (by simp [z])) q)) hf (Nat.le_refl _) new
    refine ⟨.ref s.heap.objs.size, _, I1, rfl, ⟨_, x, rfl, I.hok.fresh (Nat.le_refl _), rfl, fun ys hy => by rw [I.tuple_inj hy hq]; exact hx⟩, ⟨⟨y, ?_⟩, hit'.1.at fun o q => (sb.2 it (Ne.symm hne)).trans q, hne⟩, fun b hb => ?_⟩
    · have e1 : ((i + 1 : Nat) : Int) = (i : Int) + 1 := by omega
      rw [e1]; exact he'
    · have hb' : b < s.heap.objs.size := by
        have e' : b = e ∨ b = it := by simpa using hb
        rcases e' with z | z
        · rw [z]; exact hel
        · rw [z]; exact hil
      rw [upd_ne (Nat.ne_of_lt hb')]
      exact (hf b hb).1
  done := by
    intro X hP hw hK hc i pins s σ H E I hf st hg
    subst hP hw hK
    obtain ⟨⟨old, he⟩, hit, hne⟩ := st
    obtain ⟨xs, hq, hx⟩ := hg
    obtain ⟨its, rv, p, hz⟩ := I.tuple hq
    obtain ⟨f0, f1, f2, f3, f4, f5⟩ := hf it (by simp)
    have hl := rv.length
    have p' : s.heap.IsTuple a its.toArray := p
    have hT : s.TypeIs (.ref e) "enumerate" := ⟨_, he, rfl⟩
    unfold pyNext
    refine wpAny_bind (wpAny_attempt (wpAny_callSpecial?_slot (name := Str.ofString "__next__") hT PySem.F.slot_enumerate_next
      (wpAny_call_entry PySem.F.slot_enumerate_next hT PySem.F.entry_enumerate_next ?_ (PySem.F.args_enumerate_next_1 _))))
    show wpAny _ _ (field (.ref e) 2 >>= _) _ _ _
    refine wpAny_bind (wpAny_field he rfl (x := .ref it) rfl ?_)
    refine wpAny_bind (wpAny_nextOf_tuple_end (I.ok.hd hc) hit p' (by simp; omega) fun h' x he' hx' => ?_)
    obtain ⟨o, ho, hc⟩ := hx'
    refine wpAny_bind (wpAny_isInstance (T := "StopIteration") (b := true) ⟨o, ho, hc⟩ isSubtype_stop ?_)
    exact wpAny_pure ⟨rfl, I.turned (t' := s.toks) (fun b o hb q => he' b o hb q) f0 f1 f3 f4 f5⟩
  self := fun A i s Q E st h => let ⟨⟨_, he⟩, _⟩ := st; wpAny_pyIter_enum he h
def iEnumA (K : PySem.W.Frag) (ta : TA) : TI := fun σ H R => ta σ H fun vs H1 => ∃ a xs, vs = [.ref a] ∧ ((SqL K H1 a xs ∧ R (Ite K a) H1) ∨ (SqT K H1 a xs ∧ R (IteT K a) H1))
theorem pi_enumA {X : Cx} {e : Expr} {ta : TA} {p pos tpos : Pos} {elts : List Expr} {kk : Nat} (hg : Gl X "enumerate") (hm : X.mg "enumerate" = none) (ha : PA X [e] ta) (hs : starEach [e] X.env = [(false, eval e X.env)] := by rfl) :
    PI X (.Tuple elts kk tpos) (.Call (.Name "enumerate" p) [e] [] pos) (iEnumA X.K ta) := by
  refine ⟨fun pins s σ H R I h => ?_⟩
  refine Call_ (ld_blt I hg hm boot_enumerate (PyProof.Rows.callWith_type1 (thn (ha.run pos pins s σ H _ I h) fun us s1 ⟨vs, H1, I1, r1, q1⟩ => ?_) hs rfl))
  obtain ⟨a, xs, ex, hq⟩ := q1
  subst ex
  cases r1 with
  | cons r rr =>
    cases rr
    cases r
    have fresh2 : ∀ b, b ∈ [s1.heap.objs.size + 1, s1.heap.objs.size] → FpOk X pins H1 b := fun b hb => by
      have e' : b = s1.heap.objs.size + 1 ∨ b = s1.heap.objs.size := by simpa using hb
      have hle : s1.heap.objs.size ≤ b := by
        rcases e' with z | z
        · rw [z]; exact Nat.le_add_right _ _
        · rw [z]; exact Nat.le_refl _
      exact I1.fpOk hle (I1.hok.fresh hle)
    rcases hq with ⟨hq, q⟩ | ⟨hq, q⟩
    · obtain ⟨its, rv, p', hz⟩ := I1.list hq
      refine call_enumerate_list p'.isList fun h' he hit hsz hk => wpAny_pyIter_enum he ?_
      have I2 : Inv X pins σ H1 { s1 with heap := h' } := I1.kept (t' := s1.toks) hk
      exact ⟨s1.heap.objs.size + 1, [s1.heap.objs.size + 1, s1.heap.objs.size], _, _, H1, rfl, I2, turn_enum a (s1.heap.objs.size + 1) s1.heap.objs.size, ⟨⟨.none, he⟩, hit, Nat.succ_ne_self _⟩, fresh2, q⟩
    · obtain ⟨its, rv, p', hz⟩ := I1.tuple hq
      refine call_enumerate_tuple (show s1.heap.IsTuple a its.toArray from p') fun h' he hit hsz hk => wpAny_pyIter_enum he ?_
      have I2 : Inv X pins σ H1 { s1 with heap := h' } := I1.kept (t' := s1.toks) hk
      exact ⟨s1.heap.objs.size + 1, [s1.heap.objs.size + 1, s1.heap.objs.size], _, _, H1, rfl, I2, turn_enumT a (s1.heap.objs.size + 1) s1.heap.objs.size, ⟨⟨.none, he⟩, hit, Nat.succ_ne_self _⟩, fresh2, q⟩
end MI
namespace MI
open PySem PySem.Spec PyProof.Rows L2
section
variable {g : G} {c : Cc} {W : WXX} {Φ : Call} {kk : Nat} {X : Cx}
theorem enumL_get : ∀ {xs : List D} {k i : Nat} {d : D}, (enumL k xs)[i]? = some d → ∃ x, xs[i]? = some x ∧ d = .tup [.int ((k + i : Nat) : Int), x]
  | [], k, i, d, e => by simp [enumL] at e
  | x :: r, k, 0, d, e => by
    simp [enumL] at e
    exact ⟨x, rfl, by subst e; rfl⟩
  | x :: r, k, i + 1, d, e => by
    obtain ⟨y, h1, h2⟩ := enumL_get (xs := r) (k := k + 1) (i := i) (d := d) (by simpa [enumL] using e)
    exact ⟨y, by simpa using h1, by rw [h2, show k + 1 + i = k + (i + 1) by omega]⟩
theorem enumL_len : ∀ (xs : List D) (k : Nat), (enumL k xs).length = xs.length
  | [], k => rfl
  | x :: r, k => by rw [enumL, List.length_cons, List.length_cons, enumL_len r]
theorem zipL_get : ∀ {xs ys : List D} {i : Nat} {d : D}, (zipL xs ys)[i]? = some d → ∃ x y, xs[i]? = some x ∧ ys[i]? = some y ∧ d = .tup [x, y]
  | [], ys, i, d, e => by simp [zipL] at e
  | x :: r, [], i, d, e => by simp [zipL] at e
  | x :: r, y :: q, 0, d, e => by
    simp [zipL] at e
    exact ⟨x, y, rfl, rfl, e.symm⟩
  | x :: r, y :: q, i + 1, d, e => by
    obtain ⟨u, v, h1, h2, h3⟩ := zipL_get (xs := r) (ys := q) (i := i) (d := d) (by simpa [zipL] using e)
    exact ⟨u, v, by simpa using h1, by simpa using h2, h3⟩
theorem zipL_len : ∀ (xs ys : List D), (zipL xs ys).length = min xs.length ys.length
  | [], ys => by simp [zipL]
  | x :: r, [] => by simp [zipL]
  | x :: r, y :: q => by rw [zipL, List.length_cons, List.length_cons, List.length_cons, zipL_len r q]; omega
theorem jr_pair {Z H H' : Hp} {a b : D} {x y u : V} {T : Addr} (sb : Same Z H) (e : u = .ref T) (hT : H T = none) (e2 : H' = upd H T (.tup [x, y])) (r1 : RD g Z a x) (r2 : RD g Z b y) : ∃ Z', Ext Z H Z' H' ∧ Same Z' H' ∧ RD g Z' (.tup [a, b]) u := by
  subst e e2
  exact ⟨_, .layT sb hT, Same.layT sb hT, (RF.tup (H := H) sb hT (.cons r1 (.cons r2 .nil))).1⟩
theorem jr_enumL (hK : g.K = X.K) {Z0 : Hp} {ds : List D} {a : Addr} {vs : List V} (h : SqP X.K Z0 a vs) (r : RDs g Z0 ds vs) : JR g Z0 (enumL 0 ds) (Ite X.K a) where
  go := fun i d Z H z sb e => by
    obtain ⟨x, hx, rfl⟩ := enumL_get e
    obtain ⟨v, hv, rd⟩ := r.get hx
    have hH := sqP_mono sb (sqP_mono z h)
    refine ⟨⟨vs, v, hH.sq, hv⟩, fun u H' ⟨T, y, e1, hT, e2, e3⟩ => ?_⟩
    have := e3 vs hH.sq
    rw [hv] at this
    cases this
    rw [Nat.zero_add]
    exact jr_pair sb e1 hT e2 (.int _) (rd.mono z)
  stop := fun i Z H z sb l => ⟨vs, (sqP_mono sb (sqP_mono z h)).sq, by rw [enumL_len] at l; rw [← r.length]; exact l⟩
theorem jr_enumT (hK : g.K = X.K) {Z0 : Hp} {ds : List D} {a : Addr} {vs : List V} (h : SqT X.K Z0 a vs) (r : RDs g Z0 ds vs) : JR g Z0 (enumL 0 ds) (IteT X.K a) where
  go := fun i d Z H z sb e => by
    obtain ⟨x, hx, rfl⟩ := enumL_get e
    obtain ⟨v, hv, rd⟩ := r.get hx
    have hH := sqT_mono sb (sqT_mono z h)
    refine ⟨⟨vs, v, hH, hv⟩, fun u H' ⟨T, y, e1, hT, e2, e3⟩ => ?_⟩
    have := e3 vs hH
    rw [hv] at this
    cases this
    rw [Nat.zero_add]
    exact jr_pair sb e1 hT e2 (.int _) (rd.mono z)
  stop := fun i Z H z sb l => ⟨vs, sqT_mono sb (sqT_mono z h), by rw [enumL_len] at l; rw [← r.length]; exact l⟩
theorem jr_zipL (hK : g.K = X.K) {Z0 : Hp} {ds es : List D} {a b : Addr} {vs ws : List V} (h : SqP X.K Z0 a vs) (r : RDs g Z0 ds vs) (h2 : SqP X.K Z0 b ws) (r2 : RDs g Z0 es ws) : JR g Z0 (zipL ds es) (Itz X.K a b) where
  go := fun i d Z H z sb e => by
    obtain ⟨x, y, hx, hy, rfl⟩ := zipL_get e
    obtain ⟨v, hv, rd⟩ := r.get hx
    obtain ⟨w, hw, rd2⟩ := r2.get hy
    have hH := sqP_mono sb (sqP_mono z h)
    have hH2 := sqP_mono sb (sqP_mono z h2)
    refine ⟨⟨vs, ws, v, w, hH.sq, hH2.sq, hv, hw⟩, fun u H' ⟨T, x', y', e1, hT, e2, e3, e4⟩ => ?_⟩
    have q1 := e3 vs hH.sq
    have q2 := e4 ws hH2.sq
    rw [hv] at q1
    rw [hw] at q2
    cases q1
    cases q2
    exact jr_pair sb e1 hT e2 (rd.mono z) (rd2.mono z)
  stop := fun i Z H z sb l => ⟨vs, ws, (sqP_mono sb (sqP_mono z h)).sq, (sqP_mono sb (sqP_mono z h2)).sq, by rw [zipL_len] at l; rw [← r.length, ← r2.length]; omega⟩
theorem jr_zipT (hK : g.K = X.K) {Z0 : Hp} {ds es : List D} {a b : Addr} {vs ws : List V} (h : SqT X.K Z0 a vs) (r : RDs g Z0 ds vs) (h2 : SqT X.K Z0 b ws) (r2 : RDs g Z0 es ws) : JR g Z0 (zipL ds es) (RZ.ItzT X.K a b) where
  go := fun i d Z H z sb e => by
    obtain ⟨x, y, hx, hy, rfl⟩ := zipL_get e
    obtain ⟨v, hv, rd⟩ := r.get hx
    obtain ⟨w, hw, rd2⟩ := r2.get hy
    have hH := sqT_mono sb (sqT_mono z h)
    have hH2 := sqT_mono sb (sqT_mono z h2)
    refine ⟨⟨vs, ws, v, w, hH, hH2, hv, hw⟩, fun u H' ⟨T, x', y', e1, hT, e2, e3, e4⟩ => ?_⟩
    have q1 := e3 vs hH
    have q2 := e4 ws hH2
    rw [hv] at q1
    rw [hw] at q2
    cases q1
    cases q2
    exact jr_pair sb e1 hT e2 (rd.mono z) (rd2.mono z)
  stop := fun i Z H z sb l => ⟨vs, ws, sqT_mono sb (sqT_mono z h), sqT_mono sb (sqT_mono z h2), by rw [zipL_len] at l; rw [← r.length, ← r2.length]; omega⟩
theorem rangeL3_get {lo k : Int} {n i : Nat} {d : D} (h : (rangeL3 lo k n)[i]? = some d) : i < n ∧ d = .int (lo + (i : Nat) * k) := by
  unfold rangeL3 at h
  rw [List.getElem?_map] at h
  cases e : (List.range n)[i]? with
  | none => rw [e] at h; cases h
  | some k =>
    rw [e] at h
    obtain ⟨h1, h2⟩ := List.getElem?_eq_some_iff.mp e
    simp at h2
    subst h2
    cases h
    exact ⟨by simpa using h1, rfl⟩
theorem rangeL3_len (lo k : Int) (n : Nat) : (rangeL3 lo k n).length = n := by unfold rangeL3; simp
theorem jr_range3 {Z0 : Hp} {lo k : Int} {n : Nat} : JR g Z0 (rangeL3 lo k n) (Itc lo k n) where
  go := fun i d Z H z sb e => by
    obtain ⟨h1, rfl⟩ := rangeL3_get e
    refine ⟨h1, fun x H' ⟨e1, e2⟩ => ?_⟩
    subst e1; subst e2
    exact ⟨Z, .refl, sb, .int _⟩
  stop := fun i Z H z sb l => by rw [rangeL3_len] at l; exact l
theorem i_rng3 {tg a b d : Expr} {ta tb td : T} {p pos : Pos} (O : OkX g c W Φ kk X) (hg : c.sc.names.lookup ("range" : Str) = some .globalImplicit) (ha : PE X a (rdE g W Φ ta)) (hb : PE X b (rdE g W Φ tb)) (hd : PE X d (rdE g W Φ td)) (na : noStar a = true) (nb : noStar b = true) (ne : noStar d = true) :
    PI X tg (.Call (.Name "range" p) [a, b, d] [] pos) (rdI g W Φ (.rng (.cons ta (.cons tb (.cons td .nil))))) := by
  refine PI.mono (pi_range3 (by show X.env.scope.names.lookup _ = _; rw [O.hs]; exact hg) (O.blt _ (by decide +kernel)) (pa_cons ha (pa_cons hb (pa_cons hd pa_nil (star_cons ne [] _)) (star_cons nb _ _)) (star_cons na _ _)) (by rw [star_cons na]) (by rw [star_cons nb, star_cons ne]; rfl)) fun σ H R ⟨Z, s, st, h⟩ => ?_
  let fin : Vl → Vl → Vl → S → MI.R (List D) := fun x y z s => match x, y, z with
    | .d (.int i), .d (.int j), .d (.int k) => if rg3Ok i j k then .ok (rangeL3 i k (PySem.Builtin.Range.rangeSize i j k).toNat) s else .no
    | _, _, _ => .no
  have h : Res g W σ Z H s ((evE Φ ta s).bind fun x s => (evE Φ tb s).bind fun y s => (evE Φ td s).bind fun z s => fin x y z s) fun ds _ Z' H' => ∀ J, JR g Z' ds J → R J H' := h
  refine rdE_op (f := fun x s => (evE Φ tb s).bind fun y s => (evE Φ td s).bind fun z s => fin x y z s) st h fun v s1 Z1 H1 x k1 st1 o1 rx h1 => ?_
  refine rdE_op (f := fun y s => (evE Φ td s).bind fun z s => fin v y z s) st1 h1 fun w s2 Z2 H2 y k2 st2 o2 ry h2 => ?_
  refine rdE_op (f := fun z s => fin v w z s) st2 h2 fun u s3 Z3 H3 z k3 st3 o3 rz h3 => ?_
  simp only [fin] at h3
  split at h3
  · rename_i i j k
    split at h3
    · rename_i hij
      unfold rg3Ok at hij
      simp only [Bool.and_eq_true, decide_eq_true_eq] at hij
      cases rx
      cases ry
      cases rz
      exact ⟨i, j, k, _, rfl, ⟨hij.1.1.1, hij.1.1.2, hij.1.2, (Int.toNat_of_nonneg hij.2).symm⟩, h3.now st3 _ jr_range3⟩
    · exact h3.elim
  · exact h3.elim
theorem i_enum {e : Expr} {t : T} {p pos tpos : Pos} {elts : List Expr} {k : Nat} (O : OkX g c W Φ kk X) (hg : c.sc.names.lookup ("enumerate" : Str) = some .globalImplicit) (h : PE X e (rdE g W Φ t)) (ns : noStar e = true) :
    PI X (.Tuple elts k tpos) (.Call (.Name "enumerate" p) [e] [] pos) (rdI g W Φ (.enum t)) := by
  refine PI.mono (pi_enumA (by show X.env.scope.names.lookup _ = _; rw [O.hs]; exact hg) (O.blt _ (by decide +kernel)) (pa_cons h pa_nil (star_cons ns [] _)) (star_cons ns [] _)) fun σ H R ⟨Z, s, st, h⟩ => ?_
  let nx : Vl → S → MI.R (List D) := fun x s => match x.dat with
    | .lst xs => .ok (enumL 0 xs) s
    | .tup xs => .ok (enumL 0 xs) s
    | _ => .no
  have h : Res g W σ Z H s ((evE Φ t s).bind nx) fun ds _ Z' H' => ∀ J, JR g Z' ds J → R J H' := h
  refine rdE_op (f := nx) st h fun v s1 Z1 H1 x k1 st1 o1 rx h1 => ?_
  cases e : v.dat with
  | lst xs =>
    simp only [nx, e] at h1
    rw [e] at rx
    obtain ⟨a, vs, rfl, q, rs⟩ := rx.l
    exact ⟨a, vs, rfl, .inl ⟨O.hK ▸ (sqP_mono st1.sub q).sq, h1.now st1 _ (jr_enumL O.hK (O.hK ▸ q) rs)⟩⟩
  | tup xs =>
    simp only [nx, e] at h1
    rw [e] at rx
    obtain ⟨a, vs, rfl, q, rs⟩ := rx.t
    exact ⟨a, vs, rfl, .inr ⟨O.hK ▸ sqT_mono st1.sub q, h1.now st1 _ (jr_enumT O.hK (O.hK ▸ q) rs)⟩⟩
  | _ => simp only [nx, e] at h1; exact h1.elim
theorem i_zip {e e2 : Expr} {t t2 : T} {p pos tpos : Pos} {elts : List Expr} {k : Nat} (O : OkX g c W Φ kk X) (hg : c.sc.names.lookup ("zip" : Str) = some .globalImplicit) (h : PE X e (rdE g W Φ t)) (h' : PE X e2 (rdE g W Φ t2)) (ns : noStar e = true) (ns2 : noStar e2 = true) :
    PI X (.Tuple elts k tpos) (.Call (.Name "zip" p) [e, e2] [] pos) (rdI g W Φ (.zip t t2)) := by
  refine PI.mono (RZ.pi_zipA (by show X.env.scope.names.lookup _ = _; rw [O.hs]; exact hg) (O.blt _ (by decide +kernel)) (pa_cons h (pa_cons h' pa_nil (star_cons ns2 [] _)) (star_cons ns _ _)) (by rw [star_cons ns]) (by rw [star_cons ns2]; rfl)) fun σ H R ⟨Z, s, st, h⟩ => ?_
  let nx : Vl → Vl → S → MI.R (List D) := fun x y s => match x.dat, y.dat with
    | .lst xs, .lst ys => .ok (zipL xs ys) s
    | .tup xs, .tup ys => .ok (zipL xs ys) s
    | _, _ => .no
  have h : Res g W σ Z H s ((evE Φ t s).bind fun x s => (evE Φ t2 s).bind fun y s => nx x y s) fun ds _ Z' H' => ∀ J, JR g Z' ds J → R J H' := h
  refine rdE_op (f := fun x s => (evE Φ t2 s).bind fun y s => nx x y s) st h fun v s1 Z1 H1 x k1 st1 o1 rx h1 => ?_
  refine rdE_op (f := fun y s => nx v y s) st1 h1 fun w s2 Z2 H2 y k2 st2 o2 ry h2 => ?_
  have rx := rx.mono k2.z
  simp only [nx] at h2
  split at h2
  · rename_i xs ys e1 e2
    rw [e1] at rx
    rw [e2] at ry
    obtain ⟨a, vs, rfl, q, rs⟩ := rx.l
    obtain ⟨b, ws, rfl, q2, rs2⟩ := ry.l
    exact ⟨a, b, vs, ws, rfl, .inl ⟨O.hK ▸ (sqP_mono st2.sub q).sq, O.hK ▸ (sqP_mono st2.sub q2).sq, h2.now st2 _ (jr_zipL O.hK (O.hK ▸ q) rs (O.hK ▸ q2) rs2)⟩⟩
  · rename_i xs ys e1 e2
    rw [e1] at rx
    rw [e2] at ry
    obtain ⟨a, vs, rfl, q, rs⟩ := rx.t
    obtain ⟨b, ws, rfl, q2, rs2⟩ := ry.t
    exact ⟨a, b, vs, ws, rfl, .inr ⟨O.hK ▸ sqT_mono st2.sub q, O.hK ▸ sqT_mono st2.sub q2, h2.now st2 _ (jr_zipT O.hK (O.hK ▸ q) rs (O.hK ▸ q2) rs2)⟩⟩
  · exact h2.elim
/-! ### xs.pop(), x += e -/
theorem RDs.dropLast {Z : Hp} {xs : List D} {vs : List V} (r : RDs g Z xs vs) : RDs g Z xs.dropLast vs.dropLast := by
  rw [List.dropLast_eq_take, List.dropLast_eq_take, r.length]
  exact r.take _
theorem s_pop {i : Nat} {x : Str} {px pa pos pos2 : Pos} (hv : PE X (.Name x px) (tVar i)) (ln : (pa.endLine == pos.line) = true) : PS X (.Expr (.Call (.Attribute (.Name x px) "pop" pa) [] [] pos) pos2) (rdS g W Φ (.pop i)) := by
  refine PS.mono (ps_expr (pe_bm0 PySem.F.plainAttrs_list PySem.F.slot_list_pop PySem.F.type_list_pop mt_pop hv rfl ln)) fun D σ H ⟨Z, s, st, h⟩ => ?_
  have h : ResS g W D Z H s σ (match s[i]? with
    | some (some (.own tag xs)) => if xs.isEmpty then .no else .nx (s.set i (some (.own tag xs.dropLast)))
    | _ => .no) := h
  split at h
  · rename_i tag zs e0
    split at h
    · exact h.elim
    · rename_i ne
      obtain ⟨x0, hx0, a, vs, rfl, ha, za, rs⟩ := st.rel _ _ e0
      have hl := rs.length
      have ne' : zs ≠ [] := by simpa using ne
      have pos : 0 < vs.length := by
        rw [← hl]; exact List.length_pos_iff.mpr ne'
      have hy : vs[vs.length - 1]? = some (vs[vs.length - 1]'(by omega)) := List.getElem?_eq_getElem _
      have ks := st.item (i := i) e0 hx0 rs.dropLast (by rw [ha]; simp) za
      exact ⟨_, hx0, .inl ⟨rfl, _, .inl (.inl ha)⟩, a, vs, _, rfl, rfl, ha, hy, h _ _ _ ks⟩
  · exact h.elim
end
end MI
namespace MI
open PySem PySem.Spec PyProof.Rows L2
section
variable {g : G} {c : Cc} {W : WXX} {Φ : Call} {kk : Nat} {X : Cx}
theorem aug_core {op : Operator} {F : Int → Int → Int} {i : Nat} {t : T} {D : Ends} {σ : L2.St} {Z H : Hp} {s : S} (hF : ∀ x y r, augD op x y = some r → ∃ a b, x = .int a ∧ y = .int b ∧ r = .int (F a b)) (st : Sr g Z s σ H)
    (h : ResS g W D Z H s σ (exS Φ (.aug i op t) s)) : tAug i (rdE g W Φ t) (ipI F) D σ H := by
  have h : ResS g W D Z H s σ (match s[i]? with
    | some (some (.d x)) => (match evE Φ t s with
      | .ok v s => (match augD op x v.dat with
        | some y => .nx (s.set i (some (.d y)))
        | none => .no)
      | .ex c fs s => .ex c fs s
      | .no => .no)
    | _ => .no) := h
  split at h
  · rename_i x e0
    obtain ⟨x0, hx0, r0⟩ := st.rel _ _ e0
    refine ⟨x0, hx0, st_D (D := D) (f := fun v s => match augD op x v.dat with
        | some y => .nx (s.set i (some (.d y)))
        | none => .no) st h fun v s1 Z1 H1 y ks rd q => ?_⟩
    cases e : augD op x v.dat with
    | none => rw [e] at q; exact q.elim
    | some r =>
      rw [e] at q
      have q : ResS g W D Z H s σ (.nx (s1.set i (some (.d r)))) := q
      obtain ⟨a, b, rfl, hv, rfl⟩ := hF _ _ _ e
      rw [hv] at rd
      cases r0
      cases rd
      refine ⟨a, b, rfl, rfl, ?_⟩
      obtain ⟨st', o'⟩ := ks.st.set (i := i) (v := .d (.int (F a b))) (x := .int (F a b)) (.int _) fun t ys a e1 _ _ => nomatch e1
      have fn : ∀ ys, ¬ (some (Vl.d (.int (F a b))) = some (.own true ys) ∨ some (Vl.d (.int (F a b))) = some (.fz ys)) := fun ys e => by rcases e with e | e <;> cases e
      refine q Z1 H1 _ (ks.trans ⟨.refl, st', fun a z => ?_, fun j z => ⟨(KS.set1 (σ := σ) (x := none) z fn).1, (KS.set1 z fn).2⟩⟩)
      rcases o' a z with z | ⟨t, ys, e1, e2⟩
      · exact .inl z
      · cases e1
  · exact h.elim
theorem s_augA {i : Nat} {x : Str} {e : Expr} {t : T} {px pos : Pos} (O : OkX g c W Φ kk X) (hN : c.N[i]? = some x) (hl : Loc c.sc x) (hf : X.fn x = true ∨ c.sc.names.lookup x = some .local) (h : PE X e (rdE g W Φ t)) :
    PS X (.AugAssign (.Name x px) .Add e pos) (rdS g W Φ (.aug i .Add t)) := by
  refine PS.mono (ps_aug (i := i) (by rw [O.hN]; exact O.nd) (by rw [O.hN]; exact hN) (by rw [O.hs]; exact hl) h ip_add (by rw [O.hs]; exact hf)) fun D σ H ⟨Z, s, st, h⟩ => aug_core (fun x y r e => ?_) st h
  unfold augD at e
  split at e
  · cases e; exact ⟨_, _, rfl, rfl, rfl⟩
  · contradiction
  · cases e
theorem s_augS {i : Nat} {x : Str} {e : Expr} {t : T} {px pos : Pos} (O : OkX g c W Φ kk X) (hN : c.N[i]? = some x) (hl : Loc c.sc x) (hf : X.fn x = true ∨ c.sc.names.lookup x = some .local) (h : PE X e (rdE g W Φ t)) :
    PS X (.AugAssign (.Name x px) .Sub e pos) (rdS g W Φ (.aug i .Sub t)) := by
  refine PS.mono (ps_aug (i := i) (by rw [O.hN]; exact O.nd) (by rw [O.hN]; exact hN) (by rw [O.hs]; exact hl) h ip_sub (by rw [O.hs]; exact hf)) fun D σ H ⟨Z, s, st, h⟩ => aug_core (fun x y r e => ?_) st h
  unfold augD at e
  split at e
  · contradiction
  · cases e; exact ⟨_, _, rfl, rfl, rfl⟩
  · cases e
end
end MI

set_option Elab.async false
set_option linter.all false
set_option maxRecDepth 100000
set_option maxHeartbeats 4000000
/-! Further constructs: xs.pop(k) and xs.pop() as values, list(range(..)), tuple(range(..)), xs.extend(e), xs[k] op= e. -/
namespace MI
open PySem PySem.Spec PyProof.Rows L2
section
variable {g : G} {c : Cc} {W : WXX} {Φ : Call} {kk : Nat} {X : Cx}
theorem RDs.eraseIdx {Z : Hp} : ∀ {xs : List D} {vs : List V} (i : Nat), RDs g Z xs vs → RDs g Z (xs.eraseIdx i) (vs.eraseIdx i)
  | _, _, _, .nil => .nil
  | _, _, 0, .cons r t => t
  | _, _, i + 1, .cons r t => .cons r (RDs.eraseIdx i t)
theorem RDs.last {Z : Hp} {xs : List D} {vs : List V} {y : D} (r : RDs g Z xs vs) (e : xs.getLast? = some y) : ∃ v, vs[vs.length - 1]? = some v ∧ RD g Z y v := by
  rw [List.getLast?_eq_getElem?, r.length] at e
  exact r.get e
/-- the own list of a slot, changed, a value beside it -/
theorem own_val {σ : L2.St} {Z H H0 : Hp} {s : S} {i : Nat} {t : Bool} {xs ys : List D} {a : Addr} {ws : List V} {d : D} {v : V} {Q : VK} (st : Sr g Z s σ H) (e : s[i]? = some (some (.own t xs))) (hx : σ[i]? = some (some (.ref a))) (r : RDs g Z ys ws) (ha : H a ≠ none) (za : Z a = none) (rd : RD g Z d v)
    (q : Res g W σ Z H s (.ok (.d d) (s.set i (some (.own t ys)))) fun v _ Z' H' => ∀ x, RF g H0 Z' H' v x → Q x H') : Q v (upd H a (.lst ws)) := by
  have ks := st.item (i := i) e hx r ha za
  refine q _ _ ks.k ks.st (fun b o => ?_) _ (.flat rd)
  rcases ks.o b o with z | z
  · exact z
  · exfalso
    obtain ⟨us, hu, _⟩ := Own.some ks.st o
    by_cases hb : b = a
    · subst hb; exact ha z
    · rw [upd_ne hb, z] at hu; cases hu
theorem d_popL {i : Nat} {x : Str} {px pa pos : Pos} (hv : PE X (.Name x px) (tVar i)) (ln : (pa.endLine == pos.line) = true) : PE X (.Call (.Attribute (.Name x px) "pop" pa) [] [] pos) (rdE g W Φ (.popE i .nil)) := by
  refine PE.mono (pe_bm0 PySem.F.plainAttrs_list PySem.F.slot_list_pop PySem.F.type_list_pop mt_pop hv rfl ln) fun σ H Q ⟨Z, s, st, h⟩ => ?_
  have h : Res g W σ Z H s (match s[i]? with
    | some (some (.own tag xs)) => (match xs.getLast? with
      | some y => .ok (Vl.d y) (s.set i (some (.own tag xs.dropLast)))
      | none => .no)
    | _ => .no) (fun v _ Z' H' => ∀ x, RF g H Z' H' v x → Q x H') := h
  split at h
  · rename_i tag zs e0
    split at h
    · rename_i y ey
      obtain ⟨x0, hx0, a, vs, rfl, ha, za, rs⟩ := st.rel _ _ e0
      obtain ⟨v, hy, rv⟩ := rs.last ey
      exact ⟨_, hx0, .inl ⟨rfl, _, .inl (.inl ha)⟩, a, vs, v, rfl, rfl, ha, hy, own_val st e0 hx0 rs.dropLast (by rw [ha]; simp) za rv h⟩
    · exact h.elim
  · exact h.elim
theorem d_popE {i : Nat} {x : Str} {e : Expr} {t : T} {px pa pos : Pos} (hv : PE X (.Name x px) (tVar i)) (h : PE X e (rdE g W Φ t)) (ns : noStar e = true) (ln : (pa.endLine == pos.line) = true) (nn : t ≠ .nil) : PE X (.Call (.Attribute (.Name x px) "pop" pa) [e] [] pos) (rdE g W Φ (.popE i t)) := by
  have few : ((backTo pos (starEach [e] X.env)).all (fun x => !x.1) && (backToKw pos (keywordEach [] X.env)).all (fun x => x.1.isSome) && decide ([e].length + ([] : List Keyword).length + (if ([] : List Keyword).isEmpty then 0 else 1) < 30)) = true := by
    rw [star_cons ns]; rfl
  refine PE.mono (pe_bm PySem.F.plainAttrs_list PySem.F.slot_list_pop PySem.F.type_list_pop mt_popAt hv (pa_cons h pa_nil (star_cons ns [] _)) rfl few ln (star_cons ns [] _)) fun σ H Q ⟨Z, s, st, h⟩ => ?_
  have ev : evE Φ (.popE i t) s = match s[i]? with
    | some (some (.own _ _)) => (evE Φ t s).bind fun v s => popR i v s
    | _ => .no := by
    cases t <;> first | rfl | exact absurd rfl nn
  rw [ev] at h
  split at h
  · rename_i tg zs e0
    obtain ⟨x0, hx0, a, vs0, rfl, ha0, _, _⟩ := st.rel _ _ e0
    refine ⟨_, hx0, .inl ⟨rfl, _, .inl (.inl ha0)⟩, rdE_op (f := fun v s => popR i v s) st h fun v s1 Z1 H1 y k1 st1 o1 rd q => ?_⟩
    unfold popR at q
    split at q
    · rename_i tag xs k es
      split at q
      · rename_i hk
        simp only [Bool.and_eq_true, decide_eq_true_eq] at hk
        split at q
        · rename_i y0 ey
          obtain ⟨x1, hx1, a1, vs, rfl, ha, za, rs⟩ := st1.rel _ _ es
          rw [hx0] at hx1
          cases hx1
          obtain ⟨v0, hv0, rv0⟩ := rs.get ey
          have rd : RD g Z1 (.int k) y := rd
          cases rd
          have lt : k.toNat < vs.length := (List.getElem?_eq_some_iff.mp hv0).1
          have sq : seqIndex? k vs.length = some k.toNat := by
            have n0 : ¬ k < 0 := by omega
            have l2 : k < (vs.length : Int) := by omega
            have k0 : 0 ≤ k := hk.1
            simp [seqIndex?, n0, l2, k0]
          have fin := own_val (H0 := H) st1 es hx0 (rs.eraseIdx k.toNat) (by rw [ha]; simp) za rv0 q
          exact ⟨a, vs, k, k.toNat, v0, rfl, rfl, ha, by omega, by omega, sq, hv0, fin⟩
        · exact q.elim
      · exact q.elim
    · exact q.elim
  · exact h.elim
/-! list(range(..)) -/
theorem rgV_rd (i j : Int) {Z : Hp} : RDs g Z (rangeL i (j - i).toNat) (L2.rgV i j) := by
  unfold rangeL L2.rgV
  generalize (List.range (j - i).toNat) = l
  induction l with
  | nil => exact .nil
  | cons a l ih => exact .cons (.int _) ih
theorem in62_le {i : Int} (h : in62 i = true) : -(2 ^ 62) ≤ i ∧ i < 2 ^ 62 := by
  unfold in62 at h
  simpa using h
theorem lrgV_ok {t : Bool} {i j : Int} {v : Vl} (h : lrgV t i j = some v) : L2.RgOk i j ∧ v = (if t then .d (.tup (rangeL i (j - i).toNat)) else .own false (rangeL i (j - i).toNat)) := by
  unfold lrgV at h
  split at h
  · rename_i hc
    simp only [Bool.and_eq_true] at hc
    obtain ⟨⟨h1, h2⟩, h3⟩ := hc
    obtain ⟨a1, a2⟩ := in62_le h1
    obtain ⟨b1, b2⟩ := in62_le h2
    have := fitsL_le h3
    cases h
    exact ⟨⟨a1, a2, b1, b2, by unfold sizeLine at this; omega⟩, rfl⟩
  · cases h
/-- what the list and the tuple become -/
theorem lrg_fin {σ : L2.St} {Z H H0 : Hp} {s : S} {t : Bool} {i j : Int} {Q : VK} (st : Sr g Z s σ H) (kf : ∀ a, H a = none → H0 a = none) (h : Res g W σ Z H s (R.ofO (lrgV t i j) s) fun v _ Z' H' => ∀ x, RF g H0 Z' H' v x → Q x H') :
    L2.RgOk i j ∧ ∀ q, H q = none → Q (.ref q) (upd H q (if t then .tup (L2.rgV i j) else .lst (L2.rgV i j))) := by
  cases e : lrgV t i j with
  | none => rw [e] at h; exact h.elim
  | some v =>
    rw [e] at h
    obtain ⟨ok, rfl⟩ := lrgV_ok e
    refine ⟨ok, fun q hq => ?_⟩
    obtain ⟨r, e2, q2⟩ := fin_ofO (H := H0) (o := some (if t then .d (.tup (rangeL i (j - i).toNat)) else .own false (rangeL i (j - i).toNat))) st kf h
    cases e2
    cases t with
    | true => exact q2 _ _ _ (.layT st.sub hq) (Same.layT st.sub hq) (.tup st.sub hq (rgV_rd i j))
    | false => exact q2 _ _ _ (.lay hq) (Same.lay st.sub hq) (.own st.sub hq (rgV_rd i j))
/-- range(..) as an argument -/
def tPR (Φ : Call) (W : WXX) (g : G) (t : Bool) (ts : T) : L2.St → Hp → VK → Prop := fun σ H Q => ∃ Z s, Sr g Z s σ H ∧ Res g W σ Z H s ((evL Φ ts s).bind fun xs s => R.ofO (lrgO t xs) s) fun v _ Z' H' => ∀ x, RF g H Z' H' v x → Q x H'
theorem prg_one {a : Expr} {ta : T} {σ : L2.St} {H : Hp} {Q : VK} {t : Bool} (h : tPR Φ W g t (.cons ta .nil) σ H Q) : L2.tRg1 (rdE g W Φ ta) σ H fun i j H1 => L2.RgOk i j ∧ ∀ q, H1 q = none → Q (.ref q) (upd H1 q (if t then .tup (L2.rgV i j) else .lst (L2.rgV i j))) := by
  obtain ⟨Z, s, st, h⟩ := h
  have h : Res g W σ Z H s ((evE Φ ta s).bind fun x s => R.ofO (lrgO t [x.dat]) s) (fun v _ Z' H' => ∀ x, RF g H Z' H' v x → Q x H') := by
    have e : ((evL Φ (.cons ta .nil) s).bind fun xs s => R.ofO (lrgO t xs) s) = (evE Φ ta s).bind fun x s => R.ofO (lrgO t [x.dat]) s := by
      show (((evE Φ ta s).bind fun x s => (R.ok [] s : R (List D)).bind fun xs s => .ok (x.dat :: xs) s).bind fun xs s => R.ofO (lrgO t xs) s) = _
      rw [R.bind_bind]
      rfl
    rw [← e]
    exact h
  refine rdE_op (f := fun x s => R.ofO (lrgO t [x.dat]) s) st h fun v s1 Z1 H1 y k1 st1 o1 rd q => ?_
  cases hv : v.dat with
  | int j =>
    rw [hv] at q rd
    cases rd
    exact ⟨j, rfl, lrg_fin st1 k1.f q⟩
  | _ => rw [hv] at q; exact q.elim
theorem prg_two {ta tb : T} {σ : L2.St} {H : Hp} {Q : VK} {t : Bool} (h : tPR Φ W g t (.cons ta (.cons tb .nil)) σ H Q) : L2.tRg2 (rdE g W Φ ta) (rdE g W Φ tb) σ H fun i j H1 => L2.RgOk i j ∧ ∀ q, H1 q = none → Q (.ref q) (upd H1 q (if t then .tup (L2.rgV i j) else .lst (L2.rgV i j))) := by
  obtain ⟨Z, s, st, h⟩ := h
  have h : Res g W σ Z H s ((evE Φ ta s).bind fun x s => (evE Φ tb s).bind fun y s => R.ofO (lrgO t [x.dat, y.dat]) s) (fun v _ Z' H' => ∀ x, RF g H Z' H' v x → Q x H') := by
    have e : ((evL Φ (.cons ta (.cons tb .nil)) s).bind fun xs s => R.ofO (lrgO t xs) s) = (evE Φ ta s).bind fun x s => (evE Φ tb s).bind fun y s => R.ofO (lrgO t [x.dat, y.dat]) s := by
      show (((evE Φ ta s).bind fun x s => ((evE Φ tb s).bind fun y s => (R.ok [] s : R (List D)).bind fun xs s => .ok (y.dat :: xs) s).bind fun xs s => .ok (x.dat :: xs) s).bind fun xs s => R.ofO (lrgO t xs) s) = _
      rw [R.bind_bind]
      congr 1
      funext x s
      rw [R.bind_bind, R.bind_bind]
      rfl
    rw [← e]
    exact h
  refine rdE_op (f := fun x s => (evE Φ tb s).bind fun y s => R.ofO (lrgO t [x.dat, y.dat]) s) st h fun v s1 Z1 H1 y k1 st1 o1 rd q => ?_
  refine rdE_op (f := fun y s => R.ofO (lrgO t [v.dat, y.dat]) s) st1 q fun w s2 Z2 H2 y2 k2 st2 o2 rd2 q2 => ?_
  have rd := rd.mono k2.z
  cases hv : v.dat with
  | int i =>
    rw [hv] at q2 rd
    cases hw : w.dat with
    | int j =>
      rw [hw] at q2 rd2
      cases rd
      cases rd2
      exact ⟨i, j, rfl, rfl, lrg_fin st2 (fun a z => k1.f a (k2.f a z)) q2⟩
    | _ => rw [hw] at q2; exact q2.elim
  | _ => rw [hv] at q2; exact q2.elim
theorem d_lrg1 {a : Expr} {ta : T} {t : Bool} {p p2 q pos : Pos} (O : OkX g c W Φ kk X) (hg : c.sc.names.lookup (if t then "tuple" else "list" : Str) = some .globalImplicit) (hr : c.sc.names.lookup ("range" : Str) = some .globalImplicit) (ha : PE X a (rdE g W Φ ta)) (ns : noStar a = true) :
    PE X (.Call (.Name (if t then "tuple" else "list") p) [.Call (.Name "range" p2) [a] [] q] [] pos) (rdE g W Φ (.lrg t (.cons ta .nil))) := by
  have hr' : Gl X "range" := by show X.env.scope.names.lookup _ = _; rw [O.hs]; exact hr
  have mr := O.blt "range" (by decide)
  have pr := L2.prg_1 (p := p2) (pos := q) hr' mr ha (star_cons ns [] _)
  cases t with
  | false =>
    have hg' : Gl X "list" := by show X.env.scope.names.lookup _ = _; rw [O.hs]; exact hg
    exact PE.mono (L2.pe_listRg O.cm hg' (O.blt "list" (by decide)) pr) fun σ H Q h => prg_one (a := a) h
  | true =>
    have hg' : Gl X "tuple" := by show X.env.scope.names.lookup _ = _; rw [O.hs]; exact hg
    exact PE.mono (L2.pe_tupRg O.cm hg' (O.blt "tuple" (by decide)) pr) fun σ H Q h => prg_one (a := a) h
theorem d_lrg2 {a b : Expr} {ta tb : T} {t : Bool} {p p2 q pos : Pos} (O : OkX g c W Φ kk X) (hg : c.sc.names.lookup (if t then "tuple" else "list" : Str) = some .globalImplicit) (hr : c.sc.names.lookup ("range" : Str) = some .globalImplicit) (ha : PE X a (rdE g W Φ ta)) (hb : PE X b (rdE g W Φ tb)) (ns : noStar a = true) (ns2 : noStar b = true) :
    PE X (.Call (.Name (if t then "tuple" else "list") p) [.Call (.Name "range" p2) [a, b] [] q] [] pos) (rdE g W Φ (.lrg t (.cons ta (.cons tb .nil)))) := by
  have hr' : Gl X "range" := by show X.env.scope.names.lookup _ = _; rw [O.hs]; exact hr
  have mr := O.blt "range" (by decide)
  have pr := L2.prg_2 (p := p2) (pos := q) hr' mr ha hb (star_cons ns [b] _) (star_cons ns2 [] _) (star_any (es := [b]) (by simp [ns2]) q X.env)
  cases t with
  | false =>
    have hg' : Gl X "list" := by show X.env.scope.names.lookup _ = _; rw [O.hs]; exact hg
    exact PE.mono (L2.pe_listRg O.cm hg' (O.blt "list" (by decide)) pr) fun σ H Q h => prg_two h
  | true =>
    have hg' : Gl X "tuple" := by show X.env.scope.names.lookup _ = _; rw [O.hs]; exact hg
    exact PE.mono (L2.pe_tupRg O.cm hg' (O.blt "tuple" (by decide)) pr) fun σ H Q h => prg_two h
/-! xs.extend(e) -/
def rExtendP (K : PySem.W.Frag) : V → List V → Hp → VK → Prop := fun x vs H Q => ∃ l b xs zs, x = .ref l ∧ vs = [.ref b] ∧ H l = some (.lst xs) ∧ SqP K H b zs ∧ xs.length + zs.length ≤ sizeLine ∧ Q .non (upd H l (.lst (xs ++ zs)))
theorem mt_extendP : MtM X "list.extend" (rExtendP X.K) := by
  intro pins s σ H x vs v us Q I rx rv h
  obtain ⟨l, b, xs, zs, rfl, rfl, hH, hB, hz, q⟩ := h
  cases rx
  obtain ⟨u, rfl, ru⟩ := rv.one
  cases ru
  obtain ⟨z, its, n, r, hl, e⟩ := I.lstM hH
  have k : ∃ (its2 : List Value) (n2 : Nat), Vals zs its2 ∧ zs.length = its2.length ∧ s.heap.get? b = some { cls := .type "list", dict := none, data := .seq its2.toArray n2, slots := #[] } := by
    rcases hB with h | ⟨a2, n2, h1, h2, h3⟩
    · obtain ⟨_, its2, n2, r2, e2⟩ := h.ok I.hok
      exact ⟨its2, n2, r2, r2.length, e2⟩
    · exact ⟨a2.toList, n2, h3, h3.length, I.kIn b _ h1⟩
  obtain ⟨its2, n2, r2, hl2, e2⟩ := k
  have hsz : its.toArray.size + its2.toArray.size ≤ sizeLine := by rw [List.size_toArray, List.size_toArray]; omega
  have hlong : ¬ (!its.toArray.isEmpty && Builtin.List.listTooLong (its.toArray.size + its2.toArray.size)) = true := by
    rw [notLongL hsz, Bool.and_false]
    exact Bool.false_ne_true
  refine call_meets F.slot_list_extend ⟨_, e, rfl⟩ F.entry_list_extend (F.args_list_extend_2 _ _)
    (AutoSeq1.list_extend_list_list_0 l its.toArray n b its2.toArray n2 hlong (by rw [List.size_toArray]; omega) (by omega)) ⟨e, e2, ?_⟩
  refine ⟨.non, _, I.lset (its' := its ++ its2) hH e (by simp) (r.append r2) ?_, rfl, q⟩
  rw [List.length_append]
  omega
theorem s_ext {i : Nat} {x : Str} {e : Expr} {t : T} {px pa pos pos2 : Pos} (O : OkX g c W Φ kk X) (hv : PE X (.Name x px) (tVar i)) (h : PE X e (rdE g W Φ t)) (ns : noStar e = true) (ln : (pa.endLine == pos.line) = true) : PS X (.Expr (.Call (.Attribute (.Name x px) "extend" pa) [e] [] pos) pos2) (rdS g W Φ (.ext i t)) := by
  have few : ((backTo pos (starEach [e] X.env)).all (fun x => !x.1) && (backToKw pos (keywordEach [] X.env)).all (fun x => x.1.isSome) && decide ([e].length + ([] : List Keyword).length + (if ([] : List Keyword).isEmpty then 0 else 1) < 30)) = true := by
    rw [star_cons ns]; rfl
  refine PS.mono (ps_expr (pe_bm PySem.F.plainAttrs_list PySem.F.slot_list_extend PySem.F.type_list_extend mt_extendP hv (pa_cons h pa_nil (star_cons ns [] _)) rfl few ln (star_cons ns [] _))) fun D σ H ⟨Z, s, st, h⟩ => ?_
  let f : Vl → S → MI.O := fun v s => extO i v s
  have h : ResS g W D Z H s σ (match s[i]? with
    | some (some (.own _ _)) => (match evE Φ t s with
      | .ok v s => f v s
      | .ex c fs s => .ex c fs s
      | .no => .no)
    | _ => .no) := h
  split at h
  · rename_i tg zs e0
    obtain ⟨x0, hx0, a, vs0, rfl, ha0, _, _⟩ := st.rel _ _ e0
    refine ⟨_, hx0, .inl ⟨rfl, _, .inl (.inl ha0)⟩, st_D (D := D) (f := f) st h fun v s1 Z1 H1 y ks rd q => ?_⟩
    simp only [f] at q
    unfold extO at q
    split at q
    · rename_i tag xs ys es ev
      split at q
      · rename_i fit
        obtain ⟨x1, hx1, a1, vs, rfl, ha, za, rs⟩ := ks.st.rel _ _ es
        rw [hx0] at hx1
        cases hx1
        have fit := fitsL_le fit
        rw [ev] at rd
        cases rd with
        | @lst b ws _ hb rs2 =>
          rw [rs.length, rs2.length] at fit
          have ks2 := ks.st.item (i := i) es hx0 (rs.append rs2) (by rw [ha]; simp) za
          exact ⟨a, b, vs, _, rfl, rfl, ha, O.hK ▸ sqP_mono ks.st.sub hb, fit, q _ _ _ (ks.trans ks2)⟩
      · exact q.elim
    · exact q.elim
  · exact h.elim
/-! xs[k] op= e -/
def rGetI (K : PySem.W.Frag) : V → V → Hp → VK → Prop := fun o i H Q => ∃ p xs k v, o = .ref p ∧ i = .int k ∧ SqL K H p xs ∧ 0 ≤ k ∧ xs[k.toNat]? = some v ∧ Q v H
theorem get_listI : PGet X (rGetI X.K) := by
  intro pins s σ H o i ov iv Q I ro ri h
  obtain ⟨p, xs, k, z, rfl, rfl, hq, k0, he, q⟩ := h
  cases ro
  obtain ⟨t, rfl⟩ := ri
  obtain ⟨its, r, pl, hz⟩ := I.list hq
  obtain ⟨w, ew, rw'⟩ := r.get he
  have hl := r.length
  have lt : k.toNat < xs.length := (List.getElem?_eq_some_iff.mp he).1
  have hn := line63
  exact wpAny_getItem_list (x := w) pl.isList k0 (by omega) (by simpa using ew) ⟨z, H, I, rw', q⟩
theorem s_augs {op : Operator} {F : Int → Int → Int} {i : Nat} {x : Str} {b e : Expr} {tb t : T} {px tpos pos : Pos} (O : OkX g c W Φ kk X) (hF : ∀ x y r, augD op x y = some r → ∃ a b, x = .int a ∧ y = .int b ∧ r = .int (F a b)) (hp : PIp X op (ipI F)) (hv : PE X (.Name x px) (tVar i)) (hb : PE X b (rdE g W Φ tb)) (h : PE X e (rdE g W Φ t)) (nb : noSlice b = true) :
    PS X (.AugAssign (.Subscript (.Name x px) b tpos) op e pos) (rdS g W Φ (.augs i tb op t)) := by
  refine PS.mono (ps_augS hv hb get_listI h hp set_list (fun ov iv new => by cases b <;> first | rfl | cases nb)) fun D σ H ⟨Z, s, st, h⟩ => ?_
  let f2 : Int → MI.D → Vl → S → MI.O := fun k x v s => augO i op k x v s
  let f : Vl → S → MI.O := fun v s => match v with
    | .d (.int k) => (match itemAt i k s with
      | some x => (match evE Φ t s with
        | .ok v s => f2 k x v s
        | .ex c fs s => .ex c fs s
        | .no => .no)
      | none => .no)
    | _ => .no
  have h : ResS g W D Z H s σ (match s[i]? with
    | some (some (.own _ _)) => (match evE Φ tb s with
      | .ok v s => f v s
      | .ex c fs s => .ex c fs s
      | .no => .no)
    | _ => .no) := by
    have e : exS Φ (.augs i tb op t) s = (match s[i]? with
      | some (some (.own _ _)) => (match evE Φ tb s with
        | .ok v s => f v s
        | .ex c fs s => .ex c fs s
        | .no => .no)
      | _ => .no) := by
      show (match s[i]? with
        | some (some (.own _ _)) => (match evE Φ tb s with
          | .ok (.d (.int k)) s => (match itemAt i k s with
            | some x => (match evE Φ t s with
              | .ok v s => augO i op k x v s
              | .ex c fs s => .ex c fs s
              | .no => .no)
            | none => .no)
          | .ex c fs s => .ex c fs s
          | _ => .no)
        | _ => .no) = _
      split
      · cases evE Φ tb s with
        | no => rfl
        | ex c fs s1 => rfl
        | ok v s1 =>
          cases v with
          | d y => cases y <;> rfl
          | own _ _ => rfl
          | fz _ => rfl
      · rfl
    rw [← e]
    exact h
  split at h
  · rename_i tg zs e0
    obtain ⟨x0, hx0, a, vs0, rfl, ha0, _, _⟩ := st.rel _ _ e0
    refine ⟨_, hx0, st_D (D := D) (f := f) st h fun v s1 Z1 H1 y ks rd q => ?_⟩
    simp only [f] at q
    split at q
    · rename_i k
      cases ei : itemAt i k s1 with
      | none => rw [ei] at q; exact q.elim
      | some x =>
        rw [ei] at q
        have rd : RD g Z1 (.int k) y := rd
        cases rd
        unfold itemAt at ei
        split at ei
        · rename_i tag xs es
          split at ei
          · rename_i k0
            have k0 := of_decide_eq_true k0
            obtain ⟨x1, hx1, a1, vs, rfl, ha, za, rs⟩ := ks.st.rel _ _ es
            rw [hx0] at hx1
            cases hx1
            obtain ⟨v0, hv0, rv0⟩ := rs.get ei
            refine ⟨a, vs, k, v0, rfl, rfl, .inl (.inl ha), k0, hv0, ?_⟩
            have q : ResS g W D Z H s σ (match evE Φ t s1 with
              | .ok v s => f2 k x v s
              | .ex c fs s => .ex c fs s
              | .no => .no) := q
            have q1 : ResS g W D Z1 H1 s1 σ (match evE Φ t s1 with
              | .ok v s => f2 k x v s
              | .ex c fs s => .ex c fs s
              | .no => .no) := q.rebase ks
            refine st_D (D := D) (f := fun v s => f2 k x v s) ks.st q1 fun w s2 Z2 H2 y2 ks2 rd2 q2 => ?_
            simp only [f2] at q2
            unfold augO at q2
            split at q2
            · rename_i r tag2 xs2 er es2
              split at q2
              · rename_i hc
                simp only [Bool.and_eq_true, decide_eq_true_eq] at hc
                obtain ⟨p, q', hx', hw', hr'⟩ := hF _ _ _ er
                subst hx'
                subst hr'
                rw [hw'] at rd2
                have rv0 := rv0.mono ks2.k.z
                cases rv0
                cases rd2
                obtain ⟨x2, hx2, a2, vs2, rfl, ha2, za2, rs2⟩ := ks2.st.rel _ _ es2
                rw [hx0] at hx2
                cases hx2
                have lt : k.toNat < vs2.length := by rw [← rs2.length]; exact hc.2
                have ks3 := ks2.st.item (i := i) es2 hx0 (rs2.set (.int (F p q')) k.toNat) (by rw [ha2]; simp) za2
                refine ⟨p, q', rfl, rfl, a, vs2, k, k.toNat, rfl, rfl, ha2, ?_, q2 _ _ _ (ks2.trans ks3)⟩
                unfold ixN
                rw [if_pos k0, if_pos (by omega)]
              · exact q2.elim
            · exact q2.elim
          · cases ei
        · cases ei
    · exact q.elim
  · exact h.elim
end
end MI

set_option Elab.async false
set_option linter.all false
set_option maxRecDepth 100000
set_option maxHeartbeats 4000000
/-! From the text to the small evaluator's trees. -/
namespace MI
open PySem PySem.Spec PyProof.Rows L2

def visB (sc : Scope) (x : Str) : Bool := (match sc.names.lookup x with | some .local => true | some .cell => true | some .free => true | _ => false) && !(x == ("__debug__" : Str)) && !(x == ("__classdict__" : Str))
def locB (sc : Scope) (x : Str) : Bool := match sc.names.lookup x with | some .local => true | some .cell => true | _ => false
def globB (sc : Scope) (x : Str) : Bool := (match sc.names.lookup x with | some .globalImplicit => true | _ => false) && !(x == ("__debug__" : Str))
def ixOf : List Str → Str → Nat → Option Nat
  | [], _, _ => none
  | y :: r, x, k => if y == x then some k else ixOf r x (k + 1)
def sgIx : List Sg → Str → Nat → Option Nat
  | [], _, _ => none
  | y :: r, x, k => if y.name == x then some k else sgIx r x (k + 1)
/-- the slot of a name that is the def's own -/
def slotOf (c : Cc) (x : Str) : Option Nat := if visB c.sc x then ixOf c.N x 0 else none
def locOf (c : Cc) (x : Str) : Option Nat := if locB c.sc x then ixOf c.N x 0 else none
def tyTab : List (Str × String) := [("int", "int"), ("bool", "bool"), ("tuple", "tuple"), ("list", "list"), ("str", "str"), ("dict", "dict")]
/-- a name that nothing of the module shadows -/
def free? (c : Cc) (x : Str) : Bool := (sgIx c.sg x 0).isNone && (c.gl.lookup x).isNone
def noSet : Expr → Bool
  | .Set _ _ _ => false
  | _ => true
def noComp : Expr → Bool
  | .ListComp _ _ _ _ => false
  | .SetComp _ _ _ _ => false
  | .DictComp _ _ _ _ _ => false
  | _ => true
def isVar : T → Bool
  | .var _ => true
  | _ => false
def isVar1 : T → Bool
  | .cons (.var _) .nil => true
  | _ => false
def namesOf : List Expr → Option (List Str)
  | [] => some []
  | .Name x _ :: r => (namesOf r).map (x :: ·)
  | _ :: _ => none
/-- a comprehension's target: names -/
def tgNames : Expr → Option (List Str)
  | .Name x _ => some [x]
  | .Tuple es _ _ => namesOf es
  | _ => none
def slots (N : List Str) : List Str → Option (List Nat)
  | [] => some []
  | x :: r => match ixOf N x 0, slots N r with
    | some i, some is => some (i :: is)
    | _, _ => none
def tgT : Expr → List Nat → T
  | .Name _ _, [i] => .var i
  | _, is => .tup (varsT is)
def inN : CmpOp → Option Bool
  | .In => some false
  | .NotIn => some true
  | _ => none
def slotE (c : Cc) : Expr → Option Nat
  | .Name x _ => slotOf c x
  | _ => none
def memT (nn : Bool) (si : Option Nat) (ta tb : Option T) : Option T := match si, ta, tb with
  | some i, some a, _ => some (.mem nn a (.var i))
  | none, some a, some b => if isVar b then none else some (.mem nn a b)
  | _, _, _ => none
def starT (si : Option Nat) (ta ts : Option T) : Option T := match si, ta, ts with
  | some i, _, some ts => some (.star (.var i) ts)
  | none, some t, some ts => if isVar t then none else some (.star t ts)
  | _, _, _ => none
/-- names whose lists a def's body changes -/
def muS : Nat → Stmt → List Str
  | 0, _ => []
  | n + 1, .Expr (.Call (.Attribute (.Name x _) _ _) _ _ _) _ => [x]
  | n + 1, .Assign [.Subscript (.Name x _) _ _] _ _ => [x]
  | n + 1, .AugAssign (.Subscript (.Name x _) _ _) _ _ _ => [x]
  | n + 1, .If _ a b _ => a.flatMap (muS n) ++ b.flatMap (muS n)
  | n + 1, .For _ _ a _ _ => a.flatMap (muS n)
  | n + 1, .While _ a _ _ => a.flatMap (muS n)
  | _, _ => []
def muNames (b : List Stmt) : List Str := b.flatMap (muS 30)
/-- a changed list's slot -/
def slotM (c : Cc) : Expr → Option Nat
  | .Name x _ => if c.mu.contains x then slotOf c x else none
  | _ => none
def isItV : T → Bool
  | .itv _ => true
  | _ => false
/-- what a comprehension walks -/
def itC (si : Option Nat) (t : Option T) : Option T := match si with
  | some i => some (.itv i)
  | none => t.bind fun t => if isItV t then none else some t
def isM1 : Expr → Bool
  | .UnaryOp .USub (.Constant (.int i) _ _) _ => decide (i = 1)
  | _ => false
def isTupE : Expr → Bool
  | .Tuple _ _ _ => true
  | _ => false
def isNil : T → Bool
  | .nil => true
  | _ => false
/-- the arguments of a range that is turned into a list or a tuple -/
def rgA1 : List Expr → Option Expr
  | [.Call (.Name _ _) (a :: _) [] _] => some a
  | _ => none
def rgA2 : List Expr → Option Expr
  | [.Call (.Name _ _) [_, b] [] _] => some b
  | _ => none
def lrB : Bf → Option Bool
  | .list => some false
  | .tuple => some true
  | _ => none
def lrT (c : Cc) (b : Bf) (es : List Expr) (t1 t2 : Option T) : Option T := match es, lrB b, t1, t2 with
  | [.Call (.Name y _) [a] [] _], some k, some ta, _ => if globB c.sc y && free? c y && decide (y = ("range" : Str)) && noStar a then some (.lrg k (.cons ta .nil)) else none
  | [.Call (.Name y _) [a, b] [] _], some k, some ta, some tb => if globB c.sc y && free? c y && decide (y = ("range" : Str)) && noStar a && noStar b then some (.lrg k (.cons ta (.cons tb .nil))) else none
  | _, _, _, _ => none
mutual
def cE : Nat → Cc → Expr → Option T
  | 0, _, _ => none
  | n + 1, c, .Name x _ => match slotOf c x with
    | some i => some (.var i)
    | none => if globB c.sc x then (match sgIx c.sg x 0 with
      | some k => some (.con (.fn k))
      | none => match c.gl.lookup x with
        | some d => some (.con d)
        | none => (tyTab.lookup x).map fun t => .con (.ty t)) else none
  | n + 1, c, .Constant (.int i) _ _ => some (.con (.int i))
  | n + 1, c, .Constant (.str i) _ _ => some (.con (.str i))
  | n + 1, c, .Constant (.bool i) _ _ => some (.con (.bl i))
  | n + 1, c, .Constant .none _ _ => some (.con .non)
  | n + 1, c, .BinOp a op b _ => match cE n c a, cE n c b with
    | some ta, some tb => some (.bin op ta tb)
    | _, _ => none
  | n + 1, c, .UnaryOp .USub a _ => (cE n c a).map .neg
  | n + 1, c, .UnaryOp .Not a _ => (cE n c a).map .nt
  | n + 1, c, .BoolOp op [a] _ => cE n c a
  | n + 1, c, .BoolOp .And (a :: b :: r) pos => match cE n c a, cE n c (.BoolOp .And (b :: r) pos) with
    | some ta, some tb => some (.and ta tb)
    | _, _ => none
  | n + 1, c, .BoolOp .Or (a :: b :: r) pos => match cE n c a, cE n c (.BoolOp .Or (b :: r) pos) with
    | some ta, some tb => some (.or ta tb)
    | _, _ => none
  | n + 1, c, .IfExp t a b _ => match cT n c t, cE n c a, cE n c b with
    | some tt, some ta, some tb => some (.ite tt ta tb)
    | _, _, _ => none
  | n + 1, c, .Compare a [op] [b] _ => if behindInMarks op b then none else match inN op with
    | some nn => memT nn (slotE c b) (cE n c a) (cE n c b)
    | none => match cE n c a, cE n c b with
      | some ta, some tb => some (.cmp op ta tb)
      | _, _ => none
  | n + 1, c, .Compare a [op, op'] [b, e] _ => if behindInMarks op' e then none else match cE n c a, cE n c b, cE n c e with
    | some ta, some tb, some tc => some (.chain op op' ta tb tc)
    | _, _, _ => none
  | n + 1, c, .Subscript e (.Slice lo hi none _) _ => match cE n c e, cP n c lo, cP n c hi with
    | some te, some tl, some th => some (.slc te tl th)
    | _, _, _ => none
  | n + 1, c, .Subscript e (.Slice lo hi (some st) _) _ => if lo.isNone && hi.isNone && isM1 st then (cE n c e).map .sl1 else none
  | n + 1, c, .Subscript (.Name x p) b _ => if noSlice b then (match slotOf c x with
    | some i => (cE n c b).map (.idx (.var i))
    | none => match cE n c (.Name x p), cE n c b with
      | some ta, some tb => if isVar ta then none else some (.idx ta tb)
      | _, _ => none) else none
  | n + 1, c, .Subscript a b _ => if noSlice b then (match cE n c a, cE n c b with
      | some ta, some tb => if isVar ta then none else some (.idx ta tb)
      | _, _ => none) else none
  | n + 1, c, .Tuple es _ _ => (cL n c es).map .tup
  | n + 1, c, .List es _ => (cL n c es).map .lst
  | n + 1, c, .Call (.Name x _) es [] _ => if globB c.sc x && es.all noStar then (match sgIx c.sg x 0 with
    | some k => (cA n c es).map (.call k)
    | none => match c.gl.lookup x with
      | some _ => none
      | none => match bfTab.lookup x, es with
        | some b, .Name y _ :: [] => (match slotOf c y with
          | some i => some (.bf b (.cons (.var i) .nil))
          | none => match cL n c es with
            | some ts => if isVar1 ts then none else some (.bf b ts)
            | none => none)
        | some b, e :: es' => (match cL n c (e :: es') with
          | some ts => if isVar1 ts then none else some (.bf b ts)
          | none => lrT c b (e :: es') ((rgA1 (e :: es')).bind fun a => cE n c a) ((rgA2 (e :: es')).bind fun a => cE n c a))
        | _, _ => none) else none
  | n + 1, c, .Call (.Attribute (.Name x _) m pa) [] [] pos => if decide (m = ("pop" : Str)) && (pa.endLine == pos.line) then (slotOf c x).map (.popE · .nil) else none
  | n + 1, c, .Call (.Attribute (.Name x _) m pa) [e] [] pos => if decide (m = ("pop" : Str)) && noStar e && (pa.endLine == pos.line) then (match slotOf c x, cE n c e with
    | some i, some t => if isNil t then none else some (.popE i t)
    | _, _ => none) else none
  | n + 1, c, .Call (.Name x _) es kws _ => if globB c.sc x && es.all noStar then (match sgIx c.sg x 0, kwNames kws with
    | some k, some ks => (match c.sg[k]?, cL n c es, cK n c kws with
      | some sg, some ts, some tk => if kwOk sg.ps es.length ks && decide (plainLen ts = some es.length) && decide (plainLen tk = some ks.length) then some (.callk k (permOf sg.ps es.length ks) ts tk) else none
      | _, _, _ => none)
    | _, _ => none) else none
  | n + 1, c, .ListComp elt [⟨tg, iter, ifs, 0⟩] scope _ => cC n c elt tg iter ifs scope
  | _, _, _ => none
termination_by structural n => n
/-- a comprehension -/
def cC : Nat → Cc → Expr → Expr → Expr → List Expr → Scope → Option T
  | 0, _, _, _, _, _, _ => none
  | n + 1, c, elt, tg, iter, ifs, scope => match tgNames tg with
    | none => none
    | some xs => match slots c.N xs with
      | none => none
      | some is => if blkC c.N c.sc scope (xs.zip is) && noSet iter && xs.all (fun x => locB scope x && decide ((relS scope c.sc).names.lookup x = scope.names.lookup x)) then (match itC (slotM c iter) (cI n c (isTupE tg) iter), cE n { c with sc := relS scope c.sc } elt, (match ifs with
          | [] => some (.con (.bl true))
          | [e] => cT n { c with sc := relS scope c.sc } e
          | _ => none) with
        | some it, some te, some tc => some (.comp is (tgT tg is) it tc te)
        | _, _, _ => none) else none
termination_by structural n => n
/-- a test -/
def cT : Nat → Cc → Expr → Option T
  | 0, _, _ => none
  | n + 1, c, .UnaryOp .Not a _ => (cT n c a).map .nt
  | n + 1, c, .BoolOp op [a] _ => cT n c a
  | n + 1, c, .BoolOp .And (a :: b :: r) pos => match cT n c a, cT n c (.BoolOp .And (b :: r) pos) with
    | some ta, some tb => some (.and ta tb)
    | _, _ => none
  | n + 1, c, .BoolOp .Or (a :: b :: r) pos => match cT n c a, cT n c (.BoolOp .Or (b :: r) pos) with
    | some ta, some tb => some (.or ta tb)
    | _, _ => none
  | n + 1, c, .Compare a [op] [b] _ => if behindInMarks op b then none else match inN op with
    | some nn => memT nn (slotE c b) (cE n c a) (cE n c b)
    | none => match cE n c a, cE n c b with
      | some ta, some tb => some (.cmp op ta tb)
      | _, _ => none
  | n + 1, c, .Compare a [op, op'] [b, e] _ => if behindInMarks op' e then none else match cE n c a, cE n c b, cE n c e with
    | some ta, some tb, some tc => some (.chain op op' ta tb tc)
    | _, _, _ => none
  | n + 1, c, e => if plainTest e then cE n c e else none
termination_by structural n => n
def cP : Nat → Cc → Option Expr → Option T
  | 0, _, _ => none
  | n + 1, c, none => some .nil
  | n + 1, c, some e => (cE n c e).map .part
termination_by structural n => n
/-- items of a display -/
def cL : Nat → Cc → List Expr → Option T
  | 0, _, _ => none
  | n + 1, c, [] => some .nil
  | n + 1, c, .Starred e _ :: es => starT (slotE c e) (cE n c e) (cL n c es)
  | n + 1, c, e :: es => if noStar e then (match cE n c e, cL n c es with
    | some t, some ts => some (.cons t ts)
    | _, _ => none) else none
termination_by structural n => n
def cK : Nat → Cc → List Keyword → Option T
  | 0, _, _ => none
  | n + 1, c, [] => some .nil
  | n + 1, c, ⟨_, e, _⟩ :: es => match cE n c e, cK n c es with
    | some t, some ts => some (.cons t ts)
    | _, _ => none
termination_by structural n => n
/-- arguments -/
def cA : Nat → Cc → List Expr → Option T
  | 0, _, _ => none
  | n + 1, c, [] => some .nil
  | n + 1, c, .Name x p :: es => (match slotOf c x with
    | some i => (cA n c es).map (.cons (.var i))
    | none => match cE n c (.Name x p), cA n c es with
      | some t, some ts => if isVar t then none else some (.cons t ts)
      | _, _ => none)
  | n + 1, c, e :: es => if noStar e then (match cE n c e, cA n c es with
    | some t, some ts => if isVar t then none else some (.cons t ts)
    | _, _ => none) else none
termination_by structural n => n
/-- what is walked (tup: the target is a tuple) -/
def cI : Nat → Cc → Bool → Expr → Option T
  | 0, _, _, _ => none
  | n + 1, c, tup, .Call (.Name x p) es [] pos => if globB c.sc x && free? c x && decide (x = ("range" : Str)) then (match es with
      | [a] => if noStar a then (cE n c a).map fun t => .rng (.cons t .nil) else none
      | [a, b] => if noStar a && noStar b then (match cE n c a, cE n c b with
        | some ta, some tb => some (.rng (.cons ta (.cons tb .nil)))
        | _, _ => none) else none
      | [a, b, d] => if noStar a && noStar b && noStar d then (match cE n c a, cE n c b, cE n c d with
        | some ta, some tb, some td => some (.rng (.cons ta (.cons tb (.cons td .nil))))
        | _, _, _ => none) else none
      | _ => none)
    else if tup && globB c.sc x && free? c x && decide (x = ("enumerate" : Str)) then (match es with
      | [a] => if noStar a then (cE n c a).map .enum else none
      | _ => none)
    else if tup && globB c.sc x && free? c x && decide (x = ("zip" : Str)) then (match es with
      | [a, b] => if noStar a && noStar b then (match cE n c a, cE n c b with
        | some ta, some tb => some (.zip ta tb)
        | _, _ => none) else none
      | _ => none)
    else (cE n c (.Call (.Name x p) es [] pos)).map .it
  | n + 1, c, _, e => (cE n c e).map .it
termination_by structural n => n
end
end MI

set_option Elab.async false
set_option linter.all false
set_option maxRecDepth 100000
set_option maxHeartbeats 4000000
/-! The trees are right. -/
namespace MI
open PySem PySem.Spec PyProof.Rows L2
section
variable {g : G} {Φ : Call} {kk : Nat}
theorem ixOf_ok : ∀ {N : List Str} {x : Str} {k i : Nat}, ixOf N x k = some i → ∃ j, i = k + j ∧ N[j]? = some x
  | [], _, _, _, h => by cases h
  | y :: r, x, k, i, h => by
    unfold ixOf at h
    split at h
    · rename_i e
      cases h
      exact ⟨0, rfl, by simpa using e⟩
    · obtain ⟨j, e1, e2⟩ := ixOf_ok h
      exact ⟨j + 1, by omega, by simpa using e2⟩
theorem sgIx_ok : ∀ {N : List Sg} {x : Str} {k i : Nat}, sgIx N x k = some i → ∃ j S, i = k + j ∧ N[j]? = some S ∧ S.name = x
  | [], _, _, _, h => by cases h
  | y :: r, x, k, i, h => by
    unfold sgIx at h
    split at h
    · rename_i e
      cases h
      exact ⟨0, y, rfl, rfl, by simpa using e⟩
    · obtain ⟨j, S, e1, e2, e3⟩ := sgIx_ok h
      exact ⟨j + 1, S, by omega, by simpa using e2, e3⟩
theorem sg_at {c : Cc} {x : Str} {k : Nat} (h : sgIx c.sg x 0 = some k) : ∃ S, c.sg[k]? = some S ∧ S.name = x := by
  obtain ⟨j, S, e1, e2, e3⟩ := sgIx_ok h
  have : k = j := by omega
  subst this
  exact ⟨S, e2, e3⟩
theorem vis_ok {sc : Scope} {x : Str} (h : visB sc x = true) : Vis sc x ∧ (x == ("__debug__" : Str)) = false ∧ (x == ("__classdict__" : Str)) = false := by
  unfold visB at h
  simp only [Bool.and_eq_true, Bool.not_eq_true'] at h
  refine ⟨?_, h.1.2, h.2⟩
  have h1 := h.1.1
  unfold Vis
  split at h1
  · rename_i e; exact .inl e
  · rename_i e; exact .inr (.inl e)
  · rename_i e; exact .inr (.inr e)
  · cases h1
theorem loc_ok {sc : Scope} {x : Str} (h : locB sc x = true) : L2.Loc sc x := by
  unfold locB at h
  unfold L2.Loc
  split at h
  · rename_i e; exact .inl e
  · rename_i e; exact .inr e
  · cases h
theorem glob_ok {sc : Scope} {x : Str} (h : globB sc x = true) : sc.names.lookup x = some .globalImplicit ∧ (x == ("__debug__" : Str)) = false := by
  unfold globB at h
  simp only [Bool.and_eq_true, Bool.not_eq_true'] at h
  refine ⟨?_, h.2⟩
  have h1 := h.1
  split at h1
  · assumption
  · cases h1
theorem slot_ok {c : Cc} {x : Str} {i : Nat} (h : slotOf c x = some i) : c.N[i]? = some x ∧ Vis c.sc x ∧ (x == ("__debug__" : Str)) = false ∧ (x == ("__classdict__" : Str)) = false := by
  unfold slotOf at h
  split at h
  · rename_i v
    obtain ⟨j, e1, e2⟩ := ixOf_ok h
    have : i = j := by omega
    subst this
    exact ⟨e2, vis_ok v⟩
  · cases h
theorem nameV {c : Cc} {W : WXX} {X : Cx} {x : Str} {i : Nat} {p : Pos} (O : OkX g c W Φ kk X) (h : slotOf c x = some i) : PE X (.Name x p) (tVar i) := by
  obtain ⟨h1, h2, h3, h4⟩ := slot_ok h
  exact pe_var (by rw [O.hN]; exact h1) (by rw [O.hs]; exact h2) h3 h4
theorem tyTab_ok : ∀ p ∈ tyTab, bootBuiltins p.1 = some (.type p.2) ∧ p.1 ∈ bns ∧ p.1 ≠ ("__name__" : Str) ∧ (p.1 == ("__debug__" : Str)) = false := by decide +kernel
theorem lookup_mem {β : Type} {l : List (Str × β)} {x : Str} {b : β} (h : l.lookup x = some b) : (x, b) ∈ l := PySem.mem_of_lookup h
theorem fsi {e : Expr} (h : noSet e = true) (env : Env) : ∀ x, foldedSetIterable e env x = pure x := by
  cases e <;> first | (intro x; rfl) | cases h
theorem isVar_no {t : T} (h : ¬ isVar t = true) : ∀ i, t ≠ .var i := by
  rintro i rfl
  exact h rfl
theorem isVar1_no {t : T} (h : ¬ isVar1 t = true) : ∀ i, t ≠ .cons (.var i) .nil := by
  rintro i rfl
  exact h rfl
theorem cL_nil : ∀ {n : Nat} {c : Cc} {ts : T}, cL n c [] = some ts → ts = .nil
  | 0, _, _, h => by cases h
  | n + 1, _, _, h => by cases h; rfl
theorem cA_nil : ∀ {n : Nat} {c : Cc} {ts : T}, cA n c [] = some ts → ts = .nil
  | 0, _, _, h => by cases h
  | n + 1, _, _, h => by cases h; rfl
/-- all that a comprehension wants -/
structure CompOk (g : G) (Φ : Call) (c : Cc) (W : WXX) (X : Cx) (elt tg iter : Expr) (ifs : List Expr) (scope : Scope) (t : T) : Prop where
  ex : ∃ (own : List (Str × Nat)) (p it tc e : T) (gr : TG) (tt : TT), t = .comp (own.map (·.2)) p it tc e ∧ PI X tg iter (rdIC g W Φ X.K it) ∧ blkC c.N c.sc scope own = true ∧
    (∀ (s : Shared) (H : Hp) (C : Addr) (cl : List (Str × Addr)) (fp : List Addr), PG (X.blk s H scope (compEnvC scope cl C X.env) fp) tg gr) ∧ PatOk g Φ p gr (own.map (·.2)) ∧
    (∀ (s : Shared) (H : Hp) (C : Addr) (cl : List (Str × Addr)) (fp : List Addr), PTs (X.blk s H scope (compEnvC scope cl C X.env) fp) ifs tt) ∧ TestOk g Φ tc tt ∧
    (∀ (s : Shared) (H : Hp) (C : Addr) (cl : List (Str × Addr)) (fp : List Addr), PE (X.blk s H scope (compEnvC scope cl C X.env) fp) elt (rdE g W0 Φ e)) ∧ ∀ x, foldedSetIterable iter X.env x = pure x
structure AllOk (g : G) (Φ : Call) (kk n : Nat) : Prop where
  E : ∀ {c e t}, cE n c e = some t → ∀ {W X}, OkX g c W Φ kk X → PE X e (rdE g W Φ t)
  C : ∀ {c elt tg iter ifs scope t}, cC n c elt tg iter ifs scope = some t → ∀ {W X}, OkX g c W Φ kk X → CompOk g Φ c W X elt tg iter ifs scope t
  T : ∀ {c e t}, cT n c e = some t → ∀ {W X}, OkX g c W Φ kk X → PT X e (rdT g W Φ t)
  B : ∀ {c op vs pos t}, cT n c (.BoolOp op vs pos) = some t → ∀ {W X}, OkX g c W Φ kk X → PW X (.BoolOp op vs pos) (rdT g W Φ t)
  P : ∀ {c e t}, cP n c e = some t → ∀ {W X}, OkX g c W Φ kk X → PO X e (rdP g W Φ t)
  L : ∀ {c e t}, cL n c e = some t → ∀ {W X}, OkX g c W Φ kk X → PA X e (rdIt g W Φ t)
  K : ∀ {c e t}, cK n c e = some t → ∀ {W X}, OkX g c W Φ kk X → PK X e (rdIt g W Φ t)
  A : ∀ {c e t}, cA n c e = some t → ∀ {W X}, OkX g c W Φ kk X → PA X e (rdA g W Φ t)
  I : ∀ {c b e t}, cI n c b e = some t → ∀ {W X tg}, (b = true → isTupE tg = true) → OkX g c W Φ kk X → PI X tg e (rdI g W Φ t)
variable {n : Nat}
theorem stepP (A : AllOk g Φ kk n) {c e t} (h : cP (n + 1) c e = some t) {W X} (O : OkX g c W Φ kk X) : PO X e (rdP g W Φ t) := by
  cases e with
  | none => cases h; exact p_none
  | some e =>
    obtain ⟨t', h1, rfl⟩ := Option.map_eq_some_iff.mp h
    exact p_some (A.E h1 O)
theorem isM1_ok {e : Expr} (h : isM1 e = true) : ∃ k p1 p2, e = .UnaryOp .USub (.Constant (.int 1) k p1) p2 := by
  unfold isM1 at h
  split at h
  · rename_i i k p1 p2
    have : i = 1 := of_decide_eq_true h
    subst this
    exact ⟨_, _, _, rfl⟩
  · cases h
theorem starT_ok {si : Option Nat} {ta ts : Option T} {t : T} (h : starT si ta ts = some t) : (∃ i u, si = some i ∧ ts = some u ∧ t = .star (.var i) u) ∨ ∃ a u, ta = some a ∧ ts = some u ∧ ¬ isVar a = true ∧ t = .star a u := by
  unfold starT at h
  split at h
  · cases h; exact .inl ⟨_, _, rfl, rfl, rfl⟩
  · split at h
    · cases h
    · cases h; exact .inr ⟨_, _, rfl, rfl, by assumption, rfl⟩
  · cases h
theorem memT_ok {nn : Bool} {si : Option Nat} {ta tb : Option T} {t : T} (h : memT nn si ta tb = some t) : (∃ i a, si = some i ∧ ta = some a ∧ t = .mem nn a (.var i)) ∨ ∃ a b, ta = some a ∧ tb = some b ∧ ¬ isVar b = true ∧ t = .mem nn a b := by
  unfold memT at h
  split at h
  · cases h; exact .inl ⟨_, _, rfl, rfl, rfl⟩
  · split at h
    · cases h
    · cases h; exact .inr ⟨_, _, rfl, rfl, by assumption, rfl⟩
  · cases h
theorem stepL (A : AllOk g Φ kk n) {c e t} (h : cL (n + 1) c e = some t) {W X} (O : OkX g c W Φ kk X) : PA X e (rdIt g W Φ t) := by
  cases e with
  | nil => cases h; exact l_nil
  | cons e es =>
    by_cases hs : ∃ e' p, e = .Starred e' p
    · obtain ⟨e', p, rfl⟩ := hs
      replace h : starT (slotE c e') (cE n c e') (cL n c es) = some t := h
      rcases starT_ok h with ⟨i, u, h1, h2, rfl⟩ | ⟨a, u, h1, h2, nv, rfl⟩
      · cases e' with
        | Name x px => exact l_starV O (nameV O h1) (A.L h2 O)
        | _ => cases h1
      · exact l_star O (A.E h1 O) (A.L h2 O) (isVar_no nv)
    · replace h : (if noStar e then (match cE n c e, cL n c es with
        | some t, some ts => some (.cons t ts)
        | _, _ => none) else none) = some t := by
        cases e <;> first | exact h | exact absurd ⟨_, _, rfl⟩ hs
      split at h
      · rename_i ns
        split at h
        · rename_i t1 t2 h1 h2
          cases h
          exact l_cons (A.E h1 O) (A.L h2 O) ns
        · cases h
      · cases h
theorem stepK (A : AllOk g Φ kk n) {c e t} (h : cK (n + 1) c e = some t) {W X} (O : OkX g c W Φ kk X) : PK X e (rdIt g W Φ t) := by
  cases e with
  | nil => cases h; exact k_nil
  | cons e es =>
    obtain ⟨nm, e, kp⟩ := e
    unfold cK at h
    split at h
    · rename_i t1 t2 h1 h2
      cases h
      exact k_cons (A.E h1 O) (A.K h2 O)
    · cases h
theorem cA_other {c : Cc} {e : Expr} {es : List Expr} (h : ∀ x p, e ≠ .Name x p) : cA (n + 1) c (e :: es) = if noStar e then (match cE n c e, cA n c es with
    | some t, some ts => if isVar t then none else some (.cons t ts)
    | _, _ => none) else none := by
  cases e <;> first | rfl | exact absurd rfl (h _ _)
theorem stepA (A : AllOk g Φ kk n) {c e t} (h : cA (n + 1) c e = some t) {W X} (O : OkX g c W Φ kk X) : PA X e (rdA g W Φ t) := by
  cases e with
  | nil => cases h; exact a_nil
  | cons e es =>
    have fin : ∀ {t : T}, noStar e = true → (match cE n c e, cA n c es with
      | some t, some ts => if isVar t then none else some (.cons t ts)
      | _, _ => none) = some t → PA X (e :: es) (rdA g W Φ t) := fun {t} ns h => by
      split at h
      · rename_i t1 t2 h1 h2
        split at h
        · cases h
        · rename_i nv
          cases h
          exact a_cons (A.E h1 O) (A.A h2 O) ns (isVar_no nv)
      · cases h
    by_cases hn : ∃ x p, e = .Name x p
    · obtain ⟨x, p, rfl⟩ := hn
      replace h : (match slotOf c x with
        | some i => (cA n c es).map (.cons (.var i))
        | none => match cE n c (.Name x p), cA n c es with
          | some t, some ts => if isVar t then none else some (.cons t ts)
          | _, _ => none) = some t := h
      split at h
      · rename_i i hi
        obtain ⟨ts, h1, rfl⟩ := Option.map_eq_some_iff.mp h
        exact a_var (nameV O hi) (A.A h1 O)
      · exact fin rfl h
    · rw [cA_other fun x p e => hn ⟨x, p, e⟩] at h
      split at h
      · rename_i ns
        exact fin ns h
      · cases h
theorem inN_ok {op : CmpOp} {nn : Bool} (h : inN op = some nn) : op = inOp nn := by
  cases op <;> cases h <;> rfl
theorem cI_other {c : Cc} {tup : Bool} {e : Expr} (h : ∀ x p es pos, e ≠ .Call (.Name x p) es [] pos) : cI (n + 1) c tup e = (cE n c e).map .it := by
  cases e with
  | Call f es kws pos =>
    cases f with
    | Name x p =>
      cases kws with
      | nil => exact absurd rfl (h _ _ _ _)
      | cons k ks => rfl
    | _ => rfl
  | _ => rfl
theorem stepI (A : AllOk g Φ kk n) {c tup e t} (h : cI (n + 1) c tup e = some t) {W X tg} (ht : tup = true → isTupE tg = true) (O : OkX g c W Φ kk X) : PI X tg e (rdI g W Φ t) := by
  by_cases hn : ∃ x p es pos, e = .Call (.Name x p) es [] pos
  · obtain ⟨x, p, es, pos, rfl⟩ := hn
    replace h : (if globB c.sc x && free? c x && decide (x = ("range" : Str)) then (match es with
      | [a] => if noStar a then (cE n c a).map fun t => .rng (.cons t .nil) else none
      | [a, b] => if noStar a && noStar b then (match cE n c a, cE n c b with
        | some ta, some tb => some (.rng (.cons ta (.cons tb .nil)))
        | _, _ => none) else none
      | [a, b, d] => if noStar a && noStar b && noStar d then (match cE n c a, cE n c b, cE n c d with
        | some ta, some tb, some td => some (.rng (.cons ta (.cons tb (.cons td .nil))))
        | _, _, _ => none) else none
      | _ => none)
    else if tup && globB c.sc x && free? c x && decide (x = ("enumerate" : Str)) then (match es with
      | [a] => if noStar a then (cE n c a).map .enum else none
      | _ => none)
    else if tup && globB c.sc x && free? c x && decide (x = ("zip" : Str)) then (match es with
      | [a, b] => if noStar a && noStar b then (match cE n c a, cE n c b with
        | some ta, some tb => some (.zip ta tb)
        | _, _ => none) else none
      | _ => none)
    else (cE n c (.Call (.Name x p) es [] pos)).map .it) = some t := h
    split at h
    · rename_i hc
      simp only [Bool.and_eq_true, decide_eq_true_eq] at hc
      obtain ⟨⟨h1, h2⟩, rfl⟩ := hc
      split at h
      · rename_i a
        split at h
        · rename_i ns
          obtain ⟨ta, e1, rfl⟩ := Option.map_eq_some_iff.mp h
          exact i_rng1 O (glob_ok h1).1 (A.E e1 O) ns
        · cases h
      · rename_i a b
        split at h
        · rename_i ns
          rw [Bool.and_eq_true] at ns
          split at h
          · rename_i ta tb e1 e2
            cases h
            exact i_rng2 O (glob_ok h1).1 (A.E e1 O) (A.E e2 O) ns.1 ns.2
          · cases h
        · cases h
      · rename_i a b d
        split at h
        · rename_i ns
          rw [Bool.and_eq_true, Bool.and_eq_true] at ns
          split at h
          · rename_i ta tb td e1 e2 e3
            cases h
            exact i_rng3 O (glob_ok h1).1 (A.E e1 O) (A.E e2 O) (A.E e3 O) ns.1.1 ns.1.2 ns.2
          · cases h
        · cases h
      · cases h
    · split at h
      · rename_i hc
        simp only [Bool.and_eq_true, decide_eq_true_eq] at hc
        obtain ⟨⟨⟨h0, h1⟩, h2⟩, rfl⟩ := hc
        have ht := ht h0
        cases tg with
        | Tuple elts k tpos =>
          split at h
          · rename_i a
            split at h
            · rename_i ns
              obtain ⟨ta, e1, rfl⟩ := Option.map_eq_some_iff.mp h
              exact i_enum O (glob_ok h1).1 (A.E e1 O) ns
            · cases h
          · cases h
        | _ => cases ht
      · split at h
        · rename_i hc
          simp only [Bool.and_eq_true, decide_eq_true_eq] at hc
          obtain ⟨⟨⟨h0, h1⟩, h2⟩, rfl⟩ := hc
          have ht := ht h0
          cases tg with
          | Tuple elts k tpos =>
            split at h
            · rename_i a b
              split at h
              · rename_i ns
                rw [Bool.and_eq_true] at ns
                split at h
                · rename_i ta tb e1 e2
                  cases h
                  exact i_zip O (glob_ok h1).1 (A.E e1 O) (A.E e2 O) ns.1 ns.2
                · cases h
              · cases h
            · cases h
          | _ => cases ht
        · obtain ⟨t1, e1, rfl⟩ := Option.map_eq_some_iff.mp h
          exact i_it O (A.E e1 O)
  · rw [cI_other fun x p es pos e => hn ⟨x, p, es, pos, e⟩] at h
    obtain ⟨t1, e1, rfl⟩ := Option.map_eq_some_iff.mp h
    exact i_it O (A.E e1 O)
theorem i_itv {c : Cc} {W : WXX} {X : Cx} {tg e : Expr} {i : Nat} (O : OkX g c W Φ kk X) (h : PE X e (rdE g W Φ (.var i))) : PI X tg e (rdI g W Φ (.itv i)) := PI.mono (i_it (tg := tg) O h) fun σ H R ⟨Z, s, st, q⟩ => ⟨Z, s, st, q⟩
theorem itC_ok (A : AllOk g Φ kk n) {c iter t tg} (h : itC (slotM c iter) (cI n c (isTupE tg) iter) = some t) {W X} (O : OkX g c W Φ kk X) : PI X tg iter (rdIC g W Φ X.K t) := by
  unfold itC at h
  split at h
  · rename_i i e
    cases h
    cases iter with
    | Name x p =>
      have e : (if c.mu.contains x then slotOf c x else none) = some i := e
      split at e
      · obtain ⟨h1, h2, h3, h4⟩ := slot_ok e
        exact PI.ic (i_itv O (d_var O h1 h2 h3 h4)) fun j ej => by cases ej; exact pi_seq (nameV O e)
      · cases e
    | _ => cases e
  · obtain ⟨t', e1, e2⟩ := Option.bind_eq_some_iff.mp h
    split at e2
    · cases e2
    · rename_i nv
      cases e2
      exact PI.ic (A.I e1 id O) fun j ej => by rw [ej] at nv; exact absurd rfl nv
theorem slots_ok {N : List Str} : ∀ {xs : List Str} {is : List Nat}, slots N xs = some is → xs.length = is.length ∧ (xs.zip is).map (·.2) = is ∧ ∀ (j : Nat) x, xs[j]? = some x → ∃ i, is[j]? = some i ∧ N[i]? = some x
  | [], is, h => by cases h; exact ⟨rfl, rfl, fun j x e => by simp at e⟩
  | x :: r, is, h => by
    unfold slots at h
    split at h
    · rename_i i is' h1 h2
      cases h
      obtain ⟨a, b, d⟩ := slots_ok h2
      obtain ⟨j, e1, e2⟩ := ixOf_ok h1
      have : i = j := by omega
      subst this
      refine ⟨by simp [a], by simp [b], fun k y e => ?_⟩
      rcases get_cons e with ⟨rfl, rfl⟩ | ⟨m, rfl, e⟩
      · exact ⟨i, rfl, e2⟩
      · obtain ⟨i2, q1, q2⟩ := d m y e
        exact ⟨i2, by simpa using q1, q2⟩
    · cases h
/-- names as a comprehension's targets -/
theorem blk_names {c : Cc} {W : WXX} {X : Cx} {scope : Scope} (O : OkX g c W Φ kk X) (s : Shared) (H : Hp) (C : Addr) (cl : List (Str × Addr)) (fp : List Addr) : ∀ {es : List Expr} {xs : List Str} {is : List Nat}, namesOf es = some xs → slots c.N xs = some is →
    (∀ x ∈ xs, locB scope x = true ∧ (relS scope c.sc).names.lookup x = scope.names.lookup x) → PGs (X.blk s H scope (compEnvC scope cl C X.env) fp) es (gNames is) ∧ ∀ env, (assignEach es env).findIdx? (·.1) = none ∧ (assignEach es env).length = is.length
  | [], xs, is, h1, h2, h3 => by
    cases h1
    cases h2
    refine ⟨PGs.mono pgs_nil fun vs σ H Q ⟨a, b⟩ => ?_, fun env => ⟨rfl, rfl⟩⟩
    cases vs with
    | nil => exact ⟨rfl, by simpa [setAllV] using b⟩
    | cons v vs => simp at a
  | e :: es, xs, is, h1, h2, h3 => by
    cases e with
    | Name x p =>
      obtain ⟨xs', n1, rfl⟩ := Option.map_eq_some_iff.mp (show (namesOf es).map (x :: ·) = some xs from h1)
      have h2' := h2
      unfold slots at h2'
      split at h2'
      · rename_i i is' q1 q2
        cases h2'
        obtain ⟨g1, g2⟩ := blk_names O s H C cl fp n1 q2 fun y hy => h3 y (List.mem_cons_of_mem _ hy)
        obtain ⟨j, e1, e2⟩ := ixOf_ok q1
        have : i = j := by omega
        subst this
        obtain ⟨l1, l2⟩ := h3 x List.mem_cons_self
        have lk : (relS scope X.env.scope).names.lookup x = scope.names.lookup x := by rw [O.hs]; exact l2
        have lc := loc_ok l1
        have pgn : PG (X.blk s H scope (compEnvC scope cl C X.env) fp) (.Name x p) (gName i) := pg_name (i := i) (by show X.N.Nodup; rw [O.hN]; exact O.nd) (by show X.N[i]? = _; rw [O.hN]; exact e2)
          (by show L2.Loc (relS scope X.env.scope) x; unfold L2.Loc; rw [lk]; exact lc)
          (by
            rcases lc with q | q
            · exact .inr (by show (relS scope X.env.scope).names.lookup x = _; rw [lk]; exact q)
            · exact .inl (by show (scope.names.lookup x == some NameKind.cell) = true; rw [q]; rfl))
        refine ⟨PGs.mono (pgs_cons pgn g1 rfl) fun vs σ H Q ⟨a, b⟩ => ?_, fun env => ?_⟩
        · cases vs with
          | nil => simp at a
          | cons v vs => exact ⟨v, vs, rfl, by simpa using a, b⟩
        · obtain ⟨g3, g4⟩ := g2 env
          constructor
          · show (((false, assign (.Name x p) env) :: assignEach es env).findIdx? (·.1)) = none
            rw [List.findIdx?_cons]
            simp [g3]
          · show ((false, assign (.Name x p) env) :: assignEach es env).length = _
            rw [List.length_cons, g4, List.length_cons]
      · cases h2'
    | _ => cases h1
theorem stepC' (A : AllOk g Φ kk n) {c elt tg iter ifs scope t} (h : cC (n + 1) c elt tg iter ifs scope = some t) {W X} (O : OkX g c W Φ kk X) : CompOk g Φ c W X elt tg iter ifs scope t := by
  unfold cC at h
  split at h
  · cases h
  · rename_i xs hx
    split at h
    · cases h
    · rename_i is hi
      split at h
      · rename_i hc
        simp only [Bool.and_eq_true, List.all_eq_true, decide_eq_true_eq] at hc
        obtain ⟨⟨c1, c2⟩, c3⟩ := hc
        split at h
        · rename_i it te tc q1 q2 q3
          cases h
          obtain ⟨s1, s2, s3⟩ := slots_ok hi
          have tests : ∃ tt, (∀ (s : Shared) (H : Hp) (C : Addr) (cl : List (Str × Addr)) (fp : List Addr), PTs (X.blk s H scope (compEnvC scope cl C X.env) fp) ifs tt) ∧ TestOk g Φ tc tt := by
            split at q3
            · cases q3
              exact ⟨tYes, fun _ _ _ _ _ => pts_nil, test_yes⟩
            · exact ⟨_, fun s H C cl fp => pts_one (A.T q3 (ok_blk O)), test_rd⟩
            · cases q3
          obtain ⟨tt, ht, ho⟩ := tests
          have pats : ∃ gr, (∀ (s : Shared) (H : Hp) (C : Addr) (cl : List (Str × Addr)) (fp : List Addr), PG (X.blk s H scope (compEnvC scope cl C X.env) fp) tg gr) ∧ PatOk g Φ (tgT tg is) gr is := by
            cases tg with
            | Name x p =>
              cases hx
              obtain ⟨i, rfl⟩ : ∃ i, is = [i] := by
                match is, s1 with
                | [i], _ => exact ⟨i, rfl⟩
              refine ⟨gName i, fun s H C cl fp => ?_, pat_var List.mem_cons_self⟩
              obtain ⟨i', e1, e2⟩ := s3 0 x rfl
              simp at e1
              subst e1
              obtain ⟨l1, l2⟩ := c3 x List.mem_cons_self
              have lk : (relS scope X.env.scope).names.lookup x = scope.names.lookup x := by rw [O.hs]; exact l2
              have lc := loc_ok l1
              exact pg_name (i := i) (by show X.N.Nodup; rw [O.hN]; exact O.nd) (by show X.N[i]? = _; rw [O.hN]; exact e2)
                (by show L2.Loc (relS scope X.env.scope) x; unfold L2.Loc; rw [lk]; exact lc)
                (by
                  rcases lc with q | q
                  · exact .inr (by show (relS scope X.env.scope).names.lookup x = _; rw [lk]; exact q)
                  · exact .inl (by show (scope.names.lookup x == some NameKind.cell) = true; rw [q]; rfl))
            | Tuple es k p =>
              refine ⟨_, fun s H C cl fp => ?_, pat_vars O.hK fun i hi => hi⟩
              obtain ⟨g1, g2⟩ := blk_names O s H C cl fp hx hi c3
              exact pg_tup (n := is.length) O.cm g1 (g2 _).2 (g2 _).1
            | _ => cases hx
          obtain ⟨gr, hg, hp⟩ := pats
          refine ⟨⟨xs.zip is, tgT tg is, it, tc, te, gr, tt, by rw [s2], itC_ok A q1 O, c1, hg, by rw [s2]; exact hp, ht, ho, fun s H C cl fp => A.E q2 (ok_blk O), fsi c2 _⟩⟩
        · cases h
      · cases h

theorem cT_plain {c : Cc} {e : Expr} (h : plainTest e = true) : cT (n + 1) c e = cE n c e := by
  cases e <;> first
    | rfl
    | cases h
    | (rename_i op _ _
       cases op <;> first | rfl | cases h)
theorem stepB (A : AllOk g Φ kk n) {c op vs pos t} (h : cT (n + 1) c (.BoolOp op vs pos) = some t) {W X} (O : OkX g c W Φ kk X) : PW X (.BoolOp op vs pos) (rdT g W Φ t) := by
  match vs, h with
  | [], h => cases op <;> cases h
  | [a], h =>
    have h : cT n c a = some t := by cases op <;> exact h
    cases op with
    | And => exact pw_and1 (A.T h O)
    | Or => exact pw_or1 (A.T h O)
  | a :: b :: r, h =>
    cases op with
    | And =>
      replace h : (match cT n c a, cT n c (.BoolOp .And (b :: r) pos) with
        | some ta, some tb => some (.and ta tb)
        | _, _ => none) = some t := h
      split at h
      · rename_i ta tb h1 h2
        cases h
        exact t_and (A.T h1 O) (A.B h2 O)
      · cases h
    | Or =>
      replace h : (match cT n c a, cT n c (.BoolOp .Or (b :: r) pos) with
        | some ta, some tb => some (.or ta tb)
        | _, _ => none) = some t := h
      split at h
      · rename_i ta tb h1 h2
        cases h
        exact t_or (A.T h1 O) (A.B h2 O)
      · cases h
theorem stepT (A : AllOk g Φ kk n) {c e t} (h : cT (n + 1) c e = some t) {W X} (O : OkX g c W Φ kk X) : PT X e (rdT g W Φ t) := by
  by_cases hp : plainTest e = true
  · rw [cT_plain hp] at h
    exact t_plain O (A.E h O) hp
  · cases e with
    | UnaryOp op a pos =>
      cases op with
      | Not =>
        obtain ⟨ta, h1, rfl⟩ := Option.map_eq_some_iff.mp (show (cT n c a).map .nt = some t from h)
        exact t_not (A.T h1 O)
      | _ => exact absurd rfl hp
    | BoolOp op vs pos => exact (stepB A h O).pt
    | IfExp a b d pos => cases h
    | Compare a ops cs pos =>
      match ops, cs, h with
      | [op], [b], h =>
        replace h : (if behindInMarks op b then none else match inN op with
          | some nn => memT nn (slotE c b) (cE n c a) (cE n c b)
          | none => match cE n c a, cE n c b with
            | some ta, some tb => some (.cmp op ta tb)
            | _, _ => none) = some t := h
        split at h
        · cases h
        · rename_i hm
          split at h
          · rename_i nn hop
            cases inN_ok hop
            rcases memT_ok h with ⟨i, u, h1, h2, rfl⟩ | ⟨u, v, h1, h2, nv, rfl⟩
            · cases b with
              | Name x px => exact t_memV O (A.E h2 O) (nameV O h1) (by simpa using hm)
              | _ => cases h1
            · exact t_mem O (A.E h1 O) (A.E h2 O) (isVar_no nv) (by simpa using hm)
          · split at h
            · rename_i ta tb h1 h2
              cases h
              exact t_cmp O (A.E h1 O) (A.E h2 O) (by simpa using hm)
            · cases h
      | [op, op'], [b, e], h =>
        replace h : (if behindInMarks op' e then none else match cE n c a, cE n c b, cE n c e with
          | some ta, some tb, some tc => some (.chain op op' ta tb tc)
          | _, _, _ => none) = some t := h
        split at h
        · cases h
        · rename_i hm
          split at h
          · rename_i ta tb tc h1 h2 h3
            cases h
            exact t_chain O (A.E h1 O) (A.E h2 O) (A.E h3 O) (by simpa using hm)
          · cases h
      | [], _, h => cases h
      | [_], [], h => cases h
      | [_], _ :: _ :: _, h => cases h
      | [_, _], [], h => cases h
      | [_, _], [_], h => cases h
      | [_, _], _ :: _ :: _ :: _, h => cases h
      | _ :: _ :: _ :: _, _, h => cases h
    | _ => exact absurd rfl hp
theorem d_ite {c : Cc} {W : WXX} {X : Cx} {e a b : Expr} {tc ta tb : T} {pos : Pos} (hc : PT X e (rdT g W Φ tc)) (ha : PE X a (rdE g W Φ ta)) (hb : PE X b (rdE g W Φ tb)) : PE X (.IfExp e a b pos) (rdE g W Φ (.ite tc ta tb)) := by
  refine PE.mono (pe_ifExp hc ha hb) fun σ H Q ⟨Z, s, st, h⟩ => ⟨Z, s, st, ?_⟩
  let nx : Vl → S → MI.R Vl := fun x s => match tru x.dat with
    | some true => evE Φ ta s
    | some false => evE Φ tb s
    | none => .no
  have h : Res g W σ Z H s ((evE Φ tc s).bind nx) fun v _ Z' H' => ∀ x, RF g H Z' H' v x → Q x H' := h
  cases e1 : evE Φ tc s with
  | no => rw [e1] at h; exact h.elim
  | ex cc fs s' => rw [e1] at h; exact h
  | ok v s1 =>
    rw [e1] at h
    show Res g W σ Z H s (R.ofO (tru v.dat) s1) _
    have h : Res g W σ Z H s (nx v s1) fun v _ Z' H' => ∀ x, RF g H Z' H' v x → Q x H' := h
    cases e2 : tru v.dat with
    | none => simp only [nx, e2] at h; exact h.elim
    | some k =>
      simp only [nx, e2] at h
      intro Z1 H1 k1 st1 o1
      cases k with
      | true => exact iteT ⟨Z1, s1, st1, (Res.rebase h k1 o1).mono fun u s2 Z2 H2 k2 st2 o2 q y rf => q y (rf.back k1)⟩
      | false => exact iteF ⟨Z1, s1, st1, (Res.rebase h k1 o1).mono fun u s2 Z2 H2 k2 st2 o2 q y rf => q y (rf.back k1)⟩
theorem lrB_ok {b : Bf} {x : Str} {k : Bool} (h : bfTab.lookup x = some b) (hk : lrB b = some k) : x = (if k then "tuple" else "list" : Str) := by
  have m := lookup_mem h
  cases b <;> simp only [lrB] at hk <;> first | cases hk | skip
  all_goals (simp [bfTab] at m; subst m; rfl)
theorem call_lr {c : Cc} {W : WXX} {X : Cx} (A : AllOk g Φ kk n) {x : Str} {p pos : Pos} {es : List Expr} {b : Bf} {t : T} (hb : bfTab.lookup x = some b) (hg : c.sc.names.lookup x = some .globalImplicit) (h : lrT c b es ((rgA1 es).bind fun a => cE n c a) ((rgA2 es).bind fun a => cE n c a) = some t) (O : OkX g c W Φ kk X) : PE X (.Call (.Name x p) es [] pos) (rdE g W Φ t) := by
  unfold lrT at h
  split at h
  · rename_i t1 t2 y py a q k ta hk ht
    split at h
    · rename_i hc
      simp only [Bool.and_eq_true, decide_eq_true_eq] at hc
      obtain ⟨⟨⟨c1, c2⟩, rfl⟩, ns⟩ := hc
      cases h
      obtain rfl := lrB_ok hb hk
      exact d_lrg1 O hg (glob_ok c1).1 (A.E (show cE n c a = some ta from ht) O) ns
    · cases h
  · rename_i t1 t2 y py a b2 q k ta tb hk ht ht2
    split at h
    · rename_i hc
      simp only [Bool.and_eq_true, decide_eq_true_eq] at hc
      obtain ⟨⟨⟨⟨c1, c2⟩, rfl⟩, ns⟩, ns2⟩ := hc
      cases h
      obtain rfl := lrB_ok hb hk
      exact d_lrg2 O hg (glob_ok c1).1 (A.E (show cE n c a = some ta from ht) O) (A.E (show cE n c b2 = some tb from ht2) O) ns ns2
    · cases h
  · cases h
theorem call_name {c : Cc} {W : WXX} {X : Cx} (A : AllOk g Φ kk n) {x : Str} {p pos : Pos} {es : List Expr} {t : T} (h : cE (n + 1) c (.Call (.Name x p) es [] pos) = some t) (O : OkX g c W Φ kk X) : PE X (.Call (.Name x p) es [] pos) (rdE g W Φ t) := by
  replace h : (if globB c.sc x && es.all noStar then (match sgIx c.sg x 0 with
    | some k => (cA n c es).map (.call k)
    | none => match c.gl.lookup x with
      | some _ => none
      | none => match bfTab.lookup x, es with
        | some b, .Name y _ :: [] => (match slotOf c y with
          | some i => some (.bf b (.cons (.var i) .nil))
          | none => match cL n c es with
            | some ts => if isVar1 ts then none else some (.bf b ts)
            | none => none)
        | some b, e :: es' => (match cL n c (e :: es') with
          | some ts => if isVar1 ts then none else some (.bf b ts)
          | none => lrT c b (e :: es') ((rgA1 (e :: es')).bind fun a => cE n c a) ((rgA2 (e :: es')).bind fun a => cE n c a))
        | _, _ => none) else none) = some t := h
  split at h
  · rename_i hc
    rw [Bool.and_eq_true] at hc
    obtain ⟨g1, g2⟩ := glob_ok hc.1
    have ns := hc.2
    split at h
    · rename_i k hk
      obtain ⟨ts, h1, rfl⟩ := Option.map_eq_some_iff.mp h
      obtain ⟨S, e1, rfl⟩ := sg_at hk
      exact d_call O e1 g1 g2 (A.A h1 O) ns fun e => by
        subst e
        exact cA_nil h1
    · split at h
      · cases h
      · have gen : ∀ {b : Bf} {e : Expr} {es' : List Expr} {t : T}, bfTab.lookup x = some b → es = e :: es' → (match cL n c (e :: es') with
            | some ts => if isVar1 ts then none else some (.bf b ts)
            | none => none) = some t → PE X (.Call (.Name x p) es [] pos) (rdE g W Φ t) := fun {b e es' t} hb he hq => by
          clear h
          subst he
          split at hq
          · rename_i ts h1
            split at hq
            · cases hq
            · rename_i nv
              cases hq
              exact d_bf O (lookup_mem hb) g1 (A.L h1 O) ns (isVar1_no nv)
          · cases hq
        split at h
        · rename_i b y py hb
          split at h
          · rename_i i hi
            cases h
            exact d_bfV O (lookup_mem hb) g1 (nameV O hi)
          · exact gen hb rfl h
        · rename_i b e es' _ hb
          cases hq : cL n c (e :: es') with
          | some ts =>
            rw [hq] at h
            exact gen hb rfl (by rw [hq]; exact h)
          | none =>
            rw [hq] at h
            exact call_lr A hb g1 h O
        · cases h
  · cases h
theorem call_kw {c : Cc} {W : WXX} {X : Cx} (A : AllOk g Φ kk n) {x : Str} {p pos : Pos} {es : List Expr} {kw : Keyword} {kws : List Keyword} {t : T} (h : cE (n + 1) c (.Call (.Name x p) es (kw :: kws) pos) = some t) (O : OkX g c W Φ kk X) : PE X (.Call (.Name x p) es (kw :: kws) pos) (rdE g W Φ t) := by
  replace h : (if globB c.sc x && es.all noStar then (match sgIx c.sg x 0, kwNames (kw :: kws) with
    | some k, some ks => (match c.sg[k]?, cL n c es, cK n c (kw :: kws) with
      | some sg, some ts, some tk => if kwOk sg.ps es.length ks && decide (plainLen ts = some es.length) && decide (plainLen tk = some ks.length) then some (.callk k (permOf sg.ps es.length ks) ts tk) else none
      | _, _, _ => none)
    | _, _ => none) else none) = some t := h
  split at h
  · rename_i hc
    rw [Bool.and_eq_true] at hc
    obtain ⟨g1, g2⟩ := glob_ok hc.1
    split at h
    · rename_i k ks hk hks
      split at h
      · rename_i sg ts tk h1 h2 h3
        split at h
        · rename_i ok
          cases h
          simp only [Bool.and_eq_true, decide_eq_true_eq] at ok
          obtain ⟨S, e1, e2⟩ := sg_at hk
          rw [h1] at e1
          cases e1
          subst e2
          have hn : es = [] → ts = .nil := fun e => by
            subst e
            exact cL_nil h2
          exact d_callk (n := 0) O h1 g1 g2 (A.L h2 O) (A.K h3 O) hc.2 hn hks ok.1.1 ok.1.2 ok.2
        · cases h
      · cases h
    · cases h
  · cases h
theorem stepE (A : AllOk g Φ kk n) {c e t} (h : cE (n + 1) c e = some t) {W X} (O : OkX g c W Φ kk X) : PE X e (rdE g W Φ t) := by
  cases e with
  | Name x p =>
    replace h : (match slotOf c x with
      | some i => some (.var i)
      | none => if globB c.sc x then (match sgIx c.sg x 0 with
        | some k => some (.con (.fn k))
        | none => match c.gl.lookup x with
          | some d => some (.con d)
          | none => (tyTab.lookup x).map fun t => .con (.ty t)) else none) = some t := h
    split at h
    · rename_i i hi
      cases h
      obtain ⟨h1, h2, h3, h4⟩ := slot_ok hi
      exact d_var O h1 h2 h3 h4
    · split at h
      · rename_i hg
        obtain ⟨g1, g2⟩ := glob_ok hg
        have gl : Gl X x := by show X.env.scope.names.lookup x = _; rw [O.hs]; exact g1
        split at h
        · rename_i k hk
          cases h
          obtain ⟨S, e1, rfl⟩ := sg_at hk
          obtain ⟨fd, as, hm, _⟩ := O.fnm k S e1
          exact d_con (pe_glob gl hm (show RelV (.ref (g.fa k)) _ from rfl) g2) (.fn k)
        · split at h
          · rename_i d hd
            cases h
            obtain ⟨u, v, hm, r, rd⟩ := O.glm x d (lookup_mem hd)
            exact d_con (pe_glob gl hm r g2) rd
          · obtain ⟨ty, h1, rfl⟩ := Option.map_eq_some_iff.mp h
            obtain ⟨q1, q2, q3, q4⟩ := tyTab_ok _ (lookup_mem h1)
            exact d_con (pe_bltn gl (O.blt x q2) q1 (show RelV (.ty ty) _ from rfl) q3 q4) (.ty ty)
      · cases h
  | Constant v j pos =>
    cases v with
    | int i => cases h; exact d_con pe_int (.int i)
    | str i => cases h; exact d_con pe_str (.str i)
    | bool i => cases h; exact d_con pe_bl (.bl i)
    | none => cases h; exact d_con pe_non .non
    | _ => cases h
  | BinOp a op b pos =>
    replace h : (match cE n c a, cE n c b with
      | some ta, some tb => some (.bin op ta tb)
      | _, _ => none) = some t := h
    split at h
    · rename_i ta tb h1 h2
      cases h
      exact d_bin O (A.E h1 O) (A.E h2 O)
    · cases h
  | UnaryOp op a pos =>
    cases op with
    | USub =>
      obtain ⟨ta, h1, rfl⟩ := Option.map_eq_some_iff.mp (show (cE n c a).map .neg = some t from h)
      exact d_neg (A.E h1 O)
    | Not =>
      obtain ⟨ta, h1, rfl⟩ := Option.map_eq_some_iff.mp (show (cE n c a).map .nt = some t from h)
      exact d_nt O (A.E h1 O)
    | _ => cases h
  | BoolOp op vs pos =>
    match vs, h with
    | [], h => cases op <;> cases h
    | [a], h =>
      have h : cE n c a = some t := by cases op <;> exact h
      exact pe_one (A.E h O)
    | a :: b :: r, h =>
      cases op with
      | And =>
        replace h : (match cE n c a, cE n c (.BoolOp .And (b :: r) pos) with
          | some ta, some tb => some (.and ta tb)
          | _, _ => none) = some t := h
        split at h
        · rename_i ta tb h1 h2
          cases h
          exact d_and O (A.E h1 O) (A.E h2 O)
        · cases h
      | Or =>
        replace h : (match cE n c a, cE n c (.BoolOp .Or (b :: r) pos) with
          | some ta, some tb => some (.or ta tb)
          | _, _ => none) = some t := h
        split at h
        · rename_i ta tb h1 h2
          cases h
          exact d_or O (A.E h1 O) (A.E h2 O)
        · cases h
  | IfExp e a b pos =>
    replace h : (match cT n c e, cE n c a, cE n c b with
      | some tt, some ta, some tb => some (.ite tt ta tb)
      | _, _, _ => none) = some t := h
    split at h
    · rename_i tt ta tb h1 h2 h3
      cases h
      exact d_ite (c := c) (A.T h1 O) (A.E h2 O) (A.E h3 O)
    · cases h
  | Compare a ops cs pos =>
    match ops, cs, h with
    | [op], [b], h =>
      replace h : (if behindInMarks op b then none else match inN op with
        | some nn => memT nn (slotE c b) (cE n c a) (cE n c b)
        | none => match cE n c a, cE n c b with
          | some ta, some tb => some (.cmp op ta tb)
          | _, _ => none) = some t := h
      split at h
      · cases h
      · rename_i hm
        split at h
        · rename_i nn hop
          cases inN_ok hop
          rcases memT_ok h with ⟨i, u, h1, h2, rfl⟩ | ⟨u, v, h1, h2, nv, rfl⟩
          · cases b with
            | Name x px => exact d_memV O (A.E h2 O) (nameV O h1) (by simpa using hm)
            | _ => cases h1
          · exact d_mem O (A.E h1 O) (A.E h2 O) (isVar_no nv) (by simpa using hm)
        · split at h
          · rename_i ta tb h1 h2
            cases h
            exact d_cmp O (A.E h1 O) (A.E h2 O) (by simpa using hm)
          · cases h
    | [op, op'], [b, e], h =>
      replace h : (if behindInMarks op' e then none else match cE n c a, cE n c b, cE n c e with
        | some ta, some tb, some tc => some (.chain op op' ta tb tc)
        | _, _, _ => none) = some t := h
      split at h
      · cases h
      · rename_i hm
        split at h
        · rename_i ta tb tc h1 h2 h3
          cases h
          exact d_chain O (A.E h1 O) (A.E h2 O) (A.E h3 O) (by simpa using hm)
        · cases h
    | [], _, h => cases h
    | [_], [], h => cases h
    | [_], _ :: _ :: _, h => cases h
    | [_, _], [], h => cases h
    | [_, _], [_], h => cases h
    | [_, _], _ :: _ :: _ :: _, h => cases h
    | _ :: _ :: _ :: _, _, h => cases h
  | Subscript a b pos =>
    have gen : ∀ {t : T}, noSlice b = true → (match cE n c a, cE n c b with
        | some ta, some tb => if isVar ta then none else some (.idx ta tb)
        | _, _ => none) = some t → PE X (.Subscript a b pos) (rdE g W Φ t) := fun {t} nb h => by
      split at h
      · rename_i ta tb h1 h2
        split at h
        · cases h
        · rename_i nv
          cases h
          exact d_idx O (A.E h1 O) (A.E h2 O) (sub_plain nb) (isVar_no nv)
      · cases h
    by_cases nb : noSlice b = true
    · by_cases ha : ∃ x p, a = .Name x p
      · obtain ⟨x, p, rfl⟩ := ha
        replace h : (match slotOf c x with
          | some i => (cE n c b).map (.idx (.var i))
          | none => match cE n c (.Name x p), cE n c b with
            | some ta, some tb => if isVar ta then none else some (.idx ta tb)
            | _, _ => none) = some t := by
          cases b <;> first
            | (cases nb; done)
            | exact h
        split at h
        · rename_i i hi
          obtain ⟨tb, h1, rfl⟩ := Option.map_eq_some_iff.mp h
          exact d_idxV O (nameV O hi) (A.E h1 O) (sub_plain nb)
        · exact gen nb h
      · refine gen nb ?_
        cases b <;> first
          | (cases nb; done)
          | (cases a <;> first
              | exact absurd ⟨_, _, rfl⟩ ha
              | exact h)
    · cases b with
      | Slice lo hi st p2 =>
        cases st with
        | none =>
          replace h : (match cE n c a, cP n c lo, cP n c hi with
            | some te, some tl, some th => some (.slc te tl th)
            | _, _, _ => none) = some t := by cases a <;> exact h
          split at h
          · rename_i te tl th h1 h2 h3
            cases h
            exact d_slc O (A.E h1 O) (A.P h2 O) (A.P h3 O)
          · cases h
        | some st =>
          replace h : (if lo.isNone && hi.isNone && isM1 st then (cE n c a).map .sl1 else none) = some t := by cases a <;> exact h
          split at h
          · rename_i hc
            rw [Bool.and_eq_true, Bool.and_eq_true] at hc
            obtain ⟨⟨c1, c2⟩, c3⟩ := hc
            obtain rfl : lo = none := by cases lo <;> first | rfl | cases c1
            obtain rfl : hi = none := by cases hi <;> first | rfl | cases c2
            obtain ⟨k, p1, p2, rfl⟩ := isM1_ok c3
            obtain ⟨te, h1, rfl⟩ := Option.map_eq_some_iff.mp h
            exact d_rev O (A.E h1 O)
          · cases h
      | _ => exact absurd rfl nb
  | Tuple es k pos =>
    obtain ⟨ts, h1, rfl⟩ := Option.map_eq_some_iff.mp (show (cL n c es).map .tup = some t from h)
    exact d_tup (A.L h1 O)
  | List es pos =>
    obtain ⟨ts, h1, rfl⟩ := Option.map_eq_some_iff.mp (show (cL n c es).map .lst = some t from h)
    exact d_lst (A.L h1 O)
  | Call f es kws pos =>
    cases f with
    | Name x p =>
      cases kws with
      | nil => exact call_name A h O
      | cons k ks => exact call_kw A h O
    | Attribute o m pa =>
      cases o with
      | Name x px =>
        match es, kws with
        | [], [] =>
          replace h : (if decide (m = ("pop" : Str)) && (pa.endLine == pos.line) then (slotOf c x).map (T.popE · .nil) else none) = some t := h
          split at h
          · rename_i hc
            rw [Bool.and_eq_true, decide_eq_true_eq] at hc
            obtain ⟨rfl, c2⟩ := hc
            obtain ⟨i, h1, rfl⟩ := Option.map_eq_some_iff.mp h
            exact d_popL (nameV O h1) c2
          · cases h
        | [e], [] =>
          replace h : (if decide (m = ("pop" : Str)) && noStar e && (pa.endLine == pos.line) then (match slotOf c x, cE n c e with
            | some i, some t => if isNil t then none else some (T.popE i t)
            | _, _ => none) else none) = some t := h
          split at h
          · rename_i hc
            rw [Bool.and_eq_true, Bool.and_eq_true, decide_eq_true_eq] at hc
            obtain ⟨⟨rfl, c1⟩, c2⟩ := hc
            split at h
            · rename_i i t' h1 h2
              split at h
              · cases h
              · rename_i nn
                cases h
                exact d_popE (nameV O h1) (A.E h2 O) c1 c2 fun z => by rw [z] at nn; exact nn rfl
            · cases h
          · cases h
        | [], _ :: _ => cases h
        | _ :: _ :: _, _ => cases h
        | [_], _ :: _ => cases h
      | _ => cases h
    | _ => cases h
  | ListComp elt gens scope pos =>
    match gens, h with
    | [⟨tg, iter, ifs, k⟩], h =>
      by_cases hk : k = 0
      · subst hk
        obtain ⟨own, p, it, tc, e, gr, tt, rfl, q1, q2, q3, q4, q5, q6, q7, q8⟩ := (A.C (show cC n c elt tg iter ifs scope = some t from h) O).ex
        exact d_comp O q1 q2 q3 q4 q5 q6 q7 q8
      · exfalso
        match k, hk, h with
        | .ofNat 0, hk, _ => exact hk rfl
        | .ofNat (m + 1), _, h => cases h
        | .negSucc m, _, h => cases h
    | [], h => cases h
    | ⟨_, _, _, k⟩ :: _ :: _, h =>
      exfalso
      match k, h with
      | .ofNat 0, h => cases h
      | .ofNat (m + 1), h => cases h
      | .negSucc m, h => cases h
  | _ => cases h
theorem all_ok : ∀ n, AllOk g Φ kk n
  | 0 => ⟨(fun h => by cases h), (fun h => by cases h), (fun h => by cases h), (fun h => by cases h), (fun h => by cases h), (fun h => by cases h), (fun h => by cases h), (fun h => by cases h), (fun h => by cases h)⟩
  | n + 1 => ⟨fun h => stepE (all_ok n) h, fun h => stepC' (all_ok n) h, fun h => stepT (all_ok n) h, fun h => stepB (all_ok n) h, fun h => stepP (all_ok n) h, fun h => stepL (all_ok n) h, fun h => stepK (all_ok n) h, fun h => stepA (all_ok n) h, fun h => stepI (all_ok n) h⟩
end
end MI

set_option Elab.async false
set_option linter.all false
set_option maxRecDepth 100000
set_option maxHeartbeats 4000000
/-! Statements: from the text to trees, and that the trees are right. -/
namespace MI
open PySem PySem.Spec PyProof.Rows L2

/-- is the value stored straight into the name (a comprehension on the name's line)? -/
def swB (sc : Scope) (x : Str) (px : Pos) : Expr → Bool
  | .ListComp elt gs s p => sc.names.lookup x == some .local && px.line == (Expr.ListComp elt gs s p).pos.line && !(s.names.any fun (n, k) => n == x && (k == .local || k == .cell))
  | _ => false
def lcOrPlain : Expr → Bool
  | .SetComp _ _ _ _ => false
  | .DictComp _ _ _ _ _ => false
  | _ => true
mutual
/-- a target -/
def cG : Nat → Cc → Expr → Option T
  | 0, _, _ => none
  | n + 1, c, .Name x _ => (locOf c x).map .var
  | n + 1, c, .Subscript (.Name x _) b _ => if noSlice b then (match slotOf c x, cE n c b with
    | some i, some tb => some (.idx (.var i) tb)
    | _, _ => none) else none
  | n + 1, c, .Tuple es _ _ => (cGs n c es).map .tup
  | _, _, _ => none
termination_by structural n => n
def cGs : Nat → Cc → List Expr → Option T
  | 0, _, _ => none
  | n + 1, c, [] => some .nil
  | n + 1, c, e :: es => if noStar e then (match cG n c e, cGs n c es with
    | some t, some ts => some (.cons t ts)
    | _, _ => none) else none
termination_by structural n => n
end
def isVarT : T → Bool
  | .var _ => true
  | _ => false
def isLocal (sc : Scope) (x : Str) : Bool := match sc.names.lookup x with | some .local => true | _ => false
/-- names and their slots, one by one -/
def namesB (c : Cc) : List Expr → Option (List Nat)
  | [] => some []
  | .Name x _ :: es => match locOf c x, namesB c es with
    | some i, some is => some (i :: is)
    | _, _ => none
  | _ => none
def isTup : Expr → Bool
  | .Tuple _ _ _ => true
  | _ => false
def isNameE : Expr → Bool
  | .Name _ _ => true
  | _ => false
def seqT (r : List Stmt) (a u : T) : T := match r with
  | [] => a
  | _ :: _ => .seq a u
/-- an assignment -/
def cAs (n : Nat) (c : Cc) (tg e : Expr) : Option T := match tg, e with
  | .Name x px, .ListComp elt gs scope p => if swB c.sc x px (.ListComp elt gs scope p) then (match locOf c x, gs with
      | some i, [⟨tg, iter, ifs, k⟩] => if decide (k = 0) && isLocal c.sc x then (cC n c elt tg iter ifs scope).map (.asg (.var i)) else none
      | _, _ => none)
    else (match locOf c x, cE n c (.ListComp elt gs scope p) with
      | some i, some t => some (.asg (.var i) t)
      | _, _ => none)
  | .Name x px, e => if noComp e then (match locOf c x, cE n c e with
      | some i, some t => some (.asg (.var i) t)
      | _, _ => none) else none
  | .Tuple es k p, .Tuple vs k2 p2 => (match cL n c vs, namesB c es, swK c.sc es vs with
      | some ts, some is, some none => if decide (is.length ≤ 1000) && vs.all noStar then some (.par is ts) else none
      | some ts, some [i, j], some (some [x, y]) => (match es with
        | [.Name x' _, .Name y' _] => if decide (x' = x) && decide (y' = y) && decide (i ≠ j) && isLocal c.sc x && isLocal c.sc y && vs.all noStar && decide (vs.length = 2) then some (.par [i, j] ts) else none
        | _ => none)
      | some ts, some [i, j, l], some (some [x, y, z]) => (match es with
        | [.Name x' _, .Name y' _, .Name z' _] => if decide (x' = x) && decide (y' = y) && decide (z' = z) && decide (i ≠ j) && decide (i ≠ l) && decide (j ≠ l) && isLocal c.sc x && isLocal c.sc y && isLocal c.sc z && vs.all noStar && decide (vs.length = 3) then some (.par [i, j, l] ts) else none
        | _ => none)
      | _, _, _ => none)
  | tg, e => if isNameE tg then none else if isTup tg && isTup e then none else (match cG n c tg, cE n c e with
      | some p, some t => if isVarT p then none else some (.asg p t)
      | _, _ => none)
def augT (op : Operator) (i : Option Nat) (t : Option T) : Option T := match op, i, t with
  | .Add, some i, some t => some (.aug i .Add t)
  | .Sub, some i, some t => some (.aug i .Sub t)
  | _, _, _ => none
theorem augT_ok {op : Operator} {si : Option Nat} {ta : Option T} {t : T} (h : augT op si ta = some t) : (∃ i u, op = .Add ∧ si = some i ∧ ta = some u ∧ t = .aug i .Add u) ∨ ∃ i u, op = .Sub ∧ si = some i ∧ ta = some u ∧ t = .aug i .Sub u := by
  unfold augT at h
  split at h
  · cases h; exact .inl ⟨_, _, rfl, rfl, rfl, rfl⟩
  · cases h; exact .inr ⟨_, _, rfl, rfl, rfl, rfl⟩
  · cases h
def augsT (op : Operator) (i : Option Nat) (b t : Option T) : Option T := match op, i, b, t with
  | .Add, some i, some b, some t => some (.augs i b .Add t)
  | .Sub, some i, some b, some t => some (.augs i b .Sub t)
  | _, _, _, _ => none
theorem augsT_ok {op : Operator} {si : Option Nat} {tb ta : Option T} {t : T} (h : augsT op si tb ta = some t) : (∃ i v u, op = .Add ∧ si = some i ∧ tb = some v ∧ ta = some u ∧ t = .augs i v .Add u) ∨ ∃ i v u, op = .Sub ∧ si = some i ∧ tb = some v ∧ ta = some u ∧ t = .augs i v .Sub u := by
  unfold augsT at h
  split at h
  · cases h; exact .inl ⟨_, _, _, rfl, rfl, rfl, rfl, rfl⟩
  · cases h; exact .inr ⟨_, _, _, rfl, rfl, rfl, rfl, rfl⟩
  · cases h
mutual
def cS : Nat → Cc → Stmt → Option T
  | 0, _, _ => none
  | n + 1, c, .Return (some e) _ => (cE n c e).map .ret
  | n + 1, c, .Return none _ => some .retN
  | n + 1, c, .Pass _ => some .pass
  | n + 1, c, .Break _ => some .brk
  | n + 1, c, .Continue _ => some .cont
  | n + 1, c, .Expr (.Call (.Attribute (.Name x _) m pa) [e] [] pos) _ => if decide (m = ("append" : Str)) && noStar e && (pa.endLine == pos.line) then (match slotOf c x, cE n c e with
    | some i, some t => some (.app i t)
    | _, _ => none) else if decide (m = ("extend" : Str)) && noStar e && (pa.endLine == pos.line) then (match slotOf c x, cE n c e with
    | some i, some t => some (.ext i t)
    | _, _ => none) else none
  | n + 1, c, .Expr (.Call (.Attribute (.Name x _) m pa) [] [] pos) _ => if decide (m = ("pop" : Str)) && (pa.endLine == pos.line) then (slotOf c x).map .pop else none
  | n + 1, c, .Expr e _ => if noComp e then (cE n c e).map .ex else none
  | n + 1, c, .If e a b _ => match cT n c e, cSs n c a, cSs n c b with
    | some t, some ta, some tb => some (.iff t ta tb)
    | _, _, _ => none
  | n + 1, c, .Assign [tg] e _ => cAs n c tg e
  | n + 1, c, .AugAssign (.Name x _) op e _ => augT op (locOf c x) (cE n c e)
  | n + 1, c, .AugAssign (.Subscript (.Name x _) b _) op e _ => if noSlice b then augsT op (slotOf c x) (cE n c b) (cE n c e) else none
  | n + 1, c, .While e b [] _ => match cT n c e, cSs n c b with
    | some t, some tb => some (.whl t tb)
    | _, _ => none
  | n + 1, c, .For tg it b [] _ => if noSet it then (match cG n c tg, cI n c (isTupE tg) it, cSs n c b with
    | some p, some ti, some tb => some (.for p ti tb)
    | _, _, _ => none) else none
  | _, _, _ => none
termination_by structural n => n
/-- a statement that the trees do not cover ends the run with no answer -/
def cSs : Nat → Cc → List Stmt → Option T
  | 0, _, _ => none
  | n + 1, c, [] => some .pass
  | n + 1, c, st :: r => match cSs n c r with
    | some u => some (seqT r ((cS n c st).getD .nil) u)
    | none => none
termination_by structural n => n
end

section
variable {g : G} {Φ : Call} {kk : Nat} {n : Nat}
theorem s_never {W : WXX} {X : Cx} {st : Stmt} : PS X st (rdS g W Φ .nil) := ⟨fun pins s σ H D I ⟨Z, s', _, h⟩ => (show False from h).elim⟩
theorem locS_ok {c : Cc} {x : Str} {i : Nat} (h : locOf c x = some i) : c.N[i]? = some x ∧ L2.Loc c.sc x := by
  unfold locOf at h
  split at h
  · rename_i v
    obtain ⟨j, e1, e2⟩ := ixOf_ok h
    have : i = j := by omega
    subst this
    exact ⟨e2, loc_ok v⟩
  · cases h
theorem isLocal_ok {sc : Scope} {x : Str} (h : isLocal sc x = true) : sc.names.lookup x = some .local := by
  unfold isLocal at h
  split at h
  · assumption
  · cases h
theorem each_ns {e : Expr} (ns : noStar e = true) (es : List Expr) (env : Env) : assignEach (e :: es) env = (false, assign e env) :: assignEach es env := by
  cases e <;> first | rfl | cases ns
structure TgOk (g : G) (Φ : Call) (kk n : Nat) : Prop where
  G : ∀ {c e t}, cG n c e = some t → ∀ {W X}, OkX g c W Φ kk X → (∀ x, X.fn x = true) → PG X e (rdG g W Φ t)
  Gs : ∀ {c e t}, cGs n c e = some t → ∀ {W X}, OkX g c W Φ kk X → (∀ x, X.fn x = true) → PGs X e (rdGs g W Φ t) ∧ (∀ env, (assignEach e env).findIdx? (·.1) = none ∧ (assignEach e env).length = e.length) ∧ plainLen t = some e.length
theorem tg_ok : ∀ n, TgOk g Φ kk n
  | 0 => ⟨(fun h => by cases h), (fun h => by cases h)⟩
  | n + 1 => by
    have A : TgOk g Φ kk n := tg_ok n
    constructor
    · intro c e t h W X O hf
      cases e with
      | Name x p =>
        obtain ⟨i, h1, rfl⟩ := Option.map_eq_some_iff.mp (show (locOf c x).map .var = some t from h)
        obtain ⟨h2, h3⟩ := locS_ok h1
        exact g_var O h2 h3 (.inl (hf x))
      | Subscript a b pos =>
        cases a with
        | Name x px =>
          replace h : (if noSlice b then (match slotOf c x, cE n c b with
            | some i, some tb => some (.idx (.var i) tb)
            | _, _ => none) else none) = some t := h
          split at h
          · rename_i nb
            split at h
            · rename_i i tb h1 h2
              cases h
              exact g_sub O (nameV O h1) ((all_ok n).E h2 O) nb
            · cases h
          · cases h
        | _ => cases h
      | Tuple es k pos =>
        obtain ⟨ts, h1, rfl⟩ := Option.map_eq_some_iff.mp (show (cGs n c es).map .tup = some t from h)
        obtain ⟨q1, q2, q3⟩ := A.Gs h1 O hf
        exact g_tup O q1 (q2 _).1 (q2 _).2 q3
      | _ => cases h
    · intro c e t h W X O hf
      cases e with
      | nil =>
        cases h
        exact ⟨gs_nil, fun _ => ⟨rfl, rfl⟩, rfl⟩
      | cons e es =>
        replace h : (if noStar e then (match cG n c e, cGs n c es with
          | some t, some ts => some (.cons t ts)
          | _, _ => none) else none) = some t := h
        split at h
        · rename_i ns
          split at h
          · rename_i t1 ts h1 h2
            cases h
            obtain ⟨q1, q2, q3⟩ := A.Gs h2 O hf
            refine ⟨gs_cons (A.G h1 O hf) q1 (by rw [each_ns ns]; rfl), fun env => ?_, ?_⟩
            · rw [each_ns ns]
              obtain ⟨e1, e2⟩ := q2 env
              refine ⟨?_, by simp [e2]⟩
              rw [List.findIdx?_cons]
              simp [e1]
            · show (plainLen ts).map (· + 1) = _
              rw [q3]
              rfl
          · cases h
        · cases h
theorem namesB_ok {c : Cc} : ∀ {es : List Expr} {is : List Nat}, namesB c es = some is → isNames c es is ∧ is.length = es.length
  | [], is, h => by cases h; exact ⟨trivial, rfl⟩
  | .Name x p :: es, is, h => by
    replace h : (match locOf c x, namesB c es with
      | some i, some is => some (i :: is)
      | _, _ => none) = some is := h
    split at h
    · rename_i i is' h1 h2
      cases h
      obtain ⟨a, b⟩ := namesB_ok h2
      obtain ⟨q1, q2⟩ := locS_ok h1
      exact ⟨⟨q1, q2, a⟩, by simp [b]⟩
    · cases h
theorem v_all {c : Cc} {W : WXX} {X : Cx} (O : OkX g c W Φ kk X) : ∀ {n : Nat} {es : List Expr} {ts : T}, es.all noStar = true → cL n c es = some ts → PA X es (rdV' g W Φ ts)
  | 0, _, _, _, h => by cases h
  | n + 1, [], ts, _, h => by cases h; exact v_nil
  | n + 1, e :: es, ts, hns, h => by
    rw [List.all_cons, Bool.and_eq_true] at hns
    replace h : (if noStar e then (match cE n c e, cL n c es with
      | some t, some ts => some (.cons t ts)
      | _, _ => none) else none) = some ts := by
      cases e <;> first | exact h | cases hns.1
    split at h
    · rename_i ns
      split at h
      · rename_i t1 t2 h1 h2
        cases h
        exact v_cons ((all_ok n).E h1 O) (v_all O hns.2 h2) ns
      · cases h
    · cases h
theorem sw_no {e : Expr} (h : noComp e = true) (tg : Option Expr) (l : Nat) (env : Env) : swapsWith e tg l env = pure false := by
  cases e <;> first | rfl | cases h
theorem sw_noN {e tg : Expr} (hn : isNameE tg = false) (l : Nat) (env : Env) : swapsWithSole [tg] e l env = pure false := by
  cases tg <;> first | (cases hn; done) | (cases e <;> rfl)
theorem sws_no {e tg : Expr} (hn : (isTup tg && isTup e) = false) (env : Env) (hs : ∀ es p, tg ≠ .List es p) : swappedStores [tg] e env = pure none := by
  cases tg <;> first
    | exact absurd rfl (hs _ _)
    | (cases e <;> first | rfl | cases hn)
theorem sw_lc {c : Cc} {W : WXX} {X : Cx} (O : OkX g c W Φ kk X) (hk : c.sc.kind = .function) {elt : Expr} {gs : List Comprehension} {s : Scope} {p px : Pos} {x : Str} {l : Nat} : swapsWith (.ListComp elt gs s p) (some (.Name x px)) l X.env = pure (swB c.sc x px (.ListComp elt gs s p)) := by
  have bk : (X.env.blockKind == ScopeKind.function) = true := by
    unfold Env.blockKind
    rw [O.hs, hk]
    rfl
  have kd : X.env.kindOf x = c.sc.names.lookup x := by
    show X.env.scope.names.lookup x = _
    rw [O.hs]
  show pure (X.env.blockKind == .function && X.env.kindOf x == some .local && px.line == (Expr.ListComp elt gs s p).pos.line && !(s.names.any fun (n, k) => n == x && (k == .local || k == .cell))) = _
  rw [bk, kd]
  rfl
theorem asg_name {c : Cc} {W : WXX} {X : Cx} {x : Str} {px pos : Pos} {e : Expr} {t : T} (O : OkX g c W Φ kk X) (hf : ∀ x, X.fn x = true) (hs : swapsWith e (some (.Name x px)) pos.line X.env = pure false) (h : (match locOf c x, cE n c e with
      | some i, some t => some (.asg (.var i) t)
      | _, _ => none) = some t) : PS X (.Assign [.Name x px] e pos) (rdS g W Φ t) := by
  split at h
  · rename_i i t' h1 h2
    cases h
    obtain ⟨q1, q2⟩ := locS_ok h1
    exact s_asg O q1 q2 (.inl (hf x)) ((all_ok n).E h2 O) hs
  · cases h
theorem asg_ok {c : Cc} {W : WXX} {X : Cx} {tg e : Expr} {t : T} {pos : Pos} (h : cAs n c tg e = some t) (O : OkX g c W Φ kk X) (hf : ∀ x, X.fn x = true) (hk : c.sc.kind = .function) : PS X (.Assign [tg] e pos) (rdS g W Φ t) := by
  have gen : ∀ {t : T}, (if isNameE tg then none else if isTup tg && isTup e then none else (match cG n c tg, cE n c e with
      | some p, some t => if isVarT p then none else some (.asg p t)
      | _, _ => none)) = some t → PS X (.Assign [tg] e pos) (rdS g W Φ t) := fun {t} h => by
    split at h
    · cases h
    · rename_i nn
      split at h
      · cases h
      · rename_i nt
        split at h
        · rename_i p t' h1 h2
          split at h
          · cases h
          · rename_i nv
            cases h
            refine s_asgP ((tg_ok n).G h1 O hf) ((all_ok n).E h2 O) (fun i e => nv (by rw [e]; rfl)) (sw_noN (by simpa using nn) _ _) (sws_no (by simpa using nt) _ fun es p e => ?_) ?_
            · subst e
              cases n <;> cases h1
            · cases n with
              | zero => cases h1
              | succ n =>
                cases tg <;> first | rfl | cases h1
        · cases h
  unfold cAs at h
  split at h
  · rename_i x px elt gs scope p
    split at h
    · rename_i sw
      split at h
      · rename_i i tg iter ifs k h1
        split at h
        · rename_i hc
          simp only [Bool.and_eq_true, decide_eq_true_eq] at hc
          obtain ⟨rfl, hl⟩ := hc
          obtain ⟨t', h2, rfl⟩ := Option.map_eq_some_iff.mp h
          obtain ⟨own, p', it, tc, e, gr, tt, rfl, q1, q2, q3, q4, q5, q6, q7, q8⟩ := ((all_ok n).C h2 O).ex
          obtain ⟨l1, l2⟩ := locS_ok h1
          exact s_asgC O l1 (isLocal_ok hl) (by rw [sw_lc O hk, sw]) q1 q2 q3 q4 q5 q6 q7 q8
        · cases h
      · cases h
    · rename_i sw
      exact asg_name O hf (by rw [sw_lc O hk]; simp at sw; rw [sw]) h
  · rename_i x px e _
    split at h
    · rename_i nc
      exact asg_name O hf (sw_no nc _ _ _) h
    · cases h
  · rename_i es k p vs k2 p2
    split at h
    · rename_i ts is h1 h2 h3
      split at h
      · rename_i hc
        simp only [Bool.and_eq_true, decide_eq_true_eq] at hc
        cases h
        exact s_parT O hf (namesB_ok h2).1 (v_all O hc.2 h1) hk h3 hc.1
      · cases h
    · rename_i ts i j x y h1 h2 h3
      split at h
      · rename_i x' px y' py
        split at h
        · rename_i hc
          simp only [Bool.and_eq_true, decide_eq_true_eq] at hc
          obtain ⟨⟨⟨⟨⟨⟨rfl, rfl⟩, c1⟩, c2⟩, c3⟩, c4⟩, c5⟩ := hc
          cases h
          obtain ⟨⟨m1, _, m2, _, _⟩, _⟩ := namesB_ok h2
          obtain ⟨a, b, rfl⟩ : ∃ a b, vs = [a, b] := by
            match vs, c5 with
            | [a, b], _ => exact ⟨a, b, rfl⟩
          exact s_par2 O m1 m2 c1 (isLocal_ok c2) (isLocal_ok c3) (v_all O c4 h1) hk h3
        · cases h
      · cases h
    · rename_i ts i j l x y z h1 h2 h3
      split at h
      · rename_i x' px y' py z' pz
        split at h
        · rename_i hc
          simp only [Bool.and_eq_true, decide_eq_true_eq] at hc
          obtain ⟨⟨⟨⟨⟨⟨⟨⟨⟨⟨rfl, rfl⟩, rfl⟩, c1⟩, c2⟩, c3⟩, c4⟩, c5⟩, c6⟩, c7⟩, c8⟩ := hc
          cases h
          obtain ⟨⟨m1, _, m2, _, m3, _, _⟩, _⟩ := namesB_ok h2
          obtain ⟨a, b, d, rfl⟩ : ∃ a b d, vs = [a, b, d] := by
            match vs, c8 with
            | [a, b, d], _ => exact ⟨a, b, d, rfl⟩
          exact s_par3 O m1 m2 m3 c1 c2 c3 (isLocal_ok c4) (isLocal_ok c5) (isLocal_ok c6) (v_all O c7 h1) hk h3
        · cases h
      · cases h
    · cases h
  · exact gen h
structure StOk (g : G) (Φ : Call) (kk n : Nat) : Prop where
  S : ∀ {c st t}, cS n c st = some t → ∀ {W X}, OkX g c W Φ kk X → (∀ x, X.fn x = true) → c.sc.kind = .function → PS X st (rdS g W Φ t)
  Ss : ∀ {c st t}, cSs n c st = some t → ∀ {W X}, OkX g c W Φ kk X → (∀ x, X.fn x = true) → c.sc.kind = .function → PSs X st (rdS g W Φ t)
theorem st_ok : ∀ n, StOk g Φ kk n
  | 0 => ⟨(fun h => by cases h), (fun h => by cases h)⟩
  | n + 1 => by
    have A : StOk g Φ kk n := st_ok n
    have B : AllOk g Φ kk n := all_ok n
    constructor
    · intro c st t h W X O hf hk
      cases st with
      | Return e pos =>
        cases e with
        | none => cases h; exact s_retN
        | some e =>
          obtain ⟨t', h1, rfl⟩ := Option.map_eq_some_iff.mp (show (cE n c e).map .ret = some t from h)
          exact s_ret (B.E h1 O)
      | Pass pos => cases h; exact s_pass
      | Break pos => cases h; exact s_brk
      | Continue pos => cases h; exact s_cont
      | Expr e pos =>
        have gen : ∀ {t : T}, (if noComp e then (cE n c e).map .ex else none) = some t → PS X (.Expr e pos) (rdS g W Φ t) := fun {t} h => by
          split at h
          · rename_i nc
            obtain ⟨t', h1, rfl⟩ := Option.map_eq_some_iff.mp h
            exact s_ex (B.E h1 O) (sw_no nc _ _ _)
          · cases h
        by_cases hc : ∃ x px m pa e' p, e = .Call (.Attribute (.Name x px) m pa) [e'] [] p
        · obtain ⟨x, px, m, pa, e', p, rfl⟩ := hc
          replace h : (if decide (m = ("append" : Str)) && noStar e' && (pa.endLine == p.line) then (match slotOf c x, cE n c e' with
            | some i, some t => some (.app i t)
            | _, _ => none) else if decide (m = ("extend" : Str)) && noStar e' && (pa.endLine == p.line) then (match slotOf c x, cE n c e' with
            | some i, some t => some (.ext i t)
            | _, _ => none) else none) = some t := h
          split at h
          · rename_i hc
            simp only [Bool.and_eq_true, decide_eq_true_eq] at hc
            obtain ⟨⟨rfl, c1⟩, c2⟩ := hc
            split at h
            · rename_i i t' h1 h2
              cases h
              exact s_app (nameV O h1) (B.E h2 O) c1 c2
            · cases h
          · split at h
            · rename_i hc
              rw [Bool.and_eq_true, Bool.and_eq_true, decide_eq_true_eq] at hc
              obtain ⟨⟨rfl, c1⟩, c2⟩ := hc
              split at h
              · rename_i i t' h1 h2
                cases h
                exact s_ext O (nameV O h1) (B.E h2 O) c1 c2
              · cases h
            · cases h
        · by_cases hp : ∃ x px m pa p, e = .Call (.Attribute (.Name x px) m pa) [] [] p
          · obtain ⟨x, px, m, pa, p, rfl⟩ := hp
            replace h : (if decide (m = ("pop" : Str)) && (pa.endLine == p.line) then (slotOf c x).map .pop else none) = some t := h
            split at h
            · rename_i hc
              simp only [Bool.and_eq_true, decide_eq_true_eq] at hc
              obtain ⟨rfl, c2⟩ := hc
              obtain ⟨i, h1, rfl⟩ := Option.map_eq_some_iff.mp h
              exact s_pop (nameV O h1) (by simpa using c2)
            · cases h
          refine gen (Eq.trans ?_ h)
          cases e with
          | Call f es kws p =>
            cases f with
            | Attribute o m pa =>
              cases o with
              | Name x px =>
                match es, kws with
                | [e'], [] => exact absurd ⟨_, _, _, _, _, _, rfl⟩ hc
                | [], [] => exact absurd ⟨_, _, _, _, _, rfl⟩ hp
                | [], _ :: _ => rfl
                | _ :: _ :: _, _ => rfl
                | [_], _ :: _ => rfl
              | _ => rfl
            | _ => rfl
          | _ => rfl
      | If e a b pos =>
        replace h : (match cT n c e, cSs n c a, cSs n c b with
          | some t, some ta, some tb => some (.iff t ta tb)
          | _, _, _ => none) = some t := h
        split at h
        · rename_i t' ta tb h1 h2 h3
          cases h
          exact s_if (B.T h1 O) (A.Ss h2 O hf hk) (A.Ss h3 O hf hk)
        · cases h
      | Assign tgs e pos =>
        match tgs, h with
        | [tg], h => exact asg_ok (show cAs n c tg e = some t from h) O hf hk
        | [], h => cases h
        | _ :: _ :: _, h => cases h
      | AugAssign tg op e pos =>
        cases tg with
        | Name x px =>
          replace h : augT op (locOf c x) (cE n c e) = some t := h
          rcases augT_ok h with ⟨i, u, rfl, h1, h2, rfl⟩ | ⟨i, u, rfl, h1, h2, rfl⟩
          · obtain ⟨q1, q2⟩ := locS_ok h1
            exact s_augA O q1 q2 (.inl (hf x)) (B.E h2 O)
          · obtain ⟨q1, q2⟩ := locS_ok h1
            exact s_augS O q1 q2 (.inl (hf x)) (B.E h2 O)
        | Subscript o b tpos =>
          cases o with
          | Name x px =>
            replace h : (if noSlice b then augsT op (slotOf c x) (cE n c b) (cE n c e) else none) = some t := h
            split at h
            · rename_i nb
              rcases augsT_ok h with ⟨i, v, u, rfl, h1, h2, h3, rfl⟩ | ⟨i, v, u, rfl, h1, h2, h3, rfl⟩
              · refine s_augs (F := fun i j => i + j) O (fun x y r e => ?_) ip_add (nameV O h1) (B.E h2 O) (B.E h3 O) nb
                unfold augD at e
                split at e
                · cases e; exact ⟨_, _, rfl, rfl, rfl⟩
                · contradiction
                · cases e
              · refine s_augs (F := fun i j => i - j) O (fun x y r e => ?_) ip_sub (nameV O h1) (B.E h2 O) (B.E h3 O) nb
                unfold augD at e
                split at e
                · contradiction
                · cases e; exact ⟨_, _, rfl, rfl, rfl⟩
                · cases e
            · cases h
          | _ => cases h
        | _ => cases h
      | While e b el pos =>
        cases el with
        | nil =>
          replace h : (match cT n c e, cSs n c b with
            | some t, some tb => some (.whl t tb)
            | _, _ => none) = some t := h
          split at h
          · rename_i t' tb h1 h2
            cases h
            exact s_while O (B.T h1 O) (A.Ss h2 O hf hk)
          · cases h
        | cons _ _ => cases h
      | For tg it b el pos =>
        cases el with
        | nil =>
          replace h : (if noSet it then (match cG n c tg, cI n c (isTupE tg) it, cSs n c b with
            | some p, some ti, some tb => some (.for p ti tb)
            | _, _, _ => none) else none) = some t := h
          split at h
          · rename_i ns
            split at h
            · rename_i p ti tb h1 h2 h3
              cases h
              exact s_for O (B.I (b := isTupE tg) (c := c) (e := it) (t := ti) (by assumption) id O) ((tg_ok n).G h1 O hf) (A.Ss h3 O hf hk) (fsi ns _)
            · cases h
          · cases h
        | cons _ _ => cases h
      | _ => cases h
    · intro c st t h W X O hf hk
      cases st with
      | nil => cases h; exact s_nil
      | cons st r =>
        have one : PS X st (rdS g W Φ ((cS n c st).getD .nil)) := by
          cases e : cS n c st with
          | none => exact s_never
          | some t => exact A.S e O hf hk
        replace h : (match cSs n c r with
          | some u => some (seqT r ((cS n c st).getD .nil) u)
          | none => none) = some t := h
        split at h
        · rename_i u h1
          cases r with
          | nil => cases h; exact s_one one
          | cons s2 r2 => cases h; exact s_cons one (A.Ss h1 O hf hk)
        · cases h
end
end MI

set_option Elab.async false
set_option linter.all false
set_option maxRecDepth 100000
set_option maxHeartbeats 4000000
/-! Defs: what a def's call gives is what the evaluator gives. -/
namespace MI
open PySem PySem.Spec PyProof.Rows L2

section
variable {g : G}
theorem startS_get {n i : Nat} {args : List Vl} {v : Vl} (h : (startS n args)[i]? = some (some v)) : args[i]? = some v := by
  unfold startS at h
  by_cases hi : i < args.length
  · rw [List.getElem?_append_left (by simpa using hi), List.getElem?_map] at h
    obtain ⟨w, h1, h2⟩ := Option.map_eq_some_iff.mp h
    cases h2
    exact h1
  · rw [List.getElem?_append_right (by simpa using hi), List.getElem?_replicate] at h
    split at h <;> cases h
theorem start_get {N : List Str} {vs : List V} {i : Nat} (hi : i < vs.length) : (L2.start N vs)[i]? = (vs.map some)[i]? := by
  unfold L2.start
  rw [List.getElem?_append_left (by simpa using hi)]
theorem start_sr {Z H : Hp} {args : List Vl} {vs : List V} {N : List Str} (st : Sr g Z (args.map some) (vs.map some) H) (hl : args.length ≤ N.length) : Sr g Z (startS N.length args) (L2.start N vs) H := by
  have len : args.length = vs.length := by simpa using st.len
  have get : ∀ {i : Nat} {v : Vl}, (startS N.length args)[i]? = some (some v) → (args.map some)[i]? = some (some v) ∧ i < vs.length := fun {i v} h => by
    have h1 := startS_get h
    exact ⟨by rw [List.getElem?_map, h1]; rfl, by rw [← len]; exact (List.getElem?_eq_some_iff.mp h1).1⟩
  refine ⟨by simp [startS, L2.start, len], st.sub, fun i v h => ?_, fun i j t u xs ys a e1 e2 e3 e4 => ?_⟩
  · obtain ⟨h1, h2⟩ := get h
    obtain ⟨x, q1, q2⟩ := st.rel i v h1
    exact ⟨x, by rw [start_get h2]; exact q1, q2⟩
  · obtain ⟨h1, h2⟩ := get e1
    obtain ⟨h3, h4⟩ := get e2
    rw [start_get h2] at e3
    rw [start_get h4] at e4
    exact st.inj i j t u xs ys a h1 h3 e3 e4
theorem start_own {args : List Vl} {vs : List V} {N : List Str} (len : args.length = vs.length) {a : Addr} (h : Own (startS N.length args) (L2.start N vs) a) : Own (args.map some) (vs.map some) a := by
  obtain ⟨i, t, xs, h1, h2⟩ := h
  have h3 := startS_get h1
  refine ⟨i, t, xs, by rw [List.getElem?_map, h3]; rfl, ?_⟩
  rw [start_get (by rw [← len]; exact (List.getElem?_eq_some_iff.mp h3).1)] at h2
  exact h2
theorem outs_get {args : List Vl} {s : S} {i : Nat} {v : Vl} (h : (outs args s)[i]? = some (some v)) : ∃ t xs, args[i]? = some (.own t xs) ∧ s[i]? = some (some v) ∧ ((∃ ys, v = .own true ys) ∨ ∃ ys, v = .fz ys) := by
  unfold outs at h
  rw [List.getElem?_map] at h
  obtain ⟨p, h1, h2⟩ := Option.map_eq_some_iff.mp h
  obtain ⟨a, o⟩ := p
  obtain ⟨q1, q2⟩ := List.getElem?_zip_eq_some.mp h1
  dsimp only at h2
  have key : ∀ w, o = some w → s[i]? = some (some w) := fun w e => by
    subst e
    by_cases hi : i < s.length
    · rwa [List.getElem?_append_left hi] at q2
    · rw [List.getElem?_append_right (by omega), List.getElem?_replicate] at q2
      split at q2 <;> cases q2
  split at h2
  · cases h2
    exact ⟨_, _, q1, key _ rfl, .inl ⟨_, rfl⟩⟩
  · cases h2
    exact ⟨_, _, q1, key _ rfl, .inr ⟨_, rfl⟩⟩
  · cases h2
theorem outs_len {args : List Vl} {s : S} : (outs args s).length = args.length := by
  unfold outs
  rw [List.length_map, List.length_zip, List.length_append, List.length_replicate]
  omega
theorem outs_sr {Z H Z' H' : Hp} {args : List Vl} {vs : List V} {N : List Str} {s' : S} {σ' : L2.St} (st : Sr g Z (args.map some) (vs.map some) H) (ks : KS g Z H (startS N.length args) (L2.start N vs) Z' H' s' σ') :
    Sr g Z' (outs args s') (vs.map some) H' ∧ ∀ a, Own (outs args s') (vs.map some) a → Own (args.map some) (vs.map some) a := by
  have len : args.length = vs.length := by simpa using st.len
  have get : ∀ {i : Nat} {v : Vl}, (outs args s')[i]? = some (some v) → ∃ t xs, args[i]? = some (.own t xs) ∧ s'[i]? = some (some v) ∧ σ'[i]? = (vs.map some)[i]? := fun {i v} h => by
    obtain ⟨t, xs, h1, h2, h3⟩ := outs_get h
    have tg : Tg s' i := by
      rcases h3 with ⟨ys, rfl⟩ | ⟨ys, rfl⟩
      · exact ⟨ys, .inl h2⟩
      · exact ⟨ys, .inr h2⟩
    exact ⟨t, xs, h1, h2, (ks.p i tg).2.trans (start_get (by rw [← len]; exact (List.getElem?_eq_some_iff.mp h1).1))⟩
  refine ⟨⟨by rw [outs_len]; simpa using len, ks.st.sub, fun i v h => ?_, fun i j t u xs ys a e1 e2 e3 e4 => ?_⟩, fun a ⟨i, t, xs, e1, e2⟩ => ?_⟩
  · obtain ⟨t, xs, h1, h2, h3⟩ := get h
    obtain ⟨x, q1, q2⟩ := ks.st.rel i v h2
    exact ⟨x, by rw [← h3]; exact q1, q2⟩
  · obtain ⟨_, _, h1, h2, h3⟩ := get e1
    obtain ⟨_, _, h4, h5, h6⟩ := get e2
    exact ks.st.inj i j t u xs ys a h2 h5 (by rw [h3]; exact e3) (by rw [h6]; exact e4)
  · obtain ⟨t', xs', h1, h2, h3⟩ := get e1
    exact ⟨i, t', xs', by rw [List.getElem?_map, h1]; rfl, e2⟩
theorem Keep.own {Z H Z' H' : Hp} {O O' : Addr → Prop} (k : Keep Z H O Z' H') (h : ∀ a, O a → O' a) : Keep Z H O' Z' H' := k.wide h
end

/-- what the evaluator is told of a def -/
structure FnFact (K : PySem.W.Frag) (mg : Str → Option Value) (g : G) (sg : List Sg) (gl : List (Str × D)) (i : Nat) (S : Sg) (f : Fn) : Prop where
  ex : ∃ (name qual : Str) (as : List Arg) (body : List Stmt) (scope : Scope) (kV doc pm cdv ct oc : Value) (an od : Option Addr) (osl : Array (Option Value)) (N : List Str) (fuel : Nat),
    K.lookup (g.fa i) = some ⟨oc, od, .func (PySem.W.fnOf name qual (plainArgs as) body scope .none kV doc pm an cdv ct), osl⟩ ∧ PySem.W.codeIn K cdv qual = true ∧ FnScope N S.ps scope ∧ as.map (·.arg) = S.ps ∧ S.ps.Nodup ∧
      cSs fuel ⟨N, scope, sg, gl, muNames body⟩ body = some f.body ∧ f.np = S.ps.length ∧ f.n = N.length ∧ S.ps.length ≤ N.length
  mg : mg S.name = some (.ref (g.fa i))
  keep : PySem.W.keepIn K (.ref (g.fa i)) = true
structure ModOk (K : PySem.W.Frag) (mg : Str → Option Value) (g : G) (sg : List Sg) (gl : List (Str × D)) (fns : List Fn) : Prop where
  hK : g.K = K
  glm : ∀ x d, (x, d) ∈ gl → ∃ (u : Value) (v : V), mg x = some u ∧ RelV v u ∧ RD g (fun _ => none) d v
  blt : ∀ x ∈ bns, mg x = none
  fn : ∀ i S, sg[i]? = some S → ∃ f, fns[i]? = some f ∧ FnFact K mg g sg gl i S f

section
variable {g : G} {P : Program} {w : World} {K : PySem.W.Frag} {mg : Str → Option Value} {base : Heap} {sg : List Sg} {gl : List (Str × D)} {fns : List Fn}
theorem run_ok (M : ModOk K mg g sg gl fns) : ∀ (d i : Nat) (S : Sg), sg[i]? = some S → ∃ (fd : FuncData) (as : List Arg), fd.params = plainArgs as ∧ as.map (·.arg) = S.ps ∧ fd.defaults = .none ∧ S.ps.Nodup ∧ FnG P w K mg base d (g.fa i) fd S.ps (spF g (run fns d) i) ∧ ∃ oc od osl, K.lookup (g.fa i) = some ⟨oc, od, .func fd, osl⟩
  | 0, i, S, h => by
    obtain ⟨f, _, F⟩ := M.fn i S h
    obtain ⟨name, qual, as, body, scope, kV, doc, pm, cdv, ct, oc, an, od, osl, N, fuel, h1, h2, h3, h4, h5, _⟩ := F.ex
    refine ⟨_, as, (rfl : (PySem.W.fnOf name qual (plainArgs as) body scope .none kV doc pm an cdv ct).params = _), h4, rfl, h5, ⟨fun vs H Q E ⟨Z, args, _, q⟩ => q.elim, fun A o s H a us vs Q E _ _ _ _ _ ⟨Z, args, _, q⟩ => (show False from q).elim⟩, oc, od, osl, h1⟩
  | d + 1, i, S, h => by
    obtain ⟨f, hf, F⟩ := M.fn i S h
    obtain ⟨name, qual, as, body, scope, kV, doc, pm, cdv, ct, oc, an, od, osl, N, fuel, h1, h2, h3, h4, h5, h6, h7, h8, h9⟩ := F.ex
    have step : ∀ args : List Vl, run fns (d + 1) i args = if args.length = f.np then (match exS (run fns d) f.body (startS f.n args) with
        | .rt v s => .ok (v, outs args s) []
        | .nx s => .ok (.d .non, outs args s) []
        | .ex c fs s => .ex c fs (outs args s)
        | _ => .no) else .no := fun args => by
      show (match fns[i]? with
        | none => .no
        | some f => if args.length = f.np then (match exS (run fns d) f.body (startS f.n args) with
          | .rt v s => .ok (v, outs args s) []
          | .nx s => .ok (.d .non, outs args s) []
          | .ex c fs s => .ex c fs (outs args s)
          | _ => .no) else .no : MI.R (Vl × List (Option Vl))) = _
      rw [hf]
    refine ⟨_, as, (rfl : (PySem.W.fnOf name qual (plainArgs as) body scope .none kV doc pm an cdv ct).params = _), h4, rfl, h5, fnG_of h1 h2 h3 (fun vs H Q E ⟨Z, args, st, q⟩ => ?_) (fun A outer s H vs Q E hr hgd ⟨Z, args, st, q⟩ => ?_), oc, od, osl, h1⟩
    · have len : args.length = vs.length := by simpa using st.len
      by_cases e : args.length = f.np
      · rw [← len, e, h7]
      · rw [step args, if_neg e] at q
        exact q.elim
    · have len : args.length = vs.length := by simpa using st.len
      by_cases e : args.length = f.np
      · rw [step args, if_pos e] at q
        let X := cxOf (L2.CX P w) P w K mg base N qual scope (g.fa i) cdv A outer s H E
        let W : WXX := fun cls d _ H => E cls d H
        have O : OkX g ⟨N, scope, sg, gl, muNames body⟩ W (run fns d) d X := {
          hK := M.hK
          hN := rfl
          nd := h3.nd
          hs := rfl
          cm := rfl
          hr := hr
          gd := hgd
          tk := takes_of rfl rfl rfl rfl
          po := passes_of rfl
          fnm := fun j T e => by
            obtain ⟨fd, as, q1, q2, q3, q4, q5, _⟩ := run_ok M d j T e
            obtain ⟨_, _, Fj⟩ := M.fn j T e
            exact ⟨fd, as, Fj.mg, Fj.keep, q1, q2, q3, q4, q5⟩
          glm := M.glm
          blt := M.blt }
        refine ⟨_, (st_ok fuel).Ss h6 O (fun _ => rfl) h3.kind, Z, startS N.length args, start_sr st (by omega), ?_⟩
        rw [h8] at q
        have ow : ∀ a, Own (startS N.length args) (L2.start N vs) a → Own (args.map some) (vs.map some) a := fun a => start_own len
        cases e2 : exS (run fns d) f.body (startS N.length args) with
        | nx s' =>
          rw [e2] at q
          intro Z' H' σ' ks
          obtain ⟨o1, o2⟩ := outs_sr st ks
          exact q Z' H' .non (ks.k.wide ow) o1 o2 (.flat .non)
        | rt v s' =>
          rw [e2] at q
          intro Z' H' σ' x ks rf
          obtain ⟨o1, o2⟩ := outs_sr st ks
          exact q Z' H' x (ks.k.wide ow) o1 o2 rf
        | ex c fs s' =>
          rw [e2] at q
          intro Z' H' σ' dd ks rx
          obtain ⟨o1, o2⟩ := outs_sr st ks
          exact q Z' H' dd (ks.k.wide ow) o1 o2 rx
        | bk s' => rw [e2] at q; exact q.elim
        | ct s' => rw [e2] at q; exact q.elim
        | no => rw [e2] at q; exact q.elim
      · rw [step args, if_neg e] at q
        exact q.elim
end
end MI

set_option Elab.async false
set_option linter.all false
set_option maxRecDepth 100000
set_option maxHeartbeats 4000000
/-! From a module's text to the evaluator's defs; the law's end. -/
namespace MI
open PySem PySem.Spec PyProof.Rows L2

/-- a def of the module's top, as the text has it -/
structure De where
  name : Str
  args : List Arg
  body : List Stmt
  scope : Scope
  /-- what comprehensions bind -/
  extra : List Str := []
def deOf : Stmt → Option De
  | .FunctionDef n ⟨[], as, none, [], [], none, []⟩ b [] _ _ sc none _ _ => some ⟨n, as, b, sc, []⟩
  | _ => none
def desOf (p : Program) : List De := p.main.body.filterMap deOf
def De.dd (d : De) : He.DefD := ⟨(d.name, none), d.name, d.name, plainArgs d.args, d.body, d.scope, [], []⟩
def De.ps (d : De) : List Str := d.args.map (·.arg)
def De.sg (d : De) : Sg := ⟨d.name, d.ps⟩
def De.N0 (d : De) : List Str := d.ps ++ (d.scope.names.filterMap fun p => match p.2 with
  | .local => if d.ps.contains p.1 then none else some p.1
  | .cell => if d.ps.contains p.1 then none else some p.1
  | _ => none)
def De.N (d : De) : List Str := d.N0 ++ d.extra.filter fun x => !d.N0.contains x
/-- the defs, each with its comprehensions' names -/
def desX (p : Program) (ex : List (Str × List Str)) : List De := (desOf p).map fun d => { d with extra := (ex.lookup d.name).getD [] }
abbrev CFUEL : Nat := 40
def De.fn (sg : List Sg) (gl : List (Str × D)) (d : De) : Fn := ⟨d.ps.length, d.N.length, (cSs CFUEL ⟨d.N, d.scope, sg, gl, muNames d.body⟩ d.body).getD .nil⟩
def scopeB (N P : List Str) (sc : Scope) : Bool := (match sc.kind with | .function => true | _ => false) && !sc.isCoroutine && !sc.isGenerator && decide N.Nodup && decide (N.take P.length = P) && P.all (fun x => locB sc x) && sc.names.all (fun y => match y.2 with | .free => false | _ => true)
theorem scopeB_ok {N P : List Str} {sc : Scope} (h : scopeB N P sc = true) : FnScope N P sc := by
  unfold scopeB at h
  simp only [Bool.and_eq_true, decide_eq_true_eq, List.all_eq_true, Bool.not_eq_true'] at h
  obtain ⟨⟨⟨⟨⟨⟨h1, h2⟩, h3⟩, h4⟩, h5⟩, h6⟩, h7⟩ := h
  refine ⟨?_, h2, h3, h4, h5, fun x hx => loc_ok (h6 x hx), fun y hy e => ?_⟩
  · split at h1
    · assumption
    · cases h1
  · have := h7 y hy
    rw [e] at this
    cases this
/-- what of a def is looked at once -/
def De.ok (sg : List Sg) (gl : List (Str × D)) (d : De) : Bool := scopeB d.N d.ps d.scope && decide d.ps.Nodup && (cSs CFUEL ⟨d.N, d.scope, sg, gl, muNames d.body⟩ d.body).isSome && decide (d.ps.length ≤ d.N.length)
/-- the module: its defs, its whole numbers and its tuples of whole numbers by name -/
structure Md where
  des : List De
  nums : List (Str × Int)
  tups : List (Str × List Int) := []
def Md.sg (m : Md) : List Sg := m.des.map De.sg
def Md.gl (m : Md) : List (Str × D) := (m.nums.map fun p => (p.1, .int p.2)) ++ m.tups.map fun p => (p.1, .tup (p.2.map .int))
def Md.fns (m : Md) : List Fn := m.des.map (De.fn m.sg m.gl)
def Md.fn (m : Md) : List He.DefD := m.des.map De.dd
def Md.fa (m : Md) : List He.Fa := m.des.map (fun d => He.Fa.glo d.name) ++ (bns.map He.Fa.free ++ ((m.nums.map fun p => He.Fa.int p.1 p.2) ++ m.tups.map fun p => He.Fa.glo p.1))
def Md.ok (m : Md) : Bool := m.des.all (De.ok m.sg m.gl)
def Md.g (m : Md) (K : PySem.W.Frag) : G := ⟨K, fun i => He.ga K ((m.des[i]?.map De.name).getD ""), fun _ => 0⟩
theorem fact_of {fa : List He.Fa} {fn : List He.DefD} {K : PySem.W.Frag} (c : He.SaysD fa fn K) {f : He.Fa} (h : f ∈ fa) : f.ok K = true := by
  obtain ⟨i, e⟩ := List.getElem?_of_mem h
  exact c.fact i e
/-! the hook: the tuples too -/
def tupsB (tp : List (Str × List Int)) (K : PySem.W.Frag) : Bool := tp.all fun p => He.tupB K p.1 (p.2.map .int)
def SaysM (m : Md) (K : PySem.W.Frag) : Prop := (He.obsD m.fa m.fn K, tupsB m.tups K) = (He.valD m.fn, true)
abbrev AlM : Type := He.AlD × Bool
def obsMG (n : Nat) (m : Md) (g : Addr → Option Obj) : AlM := (He.obsD m.fa m.fn (He.frG g (He.asD g n)), tupsB m.tups (He.frG g (He.asD g n)))
def hookM (n : Nat) (m : Md) : PySem.W.Hook where
  α := AlM
  obs := fun s => obsMG n m s.heap.get?
  val := fun _ => (He.valD m.fn, true)
  says := fun _ h => ∃ K : PySem.W.Frag, K.In h ∧ SaysM m K
  of := fun _ _ e => ⟨_, He.frG_in, e⟩
  keeps := fun _ _ _ ⟨K, hK, c⟩ k => ⟨K, PySem.W.Frag.In.keeps hK k, c⟩
theorem obsMG_eq {n : Nat} {m : Md} {g : Addr → Option Obj} {s : Shared} (h : ∀ a, g a = s.heap.get? a) : obsMG n m g = (hookM n m).obs s := by
  have e : g = s.heap.get? := funext h
  rw [e] <;> rfl
theorem tupI_rel {g : G} {Z : Hp} : ∀ ns : List Int, RDs g Z (ns.map .int) ((ns.map He.Dv.int).map (He.Dv.v g.K))
  | [] => .nil
  | n :: ns => .cons (.int n) (tupI_rel ns)
theorem md_ok {m : Md} {K : PySem.W.Frag} {h : Heap} {mg : Str → Option Value} (ok : m.ok = true) (X : K.In h) (G : h.Ns mainGlobals mg) (cm : SaysM m K) : ModOk K mg (m.g K) m.sg m.gl m.fns where
  hK := rfl
  glm := fun x d hx => by
    have c : He.SaysD m.fa m.fn K := congrArg Prod.fst cm
    rcases List.mem_append.mp hx with hx | hx
    · obtain ⟨p, hp, e⟩ := List.mem_map.mp hx
      cases e
      have f := fact_of c (f := .int p.1 p.2) (List.mem_append.mpr (.inr (List.mem_append.mpr (.inr (List.mem_append.mpr (.inl (List.mem_map.mpr ⟨p, hp, rfl⟩)))))))
      obtain ⟨t, e⟩ := He.int_ok X G f
      exact ⟨_, .int p.2, e, ⟨t, rfl⟩, .int _⟩
    · obtain ⟨p, hp, e⟩ := List.mem_map.mp hx
      cases e
      have f := fact_of c (f := .glo p.1) (List.mem_append.mpr (.inr (List.mem_append.mpr (.inr (List.mem_append.mpr (.inr (List.mem_map.mpr ⟨p, hp, rfl⟩)))))))
      have tb : tupsB m.tups K = true := congrArg Prod.snd cm
      have q := List.all_eq_true.mp tb p hp
      exact ⟨_, .ref (He.ga K p.1), He.glo_ok X G f, rfl, .tup (He.tupB_ok q _) (tupI_rel (g := m.g K) p.2)⟩
  blt := fun x hx => He.free_ok X G (fact_of (show He.SaysD m.fa m.fn K from congrArg Prod.fst cm) (List.mem_append.mpr (.inr (List.mem_append.mpr (.inl (List.mem_map.mpr ⟨x, hx, rfl⟩))))))
  fn := fun i S e => by
    have c : He.SaysD m.fa m.fn K := congrArg Prod.fst cm
    unfold Md.sg at e
    rw [List.getElem?_map] at e
    obtain ⟨d, hd, rfl⟩ := Option.map_eq_some_iff.mp e
    have hm : d ∈ m.des := List.mem_of_getElem? hd
    have hok : De.ok m.sg m.gl d = true := List.all_eq_true.mp ok d hm
    unfold De.ok at hok
    simp only [Bool.and_eq_true, decide_eq_true_eq, Option.isSome_iff_exists] at hok
    obtain ⟨⟨⟨h1, h2⟩, ⟨t, h3⟩⟩, h4⟩ := hok
    obtain ⟨fd, F⟩ := c.def_ i (d := d.dd) (by unfold Md.fn; rw [List.getElem?_map, hd]; rfl)
    obtain ⟨⟨oc, od, dV, kV, doc, pm, an, cdv, ct, osl, q1, q2, q3, q4, q5⟩, kp⟩ := F
    have dn : dV = .none := by
      rcases q4 with ⟨_, z⟩ | ⟨z, _⟩
      · exact z
      · exact absurd rfl z
    have ga : (m.g K).fa i = He.ga K d.name := by
      show He.ga K ((m.des[i]?.map De.name).getD "") = _
      rw [hd]
      rfl
    refine ⟨De.fn m.sg m.gl d, by unfold Md.fns; rw [List.getElem?_map, hd]; rfl, ⟨⟨d.name, d.name, d.args, d.body, d.scope, kV, doc, pm, cdv, ct, oc, an, od, osl, d.N, CFUEL, ?_, q3, scopeB_ok h1, rfl, h2, ?_, rfl, rfl, h4⟩, ?_, ?_⟩⟩
    · rw [ga]
      subst dn
      rw [q1] at q2
      exact q2
    · rw [h3]
      unfold De.fn
      rw [h3]
      rfl
    · rw [ga]
      exact He.glo_ok X G (fact_of c (List.mem_append.mpr (.inl (List.mem_map.mpr ⟨d, hm, rfl⟩))))
    · rw [ga]
      exact kp
end MI

set_option Elab.async false
set_option linter.all false
set_option maxRecDepth 100000
set_option maxHeartbeats 4000000
/-! The law's end: from the evaluator's answer to the law. -/
namespace MI
open PySem PySem.Spec PyProof.Rows L2

/-- what is told of at the law's call: at most the script -/
structure Told (K : PySem.W.Frag) (a : Addr) (ns : List Int) (H : Hp) : Prop where
  one : ∀ b u, H b = some u → b = a ∧ (∃ o, u = .frz o (.lst (ns.map V.int))) ∧ K.lookup a = none
  sq : SqP K H a (ns.map V.int)
theorem told_call {P : Program} {w : World} {K : PySem.W.Frag} {mg mb : Str → Option Value} {k : Nat} {fa a : Addr} {fd : FuncData} {x : Str} {sp : Sp} {s₁ : Shared} {vs : List Value} {ns : List Int} {H : Hp} (X : K.In s₁.heap) (G : s₁.heap.Ns mainGlobals mg) (B : s₁.heap.Ns builtinsNs mb)
    (hb : ∀ x : Str, x ≠ "__name__" → mb x = bootBuiltins x) (nl : s₁.heap.NoLimit) (gn : s₁.gens = #[]) (hr : Room k callerA) (ob : s₁.heap.get? a = some { cls := .type "list", data := .seq vs.toArray }) (hok : HOk P w H s₁.heap) (td : Told K a ns H)
    (F : ∀ base : Heap, K.In base → base.Ns mainGlobals mg → FnG P w K mg base k fa fd [x] sp) (bd : ∀ (s : Shared) (u : Value), BindsTo s fd ⟨[u], []⟩ [(x, u)]) (q : sp [.ref a] H (fun v _ => v = .bl true) fun _ _ _ => False) :
    codeAny (model P w) callerA (.call (.ref fa) ⟨[.ref a], []⟩) (fun r s' => r = .ok (.ret (.bool true)) ∧ OldK s₁.heap s'.heap ∧ s'.os = s₁.os ∧ AllBare s'.gens) s₁ := by
  -- a thing of the module is not told of
  have far : ∀ {b : Addr}, b ≠ a → H b = none := fun {b} n => by
    cases e : H b with
    | none => rfl
    | some u => exact absurd (td.one b u e).1 n
  have dct : ∀ {b : Addr} {o : Obj} {es : Array DictEntry} {ep : Nat}, s₁.heap.get? b = some o → o.data = .dict es ep → H b = none := fun {b o es ep} e d => far fun z => by
    rw [z, ob] at e
    obtain rfl := Option.some.inj e
    exact nomatch d
  have space : ∀ {b : Addr} {m : Str → Option Value}, s₁.heap.Ns b m → (hidT s₁.heap H).Ns b m := fun {b m} z => by
    obtain ⟨o, es, ep, e, d, r⟩ := z
    exact ⟨o, es, ep, hidT_get e (dct e d), d, r⟩
  have own : K.In (hidT s₁.heap H) := fun b o e => hidT_get (X b o e) (by
    cases z : H b with
    | none => rfl
    | some u =>
      obtain ⟨rfl, _, n⟩ := td.one b u z
      rw [n] at e
      cases e)
  obtain ⟨ml, nl1, nl2⟩ := nl
  have env : Env0 P w K mg (hidT s₁.heap H) callerA [] s₁ H := {
    frames := rfl
    mod := { kin := own, glob := space G, blt := ⟨mb, space B, hb⟩, nolimit := ⟨ml, space nl1, nl2⟩ }
    bs := fun b o e => of_hidT e
    bsz := Nat.le_of_eq (hidT_size _ _)
    funs := trivial
    frf := fun b hb => nomatch hb
    hok := hok
    bare := .of_eq gn }
  have run := (F _ own (space G)).run callerA [] s₁ H ⟨[.ref a], []⟩ [.ref a] [.ref a] (fun v _ => v = .bl true) (fun _ _ _ => False) hr rfl env (bd s₁ (.ref a)) (.cons rfl .nil) q
  refine codeAny_mono run fun r s' h => ?_
  match r, h with
  | .error e, h =>
    obtain ⟨_, _, _, _, _, _, _, _, _, _, _, _, z⟩ := h
    exact z.elim
  | .ok .next, h => exact False.elim h
  | .ok .brk, h => exact False.elim h
  | .ok .cont, h => exact False.elim h
  | .ok (.ret u), h =>
    obtain ⟨v, H', os, bare, un, ok', rv, vt⟩ := h
    have vt : v = .bl true := vt
    rw [vt] at rv
    have rv : u = Value.bool true := rv
    refine ⟨by rw [rv], .of_keep fun b o e => ?_, os, bare⟩
    cases z : H b with
    | none => exact un.keep b o e z (fun y => nomatch y) (fun y => nomatch y)
    | some u =>
      obtain ⟨_, ⟨o2, rfl⟩, _⟩ := td.one b u z
      have h1 := (hok b _ z).1
      have h2 := (ok' b _ (un.frzs b o2 _ z)).1
      rw [e] at h1
      obtain rfl := Option.some.inj h1
      exact h2
theorem told_of {P : Program} {w : World} {K : PySem.W.Frag} {s₁ : Shared} {a : Addr} {vs : List Value} {ns : List Int} (X : K.In s₁.heap) (ob : s₁.heap.get? a = some { cls := .type "list", data := .seq vs.toArray }) (hi : IntsAre vs ns) (hl : ns.length ≤ sizeLine) :
    ∃ H, HOk P w H s₁.heap ∧ Told K a ns H := by
  have rv := vals_ints hi
  have lv := hi.length
  cases e : K.lookup a with
  | some o =>
    have h := X a o e
    rw [ob] at h
    obtain rfl := Option.some.inj h
    exact ⟨fun _ => none, fun b u z => (nomatch z), ⟨fun b u z => (nomatch z), .inr ⟨vs.toArray, _, e, by rw [List.size_toArray, lv]; exact hl, by simpa using rv⟩⟩⟩
  | none =>
    let o : Obj := { cls := .type "list", data := .seq vs.toArray }
    refine ⟨upd (fun _ => none) a (.frz o (.lst (ns.map V.int))), fun b u z => ?_, ⟨fun b u z => ?_, .inl (.inr ⟨o, upd_same⟩)⟩⟩
    · by_cases hb : b = a
      · subst hb
        rw [upd_same] at z
        obtain rfl := Option.some.inj z
        exact ⟨ob, by rw [List.length_map]; exact hl, vs, _, rv, ob⟩
      · rw [upd_ne hb] at z
        cases z
    · by_cases hb : b = a
      · subst hb
        rw [upd_same] at z
        obtain rfl := Option.some.inj z
        exact ⟨rfl, ⟨o, rfl⟩, e⟩
      · rw [upd_ne hb] at z
        cases z
/-- THE END: the evaluator's law answers True at every script -/
theorem law_end {l : PySem.W.OpenLaw} {n k i : Nat} {q : Program} {loose : List Str} {XP : (Str → Option Value) → Heap → Prop} {dr : DefRec} {x : Str} {hn : Nat} (m : Md) (ok : m.ok = true) (h1 : l.most = some n) (h2 : n ≤ sizeLine) (hdf : dr.params.defaults = []) (hr : Room k callerA)
    (hd : (m.sg[i]?).map (fun S => (S.name, S.ps)) = some (dr.name, [x])) (go : ∀ ns : List Int, ns.length ≤ n → (∀ z ∈ ns, Builtin.Int.intBits z ≤ 1048576) → ∃ os s, run m.fns k i [.d (.lst (ns.map .int))] = .ok (.d (.bl true), os) s) :
    PySem.W.WalkO q loose XP (hookM hn m).says l.row.toRowW dr [] (fun f vs => PySem.call f vs) := by
  refine Att.attach_callB h1 hdf fun w s₀ s₁ mg mb fa o pm cd doc a vs ns Gr Y ho hdt hcd hmg hobj hints hlen hbits hg => ?_
  obtain ⟨K, X, c⟩ := Y
  have M := md_ok ok X Gr.T.g c
  obtain ⟨S, hS, e⟩ := Option.map_eq_some_iff.mp hd
  obtain ⟨fS, _, FF⟩ := M.fn i S hS
  obtain ⟨e1, e2⟩ := Prod.mk.inj e
  have fa_eq : fa = (m.g K).fa i := by
    have h := FF.mg
    rw [show S.name = dr.name from e1, hmg] at h
    exact Value.ref.inj (Option.some.inj h)
  subst fa_eq
  obtain ⟨fd, as, p1, p2, p3, p4, F0, oc, od, osl, lk⟩ := run_ok (P := l.prog) (w := w) (base := s₁.heap) M k i S hS
  obtain ⟨H, hok, td⟩ := told_of (P := l.prog) (w := w) X hobj hints (Nat.le_trans hlen h2)
  have e2 : S.ps = [x] := e2
  refine told_call (x := x) (fd := fd) X Gr.T.g Gr.T.b Gr.T.builtins Gr.T.nolimit hg hr hobj hok td (sp := spF (m.g K) (run m.fns k) i) (fun base X2 G2 => ?_) (fun s u => ?_) ?_
  · obtain ⟨fd2, as2, _, _, _, _, F2, oc2, od2, osl2, lk2⟩ := run_ok (P := l.prog) (w := w) (base := base) M k i S hS
    rw [lk] at lk2
    cases lk2
    rw [e2] at F2
    exact F2
  · have b := bind_pos (us := [u]) p1 p2 p3 p4 (by rw [e2]; rfl) s
    rw [e2] at b
    exact b
  · obtain ⟨os, s, e⟩ := go ns hlen hbits
    refine ⟨H, [.d (.lst (ns.map .int))], ⟨rfl, Same.refl _, fun j v h => ?_, fun j j' t u xs ys b h1 h2 h3 h4 => ?_⟩, ?_⟩
    · cases j with
      | zero =>
        cases h
        exact ⟨_, rfl, .lst td.sq (ints_rd ns)⟩
      | succ j => cases h
    · cases j with
      | zero => cases h1
      | succ j => cases h1
    · rw [e]
      intro Z' H' x _ _ _ rf
      have r : RD (m.g K) Z' (.bl true) x := rf.1
      cases r
      rfl
end MI

set_option Elab.async false
set_option linter.all false
set_option maxRecDepth 100000
set_option maxHeartbeats 4000000
/-! Steps of the evaluator as rules for simp; loops. -/
namespace MI
/-! the evaluator, closed: nothing unfolds it but the rules below -/
structure Ev where
  E : T → S → R Vl
  L : T → S → R (List D)
  A : T → S → R (List Ag)
  V : T → S → R (List Vl)
  P : T → S → R (Option Int)
  I : T → S → R (List D)
  B : T → D → S → O
  Bs : T → List D → S → O
  X : T → S → O
def evR (Φ : Call) : Ev := ⟨evE Φ, evL Φ, evA Φ, evV Φ, evP Φ, evI Φ, bindP Φ, bindPs Φ, exS Φ⟩
theorem ev_ex : ∃ f : Call → Ev, f = evR := ⟨evR, rfl⟩
noncomputable def evO : Call → Ev := Classical.choose ev_ex
theorem evO_eq : evO = evR := Classical.choose_spec ev_ex
noncomputable def oE (Φ : Call) : T → S → R Vl := (evO Φ).E
noncomputable def oL (Φ : Call) : T → S → R (List D) := (evO Φ).L
noncomputable def oA (Φ : Call) : T → S → R (List Ag) := (evO Φ).A
noncomputable def oV (Φ : Call) : T → S → R (List Vl) := (evO Φ).V
noncomputable def oP (Φ : Call) : T → S → R (Option Int) := (evO Φ).P
noncomputable def oI (Φ : Call) : T → S → R (List D) := (evO Φ).I
noncomputable def oB (Φ : Call) : T → D → S → O := (evO Φ).B
noncomputable def oBs (Φ : Call) : T → List D → S → O := (evO Φ).Bs
noncomputable def oX (Φ : Call) : T → S → O := (evO Φ).X
theorem oE_eq : oE = evE := by funext Φ; unfold oE; rw [evO_eq]; rfl
theorem oL_eq : oL = evL := by funext Φ; unfold oL; rw [evO_eq]; rfl
theorem oA_eq : oA = evA := by funext Φ; unfold oA; rw [evO_eq]; rfl
theorem oV_eq : oV = evV := by funext Φ; unfold oV; rw [evO_eq]; rfl
theorem oP_eq : oP = evP := by funext Φ; unfold oP; rw [evO_eq]; rfl
theorem oI_eq : oI = evI := by funext Φ; unfold oI; rw [evO_eq]; rfl
theorem oB_eq : oB = bindP := by funext Φ; unfold oB; rw [evO_eq]; rfl
theorem oBs_eq : oBs = bindPs := by funext Φ; unfold oBs; rw [evO_eq]; rfl
theorem oX_eq : oX = exS := by funext Φ; unfold oX; rw [evO_eq]; rfl
theorem run_ex : ∃ f : List Fn → Nat → Call, f = run := ⟨run, rfl⟩
noncomputable def oRun : List Fn → Nat → Call := Classical.choose run_ex
theorem oRun_eq : oRun = run := Classical.choose_spec run_ex
/-- a turn of a for, of a while -/
noncomputable def oF (Φ : Call) (p b : T) : D → S → O := fun x s => match onlyN (oB Φ p x s) with
      | .nx s => oX Φ b s
      | o => o
noncomputable def oW (Φ : Call) (tc tb : T) : S → O := fun s => match oE Φ tc s with
    | .ok v s => (match tru v.dat with
      | some true => (match oX Φ tb s with | .ct s => .nx s | o => o)
      | some false => .bk s
      | none => .no)
    | .ex c fs s => .ex c fs s
    | .no => .no
theorem oW_eq : oW = stepW := by
  funext Φ a b s
  unfold oW
  rw [oE_eq, oX_eq]
  rfl
theorem oF_eq : oF = stepF := by
  funext Φ a b x s
  unfold oF
  rw [oB_eq, oX_eq]
  rfl
section
variable {Φ : Call} {s s' : S}
@[simp] theorem isVar_con (x : D) : isVar (.con x) = false := rfl
@[simp] theorem isVar_bin (op : PySem.Operator) (a b : T) : isVar (.bin op a b) = false := rfl
@[simp] theorem isVar_neg (a : T) : isVar (.neg a) = false := rfl
@[simp] theorem isVar_nt (a : T) : isVar (.nt a) = false := rfl
@[simp] theorem isVar_cmp (op : PySem.CmpOp) (a b : T) : isVar (.cmp op a b) = false := rfl
@[simp] theorem isVar_chain (op op' : PySem.CmpOp) (a b c : T) : isVar (.chain op op' a b c) = false := rfl
@[simp] theorem isVar_and (a b : T) : isVar (.and a b) = false := rfl
@[simp] theorem isVar_or (a b : T) : isVar (.or a b) = false := rfl
@[simp] theorem isVar_ite (a b c : T) : isVar (.ite a b c) = false := rfl
@[simp] theorem isVar_tup (a : T) : isVar (.tup a) = false := rfl
@[simp] theorem isVar_lst (a : T) : isVar (.lst a) = false := rfl
@[simp] theorem isVar_idx (a b : T) : isVar (.idx a b) = false := rfl
@[simp] theorem isVar_slc (a b c : T) : isVar (.slc a b c) = false := rfl
@[simp] theorem isVar_call (f : Nat) (a : T) : isVar (.call f a) = false := rfl
@[simp] theorem isVar_callk (f : Nat) (p : List Nat) (a b : T) : isVar (.callk f p a b) = false := rfl
@[simp] theorem isVar_bf (f : Bf) (a : T) : isVar (.bf f a) = false := rfl
@[simp] theorem isVar_comp (o : List Nat) (p i c e : T) : isVar (.comp o p i c e) = false := rfl
@[simp] theorem bind_ok' {α β : Type} (a : α) (s : S) (f : α → S → R β) : (R.ok a s).bind f = f a s := rfl
@[simp] theorem bind_ex' {α β : Type} (c : Nat) (fs : List D) (s : S) (f : α → S → R β) : (R.ex c fs s : R α).bind f = .ex c fs s := rfl
@[simp] theorem bind_no' {α β : Type} (f : α → S → R β) : (R.no : R α).bind f = .no := rfl
@[simp] theorem ofO_some' {α : Type} (a : α) (s : S) : R.ofO (some a) s = .ok a s := rfl
@[simp] theorem ofO_none' {α : Type} (s : S) : R.ofO (none : Option α) s = .no := rfl
@[simp] theorem dat_d (x : D) : (Vl.d x).dat = x := rfl
@[simp] theorem dat_own (t : Bool) (x : List D) : (Vl.own t x).dat = .lst x := rfl
@[simp] theorem dat_fz (x : List D) : (Vl.fz x).dat = .lst x := rfl
@[simp] theorem fr_d (x : D) : (Vl.d x).fresh = .d x := rfl
@[simp] theorem fr_own (t : Bool) (x : List D) : (Vl.own t x).fresh = .own false x := rfl
@[simp] theorem fr_fz (x : List D) : (Vl.fz x).fresh = .d (.lst x) := rfl
@[simp] theorem e_var (i : Nat) : oE Φ (.var i) s = rdV i s := by
  (try simp only [oE_eq, oL_eq, oA_eq, oV_eq, oP_eq, oI_eq, oB_eq, oBs_eq, oX_eq, oW_eq, oF_eq])
  first | done | rfl
@[simp] theorem e_con (x : D) : oE Φ (.con x) s = .ok (.d x) s := by
  (try simp only [oE_eq, oL_eq, oA_eq, oV_eq, oP_eq, oI_eq, oB_eq, oBs_eq, oX_eq, oW_eq, oF_eq])
  first | done | rfl
@[simp] theorem e_bin (op : PySem.Operator) (a b : T) : oE Φ (.bin op a b) s = (oE Φ a s).bind fun x s => (oE Φ b s).bind fun y s => R.ofO (bin op x.dat y.dat) s := by
  (try simp only [oE_eq, oL_eq, oA_eq, oV_eq, oP_eq, oI_eq, oB_eq, oBs_eq, oX_eq, oW_eq, oF_eq])
  first | done | rfl
@[simp] theorem e_neg (a : T) : oE Φ (.neg a) s = (oE Φ a s).bind fun x s => match x with
    | .d (.int i) => .ok (.d (.int (-i))) s
    | _ => .no := by
  (try simp only [oE_eq, oL_eq, oA_eq, oV_eq, oP_eq, oI_eq, oB_eq, oBs_eq, oX_eq, oW_eq, oF_eq])
  first | done | rfl
@[simp] theorem e_nt (a : T) : oE Φ (.nt a) s = (oE Φ a s).bind fun x s => R.ofO ((tru x.dat).map fun b => .d (.bl (!b))) s := by
  (try simp only [oE_eq, oL_eq, oA_eq, oV_eq, oP_eq, oI_eq, oB_eq, oBs_eq, oX_eq, oW_eq, oF_eq])
  first | done | rfl
@[simp] theorem e_cmp (op : PySem.CmpOp) (a b : T) : oE Φ (.cmp op a b) s = (oE Φ a s).bind fun x s => (oE Φ b s).bind fun y s => R.ofO ((cmp op x.dat y.dat).map fun b => .d (.bl b)) s := by
  (try simp only [oE_eq, oL_eq, oA_eq, oV_eq, oP_eq, oI_eq, oB_eq, oBs_eq, oX_eq, oW_eq, oF_eq])
  first | done | rfl
/-- three ways -/
def onB {α : Type} (o : Option Bool) (t f n : α) : α := match o with
  | some true => t
  | some false => f
  | none => n
@[simp] theorem onB_some {α : Type} (b : Bool) (t f n : α) : onB (some b) t f n = if b = true then t else f := by cases b <;> rfl
@[simp] theorem e_chain (op op' : PySem.CmpOp) (a b c : T) : oE Φ (.chain op op' a b c) s = (oE Φ a s).bind fun x s => (oE Φ b s).bind fun y s => onB (cmp op x.dat y.dat) ((oE Φ c s).bind fun z s => R.ofO ((cmp op' y.dat z.dat).map fun b => .d (.bl b)) s) (.ok (.d (.bl false)) s) .no := by
  (try simp only [oE_eq, oL_eq, oA_eq, oV_eq, oP_eq, oI_eq, oB_eq, oBs_eq, oX_eq, oW_eq, oF_eq])
  first | done | rfl
@[simp] theorem e_and (a b : T) : oE Φ (.and a b) s = (oE Φ a s).bind fun x s => onB (tru x.dat) (oE Φ b s) (.ok (.d x.dat) s) .no := by
  (try simp only [oE_eq, oL_eq, oA_eq, oV_eq, oP_eq, oI_eq, oB_eq, oBs_eq, oX_eq, oW_eq, oF_eq])
  first | done | rfl
@[simp] theorem e_or (a b : T) : oE Φ (.or a b) s = (oE Φ a s).bind fun x s => onB (tru x.dat) (.ok (.d x.dat) s) (oE Φ b s) .no := by
  (try simp only [oE_eq, oL_eq, oA_eq, oV_eq, oP_eq, oI_eq, oB_eq, oBs_eq, oX_eq, oW_eq, oF_eq])
  first | done | rfl
@[simp] theorem e_ite (c a b : T) : oE Φ (.ite c a b) s = (oE Φ c s).bind fun x s => onB (tru x.dat) (oE Φ a s) (oE Φ b s) .no := by
  (try simp only [oE_eq, oL_eq, oA_eq, oV_eq, oP_eq, oI_eq, oB_eq, oBs_eq, oX_eq, oW_eq, oF_eq])
  first | done | rfl
@[simp] theorem e_tup (es : T) : oE Φ (.tup es) s = (oL Φ es s).bind fun xs s => if fitsL xs.length then .ok (.d (.tup xs)) s else .no := by
  (try simp only [oE_eq, oL_eq, oA_eq, oV_eq, oP_eq, oI_eq, oB_eq, oBs_eq, oX_eq, oW_eq, oF_eq])
  first | done | rfl
@[simp] theorem e_lst (es : T) : oE Φ (.lst es) s = (oL Φ es s).bind fun xs s => if fitsL xs.length then .ok (.own false xs) s else .no := by
  (try simp only [oE_eq, oL_eq, oA_eq, oV_eq, oP_eq, oI_eq, oB_eq, oBs_eq, oX_eq, oW_eq, oF_eq])
  first | done | rfl
@[simp] theorem e_idxV (i : Nat) (e : T) : oE Φ (.idx (.var i) e) s = match peek i s with
    | none => .no
    | some _ => (oE Φ e s).bind fun y s => match peek i s with
      | some x => R.ofO ((index x y.dat).map .d) s
      | none => .no := by
  (try simp only [oE_eq, oL_eq, oA_eq, oV_eq, oP_eq, oI_eq, oB_eq, oBs_eq, oX_eq, oW_eq, oF_eq])
  first | done | rfl
theorem e_idx (a e : T) (h : isVar a = false) : oE Φ (.idx a e) s = (oE Φ a s).bind fun x s => (oE Φ e s).bind fun y s => R.ofO ((index x.dat y.dat).map .d) s := by
  simp only [oE_eq, oL_eq, oA_eq, oV_eq, oP_eq, oI_eq, oB_eq, oBs_eq, oX_eq]
  cases a <;> first | rfl | cases h
@[simp] theorem e_slc (a lo hi : T) : oE Φ (.slc a lo hi) s = (oE Φ a s).bind fun x s => (oP Φ lo s).bind fun l s => (oP Φ hi s).bind fun h s => R.ofO (slice x.dat l h) s := by
  (try simp only [oE_eq, oL_eq, oA_eq, oV_eq, oP_eq, oI_eq, oB_eq, oBs_eq, oX_eq, oW_eq, oF_eq])
  first | done | rfl
@[simp] theorem e_call (f : Nat) (args : T) : oE Φ (.call f args) s = (oA Φ args s).bind fun vs s => match lend vs s with
    | none => .no
    | some (us, _) => match Φ f us with
      | .ok (v, os) _ => .ok v (back vs os s)
      | .ex c fs os => .ex c fs (back vs os s)
      | .no => .no := by
  (try simp only [oE_eq, oL_eq, oA_eq, oV_eq, oP_eq, oI_eq, oB_eq, oBs_eq, oX_eq, oW_eq, oF_eq])
  first | done | rfl
@[simp] theorem e_callk (f : Nat) (perm : List Nat) (args kw : T) : oE Φ (.callk f perm args kw) s = (oL Φ args s).bind fun xs s => (oL Φ kw s).bind fun ys s => match Φ f ((pick perm (xs ++ ys)).map .d) with
    | .ok (v, _) _ => .ok v s
    | .ex c fs _ => .ex c fs s
    | .no => .no := by
  (try simp only [oE_eq, oL_eq, oA_eq, oV_eq, oP_eq, oI_eq, oB_eq, oBs_eq, oX_eq, oW_eq, oF_eq])
  first | done | rfl
@[simp] theorem e_bfV (b : Bf) (i : Nat) : oE Φ (.bf b (.cons (.var i) .nil)) s = match peek i s with
    | some x => R.ofO (bf1 b [x]) s
    | none => .no := by
  (try simp only [oE_eq, oL_eq, oA_eq, oV_eq, oP_eq, oI_eq, oB_eq, oBs_eq, oX_eq, oW_eq, oF_eq])
  first | done | rfl
theorem e_bf (b : Bf) (args : T) (h : isVar1 args = false) : oE Φ (.bf b args) s = (oL Φ args s).bind fun xs s => R.ofO (bf1 b xs) s := by
  simp only [oE_eq, oL_eq, oA_eq, oV_eq, oP_eq, oI_eq, oB_eq, oBs_eq, oX_eq]
  cases args with
  | cons a r => cases a <;> first | rfl | (cases r <;> first | rfl | cases h)
  | _ => rfl
@[simp] theorem l_nil' : oL Φ .nil s = .ok [] s := by
  (try simp only [oE_eq, oL_eq, oA_eq, oV_eq, oP_eq, oI_eq, oB_eq, oBs_eq, oX_eq, oW_eq, oF_eq])
  first | done | rfl
@[simp] theorem l_cons' (a r : T) : oL Φ (.cons a r) s = (oE Φ a s).bind fun x s => (oL Φ r s).bind fun xs s => .ok (x.dat :: xs) s := by
  (try simp only [oE_eq, oL_eq, oA_eq, oV_eq, oP_eq, oI_eq, oB_eq, oBs_eq, oX_eq, oW_eq, oF_eq])
  first | done | rfl
@[simp] theorem v_nil' : oV Φ .nil s = .ok [] s := by
  (try simp only [oE_eq, oL_eq, oA_eq, oV_eq, oP_eq, oI_eq, oB_eq, oBs_eq, oX_eq, oW_eq, oF_eq])
  first | done | rfl
@[simp] theorem v_cons' (a r : T) : oV Φ (.cons a r) s = (oE Φ a s).bind fun x s => (oV Φ r s).bind fun vs s => .ok (x :: vs) s := by
  (try simp only [oE_eq, oL_eq, oA_eq, oV_eq, oP_eq, oI_eq, oB_eq, oBs_eq, oX_eq, oW_eq, oF_eq])
  first | done | rfl
@[simp] theorem a_nil' : oA Φ .nil s = .ok [] s := by
  (try simp only [oE_eq, oL_eq, oA_eq, oV_eq, oP_eq, oI_eq, oB_eq, oBs_eq, oX_eq, oW_eq, oF_eq])
  first | done | rfl
@[simp] theorem a_consV (i : Nat) (r : T) : oA Φ (.cons (.var i) r) s = match s[i]? with
    | some (some (.own _ _)) => (oA Φ r s).bind fun vs s => .ok (.ref i :: vs) s
    | _ => (rdV i s).bind fun x s => (oA Φ r s).bind fun vs s => .ok (.val x :: vs) s := by
  (try simp only [oE_eq, oL_eq, oA_eq, oV_eq, oP_eq, oI_eq, oB_eq, oBs_eq, oX_eq, oW_eq, oF_eq])
  first | done | rfl
theorem a_cons' (a r : T) (h : isVar a = false) : oA Φ (.cons a r) s = (oE Φ a s).bind fun x s => (oA Φ r s).bind fun vs s => .ok (.val x :: vs) s := by
  simp only [oE_eq, oL_eq, oA_eq, oV_eq, oP_eq, oI_eq, oB_eq, oBs_eq, oX_eq]
  cases a <;> first | rfl | cases h
@[simp] theorem a_cons_con (x1 : D) (r : T) : oA Φ (.cons (.con x1) r) s = (oE Φ (.con x1) s).bind fun x s => (oA Φ r s).bind fun vs s => .ok (.val x :: vs) s := by
  (try simp only [oE_eq, oL_eq, oA_eq, oV_eq, oP_eq, oI_eq, oB_eq, oBs_eq, oX_eq, oW_eq, oF_eq])
  first | done | rfl
@[simp] theorem a_cons_bin (op : PySem.Operator) (a1 b1 : T) (r : T) : oA Φ (.cons (.bin op a1 b1) r) s = (oE Φ (.bin op a1 b1) s).bind fun x s => (oA Φ r s).bind fun vs s => .ok (.val x :: vs) s := by
  (try simp only [oE_eq, oL_eq, oA_eq, oV_eq, oP_eq, oI_eq, oB_eq, oBs_eq, oX_eq, oW_eq, oF_eq])
  first | done | rfl
@[simp] theorem a_cons_neg (a1 : T) (r : T) : oA Φ (.cons (.neg a1) r) s = (oE Φ (.neg a1) s).bind fun x s => (oA Φ r s).bind fun vs s => .ok (.val x :: vs) s := by
  (try simp only [oE_eq, oL_eq, oA_eq, oV_eq, oP_eq, oI_eq, oB_eq, oBs_eq, oX_eq, oW_eq, oF_eq])
  first | done | rfl
@[simp] theorem a_cons_nt (a1 : T) (r : T) : oA Φ (.cons (.nt a1) r) s = (oE Φ (.nt a1) s).bind fun x s => (oA Φ r s).bind fun vs s => .ok (.val x :: vs) s := by
  (try simp only [oE_eq, oL_eq, oA_eq, oV_eq, oP_eq, oI_eq, oB_eq, oBs_eq, oX_eq, oW_eq, oF_eq])
  first | done | rfl
@[simp] theorem a_cons_cmp (op : PySem.CmpOp) (a1 b1 : T) (r : T) : oA Φ (.cons (.cmp op a1 b1) r) s = (oE Φ (.cmp op a1 b1) s).bind fun x s => (oA Φ r s).bind fun vs s => .ok (.val x :: vs) s := by
  (try simp only [oE_eq, oL_eq, oA_eq, oV_eq, oP_eq, oI_eq, oB_eq, oBs_eq, oX_eq, oW_eq, oF_eq])
  first | done | rfl
@[simp] theorem a_cons_chain (op op' : PySem.CmpOp) (a1 b1 c1 : T) (r : T) : oA Φ (.cons (.chain op op' a1 b1 c1) r) s = (oE Φ (.chain op op' a1 b1 c1) s).bind fun x s => (oA Φ r s).bind fun vs s => .ok (.val x :: vs) s := by
  (try simp only [oE_eq, oL_eq, oA_eq, oV_eq, oP_eq, oI_eq, oB_eq, oBs_eq, oX_eq, oW_eq, oF_eq])
  first | done | rfl
@[simp] theorem a_cons_and (a1 b1 : T) (r : T) : oA Φ (.cons (.and a1 b1) r) s = (oE Φ (.and a1 b1) s).bind fun x s => (oA Φ r s).bind fun vs s => .ok (.val x :: vs) s := by
  (try simp only [oE_eq, oL_eq, oA_eq, oV_eq, oP_eq, oI_eq, oB_eq, oBs_eq, oX_eq, oW_eq, oF_eq])
  first | done | rfl
@[simp] theorem a_cons_or (a1 b1 : T) (r : T) : oA Φ (.cons (.or a1 b1) r) s = (oE Φ (.or a1 b1) s).bind fun x s => (oA Φ r s).bind fun vs s => .ok (.val x :: vs) s := by
  (try simp only [oE_eq, oL_eq, oA_eq, oV_eq, oP_eq, oI_eq, oB_eq, oBs_eq, oX_eq, oW_eq, oF_eq])
  first | done | rfl
@[simp] theorem a_cons_ite (a1 b1 c1 : T) (r : T) : oA Φ (.cons (.ite a1 b1 c1) r) s = (oE Φ (.ite a1 b1 c1) s).bind fun x s => (oA Φ r s).bind fun vs s => .ok (.val x :: vs) s := by
  (try simp only [oE_eq, oL_eq, oA_eq, oV_eq, oP_eq, oI_eq, oB_eq, oBs_eq, oX_eq, oW_eq, oF_eq])
  first | done | rfl
@[simp] theorem a_cons_tup (a1 : T) (r : T) : oA Φ (.cons (.tup a1) r) s = (oE Φ (.tup a1) s).bind fun x s => (oA Φ r s).bind fun vs s => .ok (.val x :: vs) s := by
  (try simp only [oE_eq, oL_eq, oA_eq, oV_eq, oP_eq, oI_eq, oB_eq, oBs_eq, oX_eq, oW_eq, oF_eq])
  first | done | rfl
@[simp] theorem a_cons_lst (a1 : T) (r : T) : oA Φ (.cons (.lst a1) r) s = (oE Φ (.lst a1) s).bind fun x s => (oA Φ r s).bind fun vs s => .ok (.val x :: vs) s := by
  (try simp only [oE_eq, oL_eq, oA_eq, oV_eq, oP_eq, oI_eq, oB_eq, oBs_eq, oX_eq, oW_eq, oF_eq])
  first | done | rfl
@[simp] theorem a_cons_idx (a1 b1 : T) (r : T) : oA Φ (.cons (.idx a1 b1) r) s = (oE Φ (.idx a1 b1) s).bind fun x s => (oA Φ r s).bind fun vs s => .ok (.val x :: vs) s := by
  (try simp only [oE_eq, oL_eq, oA_eq, oV_eq, oP_eq, oI_eq, oB_eq, oBs_eq, oX_eq, oW_eq, oF_eq])
  first | done | rfl
@[simp] theorem a_cons_slc (a1 b1 c1 : T) (r : T) : oA Φ (.cons (.slc a1 b1 c1) r) s = (oE Φ (.slc a1 b1 c1) s).bind fun x s => (oA Φ r s).bind fun vs s => .ok (.val x :: vs) s := by
  (try simp only [oE_eq, oL_eq, oA_eq, oV_eq, oP_eq, oI_eq, oB_eq, oBs_eq, oX_eq, oW_eq, oF_eq])
  first | done | rfl
@[simp] theorem a_cons_call (f1 : Nat) (a1 : T) (r : T) : oA Φ (.cons (.call f1 a1) r) s = (oE Φ (.call f1 a1) s).bind fun x s => (oA Φ r s).bind fun vs s => .ok (.val x :: vs) s := by
  (try simp only [oE_eq, oL_eq, oA_eq, oV_eq, oP_eq, oI_eq, oB_eq, oBs_eq, oX_eq, oW_eq, oF_eq])
  first | done | rfl
@[simp] theorem a_cons_callk (f1 : Nat) (p1 : List Nat) (a1 b1 : T) (r : T) : oA Φ (.cons (.callk f1 p1 a1 b1) r) s = (oE Φ (.callk f1 p1 a1 b1) s).bind fun x s => (oA Φ r s).bind fun vs s => .ok (.val x :: vs) s := by
  (try simp only [oE_eq, oL_eq, oA_eq, oV_eq, oP_eq, oI_eq, oB_eq, oBs_eq, oX_eq, oW_eq, oF_eq])
  first | done | rfl
@[simp] theorem a_cons_bf (f1 : Bf) (a1 : T) (r : T) : oA Φ (.cons (.bf f1 a1) r) s = (oE Φ (.bf f1 a1) s).bind fun x s => (oA Φ r s).bind fun vs s => .ok (.val x :: vs) s := by
  (try simp only [oE_eq, oL_eq, oA_eq, oV_eq, oP_eq, oI_eq, oB_eq, oBs_eq, oX_eq, oW_eq, oF_eq])
  first | done | rfl
@[simp] theorem a_cons_comp (o1 : List Nat) (p1 i1 c1 e1 : T) (r : T) : oA Φ (.cons (.comp o1 p1 i1 c1 e1) r) s = (oE Φ (.comp o1 p1 i1 c1 e1) s).bind fun x s => (oA Φ r s).bind fun vs s => .ok (.val x :: vs) s := by
  (try simp only [oE_eq, oL_eq, oA_eq, oV_eq, oP_eq, oI_eq, oB_eq, oBs_eq, oX_eq, oW_eq, oF_eq])
  first | done | rfl
@[simp] theorem e_idx_con (x1 : D) (e : T) : oE Φ (.idx (.con x1) e) s = (oE Φ (.con x1) s).bind fun x s => (oE Φ e s).bind fun y s => R.ofO ((index x.dat y.dat).map Vl.d) s := by
  (try simp only [oE_eq, oL_eq, oA_eq, oV_eq, oP_eq, oI_eq, oB_eq, oBs_eq, oX_eq, oW_eq, oF_eq])
  first | done | rfl
@[simp] theorem e_idx_bin (op : PySem.Operator) (a1 b1 : T) (e : T) : oE Φ (.idx (.bin op a1 b1) e) s = (oE Φ (.bin op a1 b1) s).bind fun x s => (oE Φ e s).bind fun y s => R.ofO ((index x.dat y.dat).map Vl.d) s := by
  (try simp only [oE_eq, oL_eq, oA_eq, oV_eq, oP_eq, oI_eq, oB_eq, oBs_eq, oX_eq, oW_eq, oF_eq])
  first | done | rfl
@[simp] theorem e_idx_neg (a1 : T) (e : T) : oE Φ (.idx (.neg a1) e) s = (oE Φ (.neg a1) s).bind fun x s => (oE Φ e s).bind fun y s => R.ofO ((index x.dat y.dat).map Vl.d) s := by
  (try simp only [oE_eq, oL_eq, oA_eq, oV_eq, oP_eq, oI_eq, oB_eq, oBs_eq, oX_eq, oW_eq, oF_eq])
  first | done | rfl
@[simp] theorem e_idx_nt (a1 : T) (e : T) : oE Φ (.idx (.nt a1) e) s = (oE Φ (.nt a1) s).bind fun x s => (oE Φ e s).bind fun y s => R.ofO ((index x.dat y.dat).map Vl.d) s := by
  (try simp only [oE_eq, oL_eq, oA_eq, oV_eq, oP_eq, oI_eq, oB_eq, oBs_eq, oX_eq, oW_eq, oF_eq])
  first | done | rfl
@[simp] theorem e_idx_cmp (op : PySem.CmpOp) (a1 b1 : T) (e : T) : oE Φ (.idx (.cmp op a1 b1) e) s = (oE Φ (.cmp op a1 b1) s).bind fun x s => (oE Φ e s).bind fun y s => R.ofO ((index x.dat y.dat).map Vl.d) s := by
  (try simp only [oE_eq, oL_eq, oA_eq, oV_eq, oP_eq, oI_eq, oB_eq, oBs_eq, oX_eq, oW_eq, oF_eq])
  first | done | rfl
@[simp] theorem e_idx_chain (op op' : PySem.CmpOp) (a1 b1 c1 : T) (e : T) : oE Φ (.idx (.chain op op' a1 b1 c1) e) s = (oE Φ (.chain op op' a1 b1 c1) s).bind fun x s => (oE Φ e s).bind fun y s => R.ofO ((index x.dat y.dat).map Vl.d) s := by
  (try simp only [oE_eq, oL_eq, oA_eq, oV_eq, oP_eq, oI_eq, oB_eq, oBs_eq, oX_eq, oW_eq, oF_eq])
  first | done | rfl
@[simp] theorem e_idx_and (a1 b1 : T) (e : T) : oE Φ (.idx (.and a1 b1) e) s = (oE Φ (.and a1 b1) s).bind fun x s => (oE Φ e s).bind fun y s => R.ofO ((index x.dat y.dat).map Vl.d) s := by
  (try simp only [oE_eq, oL_eq, oA_eq, oV_eq, oP_eq, oI_eq, oB_eq, oBs_eq, oX_eq, oW_eq, oF_eq])
  first | done | rfl
@[simp] theorem e_idx_or (a1 b1 : T) (e : T) : oE Φ (.idx (.or a1 b1) e) s = (oE Φ (.or a1 b1) s).bind fun x s => (oE Φ e s).bind fun y s => R.ofO ((index x.dat y.dat).map Vl.d) s := by
  (try simp only [oE_eq, oL_eq, oA_eq, oV_eq, oP_eq, oI_eq, oB_eq, oBs_eq, oX_eq, oW_eq, oF_eq])
  first | done | rfl
@[simp] theorem e_idx_ite (a1 b1 c1 : T) (e : T) : oE Φ (.idx (.ite a1 b1 c1) e) s = (oE Φ (.ite a1 b1 c1) s).bind fun x s => (oE Φ e s).bind fun y s => R.ofO ((index x.dat y.dat).map Vl.d) s := by
  (try simp only [oE_eq, oL_eq, oA_eq, oV_eq, oP_eq, oI_eq, oB_eq, oBs_eq, oX_eq, oW_eq, oF_eq])
  first | done | rfl
@[simp] theorem e_idx_tup (a1 : T) (e : T) : oE Φ (.idx (.tup a1) e) s = (oE Φ (.tup a1) s).bind fun x s => (oE Φ e s).bind fun y s => R.ofO ((index x.dat y.dat).map Vl.d) s := by
  (try simp only [oE_eq, oL_eq, oA_eq, oV_eq, oP_eq, oI_eq, oB_eq, oBs_eq, oX_eq, oW_eq, oF_eq])
  first | done | rfl
@[simp] theorem e_idx_lst (a1 : T) (e : T) : oE Φ (.idx (.lst a1) e) s = (oE Φ (.lst a1) s).bind fun x s => (oE Φ e s).bind fun y s => R.ofO ((index x.dat y.dat).map Vl.d) s := by
  (try simp only [oE_eq, oL_eq, oA_eq, oV_eq, oP_eq, oI_eq, oB_eq, oBs_eq, oX_eq, oW_eq, oF_eq])
  first | done | rfl
@[simp] theorem e_idx_idx (a1 b1 : T) (e : T) : oE Φ (.idx (.idx a1 b1) e) s = (oE Φ (.idx a1 b1) s).bind fun x s => (oE Φ e s).bind fun y s => R.ofO ((index x.dat y.dat).map Vl.d) s := by
  (try simp only [oE_eq, oL_eq, oA_eq, oV_eq, oP_eq, oI_eq, oB_eq, oBs_eq, oX_eq, oW_eq, oF_eq])
  first | done | rfl
@[simp] theorem e_idx_slc (a1 b1 c1 : T) (e : T) : oE Φ (.idx (.slc a1 b1 c1) e) s = (oE Φ (.slc a1 b1 c1) s).bind fun x s => (oE Φ e s).bind fun y s => R.ofO ((index x.dat y.dat).map Vl.d) s := by
  (try simp only [oE_eq, oL_eq, oA_eq, oV_eq, oP_eq, oI_eq, oB_eq, oBs_eq, oX_eq, oW_eq, oF_eq])
  first | done | rfl
@[simp] theorem e_idx_call (f1 : Nat) (a1 : T) (e : T) : oE Φ (.idx (.call f1 a1) e) s = (oE Φ (.call f1 a1) s).bind fun x s => (oE Φ e s).bind fun y s => R.ofO ((index x.dat y.dat).map Vl.d) s := by
  (try simp only [oE_eq, oL_eq, oA_eq, oV_eq, oP_eq, oI_eq, oB_eq, oBs_eq, oX_eq, oW_eq, oF_eq])
  first | done | rfl
@[simp] theorem e_idx_callk (f1 : Nat) (p1 : List Nat) (a1 b1 : T) (e : T) : oE Φ (.idx (.callk f1 p1 a1 b1) e) s = (oE Φ (.callk f1 p1 a1 b1) s).bind fun x s => (oE Φ e s).bind fun y s => R.ofO ((index x.dat y.dat).map Vl.d) s := by
  (try simp only [oE_eq, oL_eq, oA_eq, oV_eq, oP_eq, oI_eq, oB_eq, oBs_eq, oX_eq, oW_eq, oF_eq])
  first | done | rfl
@[simp] theorem e_idx_bf (f1 : Bf) (a1 : T) (e : T) : oE Φ (.idx (.bf f1 a1) e) s = (oE Φ (.bf f1 a1) s).bind fun x s => (oE Φ e s).bind fun y s => R.ofO ((index x.dat y.dat).map Vl.d) s := by
  (try simp only [oE_eq, oL_eq, oA_eq, oV_eq, oP_eq, oI_eq, oB_eq, oBs_eq, oX_eq, oW_eq, oF_eq])
  first | done | rfl
@[simp] theorem e_idx_comp (o1 : List Nat) (p1 i1 c1 e1 : T) (e : T) : oE Φ (.idx (.comp o1 p1 i1 c1 e1) e) s = (oE Φ (.comp o1 p1 i1 c1 e1) s).bind fun x s => (oE Φ e s).bind fun y s => R.ofO ((index x.dat y.dat).map Vl.d) s := by
  (try simp only [oE_eq, oL_eq, oA_eq, oV_eq, oP_eq, oI_eq, oB_eq, oBs_eq, oX_eq, oW_eq, oF_eq])
  first | done | rfl
@[simp] theorem e_bf_con (x1 : D) (b : Bf) (r : T) : oE Φ (.bf b (.cons (.con x1) r)) s = (oL Φ (.cons (.con x1) r) s).bind fun xs s => R.ofO (bf1 b xs) s := by
  (try simp only [oE_eq, oL_eq, oA_eq, oV_eq, oP_eq, oI_eq, oB_eq, oBs_eq, oX_eq, oW_eq, oF_eq])
  first | done | rfl
@[simp] theorem e_bf_bin (op : PySem.Operator) (a1 b1 : T) (b : Bf) (r : T) : oE Φ (.bf b (.cons (.bin op a1 b1) r)) s = (oL Φ (.cons (.bin op a1 b1) r) s).bind fun xs s => R.ofO (bf1 b xs) s := by
  (try simp only [oE_eq, oL_eq, oA_eq, oV_eq, oP_eq, oI_eq, oB_eq, oBs_eq, oX_eq, oW_eq, oF_eq])
  first | done | rfl
@[simp] theorem e_bf_neg (a1 : T) (b : Bf) (r : T) : oE Φ (.bf b (.cons (.neg a1) r)) s = (oL Φ (.cons (.neg a1) r) s).bind fun xs s => R.ofO (bf1 b xs) s := by
  (try simp only [oE_eq, oL_eq, oA_eq, oV_eq, oP_eq, oI_eq, oB_eq, oBs_eq, oX_eq, oW_eq, oF_eq])
  first | done | rfl
@[simp] theorem e_bf_nt (a1 : T) (b : Bf) (r : T) : oE Φ (.bf b (.cons (.nt a1) r)) s = (oL Φ (.cons (.nt a1) r) s).bind fun xs s => R.ofO (bf1 b xs) s := by
  (try simp only [oE_eq, oL_eq, oA_eq, oV_eq, oP_eq, oI_eq, oB_eq, oBs_eq, oX_eq, oW_eq, oF_eq])
  first | done | rfl
@[simp] theorem e_bf_cmp (op : PySem.CmpOp) (a1 b1 : T) (b : Bf) (r : T) : oE Φ (.bf b (.cons (.cmp op a1 b1) r)) s = (oL Φ (.cons (.cmp op a1 b1) r) s).bind fun xs s => R.ofO (bf1 b xs) s := by
  (try simp only [oE_eq, oL_eq, oA_eq, oV_eq, oP_eq, oI_eq, oB_eq, oBs_eq, oX_eq, oW_eq, oF_eq])
  first | done | rfl
@[simp] theorem e_bf_chain (op op' : PySem.CmpOp) (a1 b1 c1 : T) (b : Bf) (r : T) : oE Φ (.bf b (.cons (.chain op op' a1 b1 c1) r)) s = (oL Φ (.cons (.chain op op' a1 b1 c1) r) s).bind fun xs s => R.ofO (bf1 b xs) s := by
  (try simp only [oE_eq, oL_eq, oA_eq, oV_eq, oP_eq, oI_eq, oB_eq, oBs_eq, oX_eq, oW_eq, oF_eq])
  first | done | rfl
@[simp] theorem e_bf_and (a1 b1 : T) (b : Bf) (r : T) : oE Φ (.bf b (.cons (.and a1 b1) r)) s = (oL Φ (.cons (.and a1 b1) r) s).bind fun xs s => R.ofO (bf1 b xs) s := by
  (try simp only [oE_eq, oL_eq, oA_eq, oV_eq, oP_eq, oI_eq, oB_eq, oBs_eq, oX_eq, oW_eq, oF_eq])
  first | done | rfl
@[simp] theorem e_bf_or (a1 b1 : T) (b : Bf) (r : T) : oE Φ (.bf b (.cons (.or a1 b1) r)) s = (oL Φ (.cons (.or a1 b1) r) s).bind fun xs s => R.ofO (bf1 b xs) s := by
  (try simp only [oE_eq, oL_eq, oA_eq, oV_eq, oP_eq, oI_eq, oB_eq, oBs_eq, oX_eq, oW_eq, oF_eq])
  first | done | rfl
@[simp] theorem e_bf_ite (a1 b1 c1 : T) (b : Bf) (r : T) : oE Φ (.bf b (.cons (.ite a1 b1 c1) r)) s = (oL Φ (.cons (.ite a1 b1 c1) r) s).bind fun xs s => R.ofO (bf1 b xs) s := by
  (try simp only [oE_eq, oL_eq, oA_eq, oV_eq, oP_eq, oI_eq, oB_eq, oBs_eq, oX_eq, oW_eq, oF_eq])
  first | done | rfl
@[simp] theorem e_bf_tup (a1 : T) (b : Bf) (r : T) : oE Φ (.bf b (.cons (.tup a1) r)) s = (oL Φ (.cons (.tup a1) r) s).bind fun xs s => R.ofO (bf1 b xs) s := by
  (try simp only [oE_eq, oL_eq, oA_eq, oV_eq, oP_eq, oI_eq, oB_eq, oBs_eq, oX_eq, oW_eq, oF_eq])
  first | done | rfl
@[simp] theorem e_bf_lst (a1 : T) (b : Bf) (r : T) : oE Φ (.bf b (.cons (.lst a1) r)) s = (oL Φ (.cons (.lst a1) r) s).bind fun xs s => R.ofO (bf1 b xs) s := by
  (try simp only [oE_eq, oL_eq, oA_eq, oV_eq, oP_eq, oI_eq, oB_eq, oBs_eq, oX_eq, oW_eq, oF_eq])
  first | done | rfl
@[simp] theorem e_bf_idx (a1 b1 : T) (b : Bf) (r : T) : oE Φ (.bf b (.cons (.idx a1 b1) r)) s = (oL Φ (.cons (.idx a1 b1) r) s).bind fun xs s => R.ofO (bf1 b xs) s := by
  (try simp only [oE_eq, oL_eq, oA_eq, oV_eq, oP_eq, oI_eq, oB_eq, oBs_eq, oX_eq, oW_eq, oF_eq])
  first | done | rfl
@[simp] theorem e_bf_slc (a1 b1 c1 : T) (b : Bf) (r : T) : oE Φ (.bf b (.cons (.slc a1 b1 c1) r)) s = (oL Φ (.cons (.slc a1 b1 c1) r) s).bind fun xs s => R.ofO (bf1 b xs) s := by
  (try simp only [oE_eq, oL_eq, oA_eq, oV_eq, oP_eq, oI_eq, oB_eq, oBs_eq, oX_eq, oW_eq, oF_eq])
  first | done | rfl
@[simp] theorem e_bf_call (f1 : Nat) (a1 : T) (b : Bf) (r : T) : oE Φ (.bf b (.cons (.call f1 a1) r)) s = (oL Φ (.cons (.call f1 a1) r) s).bind fun xs s => R.ofO (bf1 b xs) s := by
  (try simp only [oE_eq, oL_eq, oA_eq, oV_eq, oP_eq, oI_eq, oB_eq, oBs_eq, oX_eq, oW_eq, oF_eq])
  first | done | rfl
@[simp] theorem e_bf_callk (f1 : Nat) (p1 : List Nat) (a1 b1 : T) (b : Bf) (r : T) : oE Φ (.bf b (.cons (.callk f1 p1 a1 b1) r)) s = (oL Φ (.cons (.callk f1 p1 a1 b1) r) s).bind fun xs s => R.ofO (bf1 b xs) s := by
  (try simp only [oE_eq, oL_eq, oA_eq, oV_eq, oP_eq, oI_eq, oB_eq, oBs_eq, oX_eq, oW_eq, oF_eq])
  first | done | rfl
@[simp] theorem e_bf_bf (f1 : Bf) (a1 : T) (b : Bf) (r : T) : oE Φ (.bf b (.cons (.bf f1 a1) r)) s = (oL Φ (.cons (.bf f1 a1) r) s).bind fun xs s => R.ofO (bf1 b xs) s := by
  (try simp only [oE_eq, oL_eq, oA_eq, oV_eq, oP_eq, oI_eq, oB_eq, oBs_eq, oX_eq, oW_eq, oF_eq])
  first | done | rfl
@[simp] theorem e_bf_comp (o1 : List Nat) (p1 i1 c1 e1 : T) (b : Bf) (r : T) : oE Φ (.bf b (.cons (.comp o1 p1 i1 c1 e1) r)) s = (oL Φ (.cons (.comp o1 p1 i1 c1 e1) r) s).bind fun xs s => R.ofO (bf1 b xs) s := by
  (try simp only [oE_eq, oL_eq, oA_eq, oV_eq, oP_eq, oI_eq, oB_eq, oBs_eq, oX_eq, oW_eq, oF_eq])
  first | done | rfl
@[simp] theorem e_bf_two (b : Bf) (i : Nat) (a1 r : T) : oE Φ (.bf b (.cons (.var i) (.cons a1 r))) s = (oL Φ (.cons (.var i) (.cons a1 r)) s).bind fun xs s => R.ofO (bf1 b xs) s := by
  (try simp only [oE_eq, oL_eq, oA_eq, oV_eq, oP_eq, oI_eq, oB_eq, oBs_eq, oX_eq, oW_eq, oF_eq])
  first | done | rfl
@[simp] theorem p_nil' : oP Φ .nil s = .ok none s := by
  (try simp only [oE_eq, oL_eq, oA_eq, oV_eq, oP_eq, oI_eq, oB_eq, oBs_eq, oX_eq, oW_eq, oF_eq])
  first | done | rfl
@[simp] theorem p_part' (a : T) : oP Φ (.part a) s = (oE Φ a s).bind fun x s => match x with
    | .d (.int i) => .ok (some i) s
    | _ => .no := by
  (try simp only [oE_eq, oL_eq, oA_eq, oV_eq, oP_eq, oI_eq, oB_eq, oBs_eq, oX_eq, oW_eq, oF_eq])
  first | done | rfl
theorem i_rng1' (a : T) : oI Φ (.rng (.cons a .nil)) s = (oE Φ a s).bind fun x s => match x with
    | .d (.int j) => if in62 j then .ok (rangeL 0 j.toNat) s else .no
    | _ => .no := by
  (try simp only [oE_eq, oL_eq, oA_eq, oV_eq, oP_eq, oI_eq, oB_eq, oBs_eq, oX_eq, oW_eq, oF_eq])
  first | done | rfl
theorem i_rng2' (a b : T) : oI Φ (.rng (.cons a (.cons b .nil))) s = (oE Φ a s).bind fun x s => (oE Φ b s).bind fun y s => match x, y with
    | .d (.int i), .d (.int j) => if in62 i && in62 j then .ok (rangeL i (j - i).toNat) s else .no
    | _, _ => .no := by
  (try simp only [oE_eq, oL_eq, oA_eq, oV_eq, oP_eq, oI_eq, oB_eq, oBs_eq, oX_eq, oW_eq, oF_eq])
  first | done | rfl
@[simp] theorem i_it' (a : T) : oI Φ (.it a) s = (oE Φ a s).bind fun x s => match items x.dat with
    | some xs => .ok xs s
    | none => .no := by
  (try simp only [oE_eq, oL_eq, oA_eq, oV_eq, oP_eq, oI_eq, oB_eq, oBs_eq, oX_eq, oW_eq, oF_eq])
  first | done | rfl
@[simp] theorem b_var (i : Nat) (x : D) : oB Φ (.var i) x s = if i < s.length then .nx (s.set i (some (.d x))) else .no := by
  (try simp only [oE_eq, oL_eq, oA_eq, oV_eq, oP_eq, oI_eq, oB_eq, oBs_eq, oX_eq, oW_eq, oF_eq])
  first | done | rfl
@[simp] theorem b_tup (ps : T) (xs : List D) : oB Φ (.tup ps) (.tup xs) s = if plainLen ps = some xs.length then oBs Φ ps xs s else .no := by
  (try simp only [oE_eq, oL_eq, oA_eq, oV_eq, oP_eq, oI_eq, oB_eq, oBs_eq, oX_eq, oW_eq, oF_eq])
  first | done | rfl
@[simp] theorem b_idx (i : Nat) (e : T) (x : D) : oB Φ (.idx (.var i) e) x s = match peek i s with
    | none => .no
    | some _ => match oE Φ e s with
      | .ok (.d (.int k)) s => (match s[i]? with
        | some (some (.own tag xs)) => if 0 ≤ k && k.toNat < xs.length then .nx (s.set i (some (.own tag (xs.set k.toNat x)))) else .no
        | _ => .no)
      | .ex c fs s => .ex c fs s
      | _ => .no := by
  (try simp only [oE_eq, oL_eq, oA_eq, oV_eq, oP_eq, oI_eq, oB_eq, oBs_eq, oX_eq, oW_eq, oF_eq])
  first | done | rfl
@[simp] theorem bs_nil : oBs Φ .nil [] s = .nx s := by
  (try simp only [oE_eq, oL_eq, oA_eq, oV_eq, oP_eq, oI_eq, oB_eq, oBs_eq, oX_eq, oW_eq, oF_eq])
  first | done | rfl
@[simp] theorem bs_cons (p r : T) (x : D) (xs : List D) : oBs Φ (.cons p r) (x :: xs) s = match oB Φ p x s with
    | .nx s => oBs Φ r xs s
    | o => o := by
  (try simp only [oE_eq, oL_eq, oA_eq, oV_eq, oP_eq, oI_eq, oB_eq, oBs_eq, oX_eq, oW_eq, oF_eq])
  first | done | rfl
@[simp] theorem x_seq (a b : T) : oX Φ (.seq a b) s = match oX Φ a s with
    | .nx s => oX Φ b s
    | o => o := by
  (try simp only [oE_eq, oL_eq, oA_eq, oV_eq, oP_eq, oI_eq, oB_eq, oBs_eq, oX_eq, oW_eq, oF_eq])
  first | done | rfl
@[simp] theorem x_pass : oX Φ .pass s = .nx s := by
  (try simp only [oE_eq, oL_eq, oA_eq, oV_eq, oP_eq, oI_eq, oB_eq, oBs_eq, oX_eq, oW_eq, oF_eq])
  first | done | rfl
@[simp] theorem x_brk : oX Φ .brk s = .bk s := by
  (try simp only [oE_eq, oL_eq, oA_eq, oV_eq, oP_eq, oI_eq, oB_eq, oBs_eq, oX_eq, oW_eq, oF_eq])
  first | done | rfl
@[simp] theorem x_cont : oX Φ .cont s = .ct s := by
  (try simp only [oE_eq, oL_eq, oA_eq, oV_eq, oP_eq, oI_eq, oB_eq, oBs_eq, oX_eq, oW_eq, oF_eq])
  first | done | rfl
@[simp] theorem x_asgV (i : Nat) (e : T) : oX Φ (.asg (.var i) e) s = match oE Φ e s with
    | .ok v s => if i < s.length then .nx (s.set i (some v.fresh)) else .no
    | .ex c fs s => .ex c fs s
    | .no => .no := by
  (try simp only [oE_eq, oL_eq, oA_eq, oV_eq, oP_eq, oI_eq, oB_eq, oBs_eq, oX_eq, oW_eq, oF_eq])
  first | done | rfl
theorem x_asg (p e : T) (h : isVar p = false) : oX Φ (.asg p e) s = match oE Φ e s with
    | .ok v s => onlyN (oB Φ p v.dat s)
    | .ex c fs s => .ex c fs s
    | .no => .no := by
  simp only [oE_eq, oL_eq, oA_eq, oV_eq, oP_eq, oI_eq, oB_eq, oBs_eq, oX_eq]
  cases p <;> first | rfl | cases h
@[simp] theorem x_asg_tup (a1 : T) (e : T) : oX Φ (.asg (.tup a1) e) s = match oE Φ e s with
    | .ok v s => onlyN (oB Φ (.tup a1) v.dat s)
    | .ex c fs s => .ex c fs s
    | .no => .no := by
  (try simp only [oE_eq, oL_eq, oA_eq, oV_eq, oP_eq, oI_eq, oB_eq, oBs_eq, oX_eq, oW_eq, oF_eq])
  first | done | rfl
@[simp] theorem x_asg_idx (a1 b1 : T) (e : T) : oX Φ (.asg (.idx a1 b1) e) s = match oE Φ e s with
    | .ok v s => onlyN (oB Φ (.idx a1 b1) v.dat s)
    | .ex c fs s => .ex c fs s
    | .no => .no := by
  (try simp only [oE_eq, oL_eq, oA_eq, oV_eq, oP_eq, oI_eq, oB_eq, oBs_eq, oX_eq, oW_eq, oF_eq])
  first | done | rfl
@[simp] theorem x_par (is : List Nat) (es : T) : oX Φ (.par is es) s = match oV Φ es s with
    | .ok vs s => if is.length = vs.length && is.all (fun i => decide (i < s.length)) then .nx (setAll is (vs.map Vl.fresh) s) else .no
    | .ex c fs s => .ex c fs s
    | .no => .no := by
  (try simp only [oE_eq, oL_eq, oA_eq, oV_eq, oP_eq, oI_eq, oB_eq, oBs_eq, oX_eq, oW_eq, oF_eq])
  first | done | rfl
@[simp] theorem x_ex (e : T) : oX Φ (.ex e) s = match oE Φ e s with
    | .ok _ s => .nx s
    | .ex c fs s => .ex c fs s
    | .no => .no := by
  (try simp only [oE_eq, oL_eq, oA_eq, oV_eq, oP_eq, oI_eq, oB_eq, oBs_eq, oX_eq, oW_eq, oF_eq])
  first | done | rfl
@[simp] theorem x_app (i : Nat) (e : T) : oX Φ (.app i e) s = match s[i]? with
    | some (some (.own _ _)) => (match oE Φ e s with
      | .ok v s => (match s[i]? with
        | some (some (.own tag xs)) => if fitsL (xs.length + 1) then .nx (s.set i (some (.own tag (xs ++ [v.dat])))) else .no
        | _ => .no)
      | .ex c fs s => .ex c fs s
      | .no => .no)
    | _ => .no := by
  (try simp only [oE_eq, oL_eq, oA_eq, oV_eq, oP_eq, oI_eq, oB_eq, oBs_eq, oX_eq, oW_eq, oF_eq])
  first | done | rfl
@[simp] theorem x_if (c a b : T) : oX Φ (.iff c a b) s = match oE Φ c s with
    | .ok v s => onB (tru v.dat) (oX Φ a s) (oX Φ b s) .no
    | .ex c fs s => .ex c fs s
    | .no => .no := by
  (try simp only [oE_eq, oL_eq, oA_eq, oV_eq, oP_eq, oI_eq, oB_eq, oBs_eq, oX_eq, oW_eq, oF_eq])
  first | done | rfl
@[simp] theorem x_ret (e : T) : oX Φ (.ret e) s = match oE Φ e s with
    | .ok v s => .rt v s
    | .ex c fs s => .ex c fs s
    | .no => .no := by
  (try simp only [oE_eq, oL_eq, oA_eq, oV_eq, oP_eq, oI_eq, oB_eq, oBs_eq, oX_eq, oW_eq, oF_eq])
  first | done | rfl
@[simp] theorem x_retN : oX Φ .retN s = .rt (.d .non) s := by
  (try simp only [oE_eq, oL_eq, oA_eq, oV_eq, oP_eq, oI_eq, oB_eq, oBs_eq, oX_eq, oW_eq, oF_eq])
  first | done | rfl
theorem x_whl (c b : T) : oX Φ (.whl c b) s = loopN FUEL (oW Φ c b) s := by
  (try simp only [oE_eq, oL_eq, oA_eq, oV_eq, oP_eq, oI_eq, oB_eq, oBs_eq, oX_eq, oW_eq, oF_eq])
  first | done | rfl
theorem x_for (p it b : T) : oX Φ (.for p it b) s = match oI Φ it s with
    | .ok xs s => loopL (oF Φ p b) xs s
    | .ex c fs s => .ex c fs s
    | .no => .no := by
  (try simp only [oE_eq, oL_eq, oA_eq, oV_eq, oP_eq, oI_eq, oB_eq, oBs_eq, oX_eq, oW_eq, oF_eq])
  first | done | rfl
/-- one turn of a comprehension -/
noncomputable def turnC (Φ : Call) (own : List Nat) (p c e : T) : D → S → Option (Option D × S) := fun x s => match oB Φ p x s with
        | .nx s => (match oE Φ c s with
          | .ok b s => (match tru b.dat with
            | some true => (match oE Φ e s with
              | .ok v s => some (some v.dat, wipeS s own)
              | _ => none)
            | some false => some (none, wipeS s own)
            | none => none)
          | _ => none)
        | _ => none
theorem e_comp (own : List Nat) (p it c e : T) (h : isItV it = false) : oE Φ (.comp own p it c e) s = (oI Φ it s).bind fun xs s => match compL (turnC Φ own p c e) xs (wipeS s own) with
      | some (ys, s') => if fitsL ys.length then .ok (.own false ys) (unwipe s s' own) else .no
      | none => .no := by
  unfold turnC
  rw [oE_eq, oI_eq, oB_eq]
  cases it <;> first | rfl | cases h
theorem e_compV (own : List Nat) (i : Nat) (p c e : T) (tag : Bool) (xs : List D) (h : s[i]? = some (some (.own tag xs))) : oE Φ (.comp own p (.itv i) c e) s = match compL (turnC Φ own p c e) xs (wipeS (s.set i none) own) with
      | some (ys, s') => if fitsL ys.length && !own.contains i then .ok (.own false ys) ((unwipe (s.set i none) s' own).set i (some (.own tag xs))) else .no
      | none => .no := by
  unfold turnC
  rw [oE_eq, oB_eq]
  have he : ownIt (.itv i) s = some (i, tag, xs) := by
    show (match s[i]? with
      | some (some (.own tag xs)) => some (i, tag, xs)
      | _ => none) = _
    rw [h]
  show (match ownIt (.itv i) s with
    | some (i, tag, xs) => (match compL (stepC Φ own p c e) xs (wipeS (s.set i none) own) with
      | some (ys, s') => if fitsL ys.length && !own.contains i then (R.ok (Vl.own false ys) ((unwipe (s.set i none) s' own).set i (some (.own tag xs))) : R Vl) else R.no
      | none => R.no)
    | none => (evI Φ (.itv i) s).bind fun xs s => match compL (stepC Φ own p c e) xs (wipeS s own) with
      | some (ys, s') => if fitsL ys.length then .ok (.own false ys) (unwipe s s' own) else .no
      | none => (.no : R Vl)) = _
  rw [he]
  rfl
end
section
variable {s : S}
@[simp] theorem rdV_s (i : Nat) : rdV i s = match s[i]? with
  | some (some (.d x)) => .ok (.d x) s
  | some (some (.own true xs)) => .ok (.d (.lst xs)) (s.set i (some (.fz xs)))
  | some (some (.own false xs)) => .ok (.d (.lst xs)) (s.set i (some (.d (.lst xs))))
  | some (some (.fz xs)) => .ok (.d (.lst xs)) s
  | _ => .no := rfl
@[simp] theorem peek_s (i : Nat) : peek i s = match s[i]? with
  | some (some v) => some v.dat
  | _ => none := rfl
@[simp] theorem tru_n : tru .non = some false := rfl
@[simp] theorem tru_b (b : Bool) : tru (.bl b) = some b := rfl
@[simp] theorem tru_i (i : Int) : tru (.int i) = some (i != 0) := rfl
@[simp] theorem tru_l (xs : List D) : tru (.lst xs) = some (!xs.isEmpty) := rfl
@[simp] theorem tru_t (xs : List D) : tru (.tup xs) = some (!xs.isEmpty) := rfl
@[simp] theorem bin_add (i j : Int) : bin .Add (.int i) (.int j) = some (.d (.int (i + j))) := rfl
@[simp] theorem bin_sub (i j : Int) : bin .Sub (.int i) (.int j) = some (.d (.int (i - j))) := rfl
theorem bin_mul {i j : Int} (h : mulOk i j = true) : bin .Mult (.int i) (.int j) = some (.d (.int (i * j))) := if_pos h
theorem bin_div {i j : Int} (h : 0 < j) (h2 : j.natAbs < W4) : bin .FloorDiv (.int i) (.int j) = some (.d (.int (i / j))) := by
  show (if divOk j then some (Vl.d (.int (if 0 < j then i / j else i.fdiv j))) else none) = _
  rw [if_pos (by unfold divOk; rw [Bool.and_eq_true]; exact ⟨decide_eq_true (by omega), decide_eq_true h2⟩), if_pos h]
theorem bin_fdiv {i j : Int} (h : j ≠ 0) (h2 : j.natAbs < W4) : bin .FloorDiv (.int i) (.int j) = some (.d (.int (i.fdiv j))) := by
  show (if divOk j then some (Vl.d (.int (if 0 < j then i / j else i.fdiv j))) else none) = _
  rw [if_pos (by unfold divOk; rw [Bool.and_eq_true]; exact ⟨decide_eq_true h, decide_eq_true h2⟩)]
  by_cases p : 0 < j
  · rw [if_pos p, Int.fdiv_eq_ediv_of_nonneg i (by omega)]
  · rw [if_neg p]
theorem bin_mod {i j : Int} (h : 0 < j) : bin .Mod (.int i) (.int j) = some (.d (.int (i % j))) := by
  show (if j = 0 then none else some (Vl.d (.int (if 0 < j then i % j else i.fmod j)))) = _
  rw [if_neg (by omega), if_pos h]
theorem bin_pow {i j : Int} (h : 0 ≤ j) (h2 : j ≤ 1000000) (h3 : i.natAbs < W64) : bin .Pow (.int i) (.int j) = some (.d (.int (i ^ j.toNat))) := if_pos (by simp [h, h2, h3])
@[simp] theorem cmp_lt (i j : Int) : cmp .Lt (.int i) (.int j) = some (decide (i < j)) := rfl
@[simp] theorem cmp_le (i j : Int) : cmp .LtE (.int i) (.int j) = some (decide (i ≤ j)) := rfl
@[simp] theorem cmp_gt (i j : Int) : cmp .Gt (.int i) (.int j) = some (decide (j < i)) := rfl
@[simp] theorem cmp_ge (i j : Int) : cmp .GtE (.int i) (.int j) = some (decide (j ≤ i)) := rfl
@[simp] theorem cmp_eq (i j : Int) : cmp .Eq (.int i) (.int j) = some (decide (i = j)) := rfl
@[simp] theorem cmp_ne (i j : Int) : cmp .NotEq (.int i) (.int j) = some (!decide (i = j)) := rfl
@[simp] theorem cmp_eqs (i j : PySem.Str) : cmp .Eq (.str i) (.str j) = some (decide (i = j)) := rfl
@[simp] theorem cmp_nes (i j : PySem.Str) : cmp .NotEq (.str i) (.str j) = some (!decide (i = j)) := rfl
@[simp] theorem idx_l (xs : List D) (i : Int) : index (.lst xs) (.int i) = at_ xs i := rfl
@[simp] theorem idx_t (xs : List D) (i : Int) : index (.tup xs) (.int i) = at_ xs i := rfl
theorem at_pos (xs : List D) {i : Int} (h : 0 ≤ i) : at_ xs i = xs[i.toNat]? := if_pos h
@[simp] theorem at_lit (xs : List D) (n : Nat) : at_ xs (OfNat.ofNat (n + 2)) = xs[n + 2]? := if_pos (Int.natCast_nonneg _)
@[simp] theorem at_0 (xs : List D) : at_ xs 0 = xs[0]? := rfl
@[simp] theorem at_1 (xs : List D) : at_ xs 1 = xs[1]? := rfl
@[simp] theorem at_2 (xs : List D) : at_ xs 2 = xs[2]? := rfl
@[simp] theorem at_nat (xs : List D) (n : Nat) : at_ xs (n : Int) = xs[n]? := if_pos (Int.natCast_nonneg _)
@[simp] theorem bf_lenl (xs : List D) : bf1 .len [.lst xs] = some (.d (.int xs.length)) := rfl
@[simp] theorem bf_lent (xs : List D) : bf1 .len [.tup xs] = some (.d (.int xs.length)) := rfl
@[simp] theorem bf_abs (i : Int) : bf1 .abs [.int i] = some (.d (.int i.natAbs)) := rfl
@[simp] theorem bf_max2 (i j : Int) : bf1 .max [.int i, .int j] = some (.d (.int (if j > i then j else i))) := rfl
@[simp] theorem bf_min2 (i j : Int) : bf1 .min [.int i, .int j] = some (.d (.int (if j < i then j else i))) := rfl
@[simp] theorem bf_int (i : Int) : bf1 .int [.int i] = some (.d (.int i)) := rfl
theorem bf_is (x : D) (n : String) : bf1 .isinst [x, .ty n] = if tyNames.contains n then (isTy x n).map (.d ∘ .bl) else none := rfl
@[simp] theorem bf_is_int (i : Int) : bf1 .isinst [.int i, .ty "int"] = some (.d (.bl true)) := rfl
@[simp] theorem bf_is_bool (i : Int) : bf1 .isinst [.int i, .ty "bool"] = some (.d (.bl false)) := rfl
@[simp] theorem bf_is_tup (xs : List D) : bf1 .isinst [.tup xs, .ty "tuple"] = some (.d (.bl true)) := rfl
@[simp] theorem bf_all (xs : List D) : bf1 .all [.lst xs] = (boolsOf xs).map fun bs => .d (.bl (bs.all id)) := rfl
theorem bf_divmod {i j : Int} (h : 0 < j) (h2 : j.natAbs < W4) : bf1 .divmod [.int i, .int j] = some (.d (.tup [.int (i / j), .int (i % j)])) := if_pos (by simp [h, h2])
@[simp] theorem fits_s (n : Nat) : fitsL n = decide (n ≤ 16777216) := rfl
@[simp] theorem items_l (xs : List D) : items (.lst xs) = some xs := rfl
@[simp] theorem items_t (xs : List D) : items (.tup xs) = some xs := rfl
@[simp] theorem lend_nil : lend [] s = some ([], s) := rfl
@[simp] theorem lend_val (v : Vl) (r : List Ag) : lend (.val v :: r) s = (lend r s).map fun p => (v :: p.1, p.2) := rfl
@[simp] theorem lend_ref (i : Nat) (r : List Ag) : lend (.ref i :: r) s = match s[i]? with
    | some (some (.own _ xs)) => (lend r (s.set i none)).map fun p => (.own true xs :: p.1, p.2)
    | some (some (.fz xs)) => (lend r s).map fun p => (.d (.lst xs) :: p.1, p.2)
    | some (some (.d x)) => (lend r s).map fun p => (.d x :: p.1, p.2)
    | _ => none := rfl
@[simp] theorem back_nil (os : List (Option Vl)) : back [] os s = s := by cases os <;> rfl
@[simp] theorem back_val (v : Vl) (r : List Ag) (o : Option Vl) (os : List (Option Vl)) : back (.val v :: r) (o :: os) s = back r os s := rfl
@[simp] theorem back_ref (i : Nat) (r : List Ag) (o : Option Vl) (os : List (Option Vl)) : back (.ref i :: r) (o :: os) s = back r os (match s[i]? with
    | some (some (.own tag _)) => s.set i (back1 o tag)
    | _ => s) := rfl
@[simp] theorem back1_own (t tag : Bool) (ys : List D) : back1 (some (.own t ys)) tag = some (.own tag ys) := rfl
@[simp] theorem setAll_nil (vs : List Vl) : setAll [] vs s = s := by cases vs <;> rfl
@[simp] theorem setAll_cons (i : Nat) (is : List Nat) (v : Vl) (vs : List Vl) : setAll (i :: is) (v :: vs) s = setAll is vs (s.set i (some v)) := rfl
@[simp] theorem stepW_s (Φ : Call) (c b : T) : oW Φ c b s = match oE Φ c s with
    | .ok v s => onB (tru v.dat) (match oX Φ b s with | .ct s => .nx s | o => o) (.bk s) .no
    | .ex c fs s => .ex c fs s
    | .no => .no := by
  (try simp only [oE_eq, oL_eq, oA_eq, oV_eq, oP_eq, oI_eq, oB_eq, oBs_eq, oX_eq, oW_eq, oF_eq])
  first | done | rfl
@[simp] theorem isVar1_c (a b r : T) : isVar1 (.cons a (.cons b r)) = false := by cases a <;> rfl
@[simp] theorem isVar1_a (a r : T) (h : isVar a = false) : isVar1 (.cons a r) = false := by cases a <;> first | rfl | cases h
@[simp] theorem onlyN_nx : onlyN (.nx s) = .nx s := rfl
@[simp] theorem plain_nil : plainLen .nil = some 0 := rfl
@[simp] theorem plain_cons (a r : T) : plainLen (.cons a r) = (plainLen r).map (· + 1) := rfl
@[simp] theorem isVar_v (i : Nat) : isVar (.var i) = true := rfl
@[simp] theorem loopL_nil (f : D → S → O) : loopL f [] s = .nx s := rfl
@[simp] theorem loopL_cons (f : D → S → O) (x : D) (r : List D) : loopL f (x :: r) s = match f x s with
    | .nx s' => loopL f r s'
    | .ct s' => loopL f r s'
    | .bk s' => .nx s'
    | o => o := rfl
@[simp] theorem stepF_s (Φ : Call) (p b : T) (x : D) : oF Φ p b x s = match onlyN (oB Φ p x s) with
      | .nx s => oX Φ b s
      | o => o := by
  (try simp only [oE_eq, oL_eq, oA_eq, oV_eq, oP_eq, oI_eq, oB_eq, oBs_eq, oX_eq, oW_eq, oF_eq])
  first | done | rfl
end
theorem zip_more {α β : Type} : ∀ (r : List α) (l m : List β), r.length ≤ l.length → r.zip (l ++ m) = r.zip l
  | [], _, _, _ => rfl
  | _ :: _, [], _, h => by simp at h
  | a :: r, b :: l, m, h => by
    show (a, b) :: r.zip (l ++ m) = _
    rw [zip_more r l m (by simpa using h)]
    rfl
def out1 (a : Vl) (o : Option Vl) : Option Vl := match a, o with
  | .own _ _, some (.own true ys) => some (.own true ys)
  | .own _ _, some (.fz ys) => some (.fz ys)
  | _, _ => none
@[simp] theorem out1_d (x : D) (o : Option Vl) : out1 (.d x) o = none := by cases o <;> rfl
@[simp] theorem out1_own (t : Bool) (x ys : List D) : out1 (.own t x) (some (.own true ys)) = some (.own true ys) := rfl
@[simp] theorem out1_fz (t : Bool) (x ys : List D) : out1 (.own t x) (some (.fz ys)) = some (.fz ys) := rfl
@[simp] theorem out1_od (a : Vl) (x : D) : out1 a (some (.d x)) = none := by cases a <;> rfl
@[simp] theorem out1_of (a : Vl) (x : List D) : out1 a (some (.own false x)) = none := by cases a <;> rfl
@[simp] theorem out1_none (a : Vl) : out1 a none = none := by cases a <;> rfl
@[simp] theorem outs_nil (s : S) : outs [] s = [] := by simp [outs]
@[simp] theorem outs_cons (a : Vl) (r : List Vl) (o : Option Vl) (s : S) : outs (a :: r) (o :: s) = out1 a o :: outs r s := by
  have e : List.replicate (r.length + 1) (none : Option Vl) = List.replicate r.length none ++ [none] := List.replicate_succ'
  show (((a :: r).zip (o :: (s ++ List.replicate (r.length + 1) none))).map fun p => out1 p.1 p.2) = out1 a o :: ((r.zip (s ++ List.replicate r.length none)).map fun p => out1 p.1 p.2)
  rw [e, ← List.append_assoc, List.zip_cons_cons, List.map_cons, zip_more r _ _ (by simp)]
theorem in62n {n : Nat} (h : n ≤ 1000000000) : in62 (n : Int) = true := by
  unfold in62
  rw [Bool.and_eq_true]
  exact ⟨decide_eq_true (by omega), decide_eq_true (by omega)⟩
theorem in62i {i : Int} (h : i.natAbs ≤ 1000000000) : in62 i = true := by
  unfold in62
  rw [Bool.and_eq_true]
  exact ⟨decide_eq_true (by omega), decide_eq_true (by omega)⟩
theorem rng1_of {Φ : Call} {a : T} {s s' : S} {n : Nat} (h : oE Φ a s = .ok (.d (.int (n : Int))) s') (hn : n ≤ 1000000000) : oI Φ (.rng (.cons a .nil)) s = .ok (rangeL 0 n) s' := by
  rw [i_rng1', h, bind_ok']
  dsimp only
  rw [in62n hn, Int.toNat_natCast]
  rfl
theorem rng2_of {Φ : Call} {a b : T} {s s1 s2 : S} {i j : Int} (h : oE Φ a s = .ok (.d (.int i)) s1) (h2 : oE Φ b s1 = .ok (.d (.int j)) s2) (hi : i.natAbs ≤ 1000000000) (hj : j.natAbs ≤ 1000000000) : oI Φ (.rng (.cons a (.cons b .nil))) s = .ok (rangeL i (j - i).toNat) s2 := by
  rw [i_rng2', h, bind_ok', h2, bind_ok']
  dsimp only
  rw [in62i hi, in62i hj]
  rfl
/-! ### lists of whole numbers: shown, compared -/
open PySem in
theorem toPys_int : ∀ ns : List Int, toPys (ns.map .int) = some (ns.map .int)
  | [] => rfl
  | n :: ns => by
    show (match toPy (.int n), toPys (ns.map .int) with
      | some d, some ds => some (d :: ds)
      | _, _ => none) = _
    rw [toPys_int ns]
    rfl
open PySem in
theorem can_int : ∀ ns : List Int, PyData.canLayAll0 (ns.map .int) = true
  | [] => rfl
  | n :: ns => by
    show (PyData.canLay0 (.int n) && PyData.canLayAll0 (ns.map .int)) = true
    rw [can_int ns]
    rfl
open PySem in
theorem depth_int : ∀ ns : List Int, PyData.depthAll (ns.map .int) = 0
  | [] => rfl
  | n :: ns => by
    show max (PyData.depth (.int n)) (PyData.depthAll (ns.map .int)) = 0
    rw [depth_int ns]
    rfl
open PySem in
theorem eqv_int : ∀ ns : List Int, PyData.eqvAll (ns.map .int) (ns.map .int) = true
  | [] => rfl
  | n :: ns => by
    show (PyData.eqv (.int n) (.int n) && PyData.eqvAll (ns.map .int) (ns.map .int)) = true
    rw [eqv_int ns, Bool.and_true]
    show (n == n) = true
    simp
open PySem in
theorem eq_ints (ns : List Int) : eqD (.lst (ns.map .int)) (.lst (ns.map .int)) = some true := by
  have t : toPy (.lst (ns.map .int)) = some (.list (ns.map .int)) := by
    show (toPys _).map PyData.list = _
    rw [toPys_int]
    rfl
  have sh : SeqAt.shaped (.list (ns.map .int)) = true := by
    show (PyData.canLayAll0 (ns.map .int) && decide (PyData.depthAll (ns.map .int) + 1 ≤ 64)) = true
    rw [can_int, depth_int]
    rfl
  show (match toPy (.lst (ns.map .int)), toPy (.lst (ns.map .int)) with
    | some d, some e => if SeqAt.shaped d && SeqAt.shaped e then some (PyData.eqv d e) else none
    | _, _ => none) = _
  rw [t]
  dsimp only
  rw [sh]
  show some (PyData.eqvAll (ns.map .int) (ns.map .int)) = _
  rw [eqv_int]
theorem ne_ints (ns : List Int) : cmp .NotEq (.lst (ns.map .int)) (.lst (ns.map .int)) = some false := by
  show (eqD _ _).map not = _
  rw [eq_ints]
  rfl
theorem eq_ints' (ns : List Int) : cmp .Eq (.lst (ns.map .int)) (.lst (ns.map .int)) = some true := eq_ints ns
open PySem in
theorem showable_int : ∀ ns : List Int, (∀ n ∈ ns, n.natAbs.log2 < 1920) → PyData.showableAll (ns.map .int) = true
  | [], _ => rfl
  | n :: ns, h => by
    show (decide (n.natAbs.log2 < 1920) && PyData.showableAll (ns.map .int)) = true
    rw [showable_int ns fun m hm => h m (List.mem_cons_of_mem _ hm), Bool.and_true]
    exact decide_eq_true (h n List.mem_cons_self)
open PySem in
theorem nodict_int : ∀ ns : List Int, PyData.hasDictAll (ns.map .int) = false
  | [] => rfl
  | n :: ns => by
    show (PyData.hasDict (.int n) || PyData.hasDictAll (ns.map .int)) = false
    rw [nodict_int ns]
    rfl
open PySem in
theorem short_int : ∀ ns : List Int, (∀ n ∈ ns, n.natAbs.log2 < 400) → PyData.leavesShortAll 401 (ns.map .int) = true
  | [], _ => rfl
  | n :: ns, h => by
    show (decide ((PyData.shown (.int n)).length ≤ 401) && PyData.leavesShortAll 401 (ns.map .int)) = true
    rw [short_int ns fun m hm => h m (List.mem_cons_of_mem _ hm), Bool.and_true]
    refine decide_eq_true ?_
    have e := int_text_length_le (a := n) (k := 400) (by decide) (h n List.mem_cons_self)
    show (Str.ofString (toString n)).length ≤ 401
    rw [ofString_length]
    exact e
open PySem in
theorem weight_int' : ∀ ns : List Int, (∀ n ∈ ns, n.natAbs.log2 < 400) → PyData.weightAll (ns.map .int) ≤ ns.length * 402
  | [], _ => Nat.le_refl _
  | n :: ns, h => by
    have a := weight_int' ns fun m hm => h m (List.mem_cons_of_mem _ hm)
    have b := h n List.mem_cons_self
    show (if n == 0 then 0 else n.natAbs.log2 + 1) + 1 + PyData.weightAll (ns.map .int) ≤ (ns.length + 1) * 402
    split <;> omega
open PySem in
theorem repr_ints (ns : List Int) (h : ∀ n ∈ ns, n.natAbs.log2 < 400) (hl : ns.length ≤ 8) : bf1 .repr [.lst (ns.map .int)] = some (.d (.str (PyData.list (ns.map .int)).shown)) := by
  have t : toPy (.lst (ns.map .int)) = some (.list (ns.map .int)) := by
    show (toPys _).map PyData.list = _
    rw [toPys_int]
    rfl
  have w := weight_int' ns h
  have sl := PyData.shown_le 401 (by decide) (.list (ns.map .int)) (short_int ns h)
  have w2 : (PyData.list (ns.map .int)).weight ≤ 3216 := Nat.le_trans w (by omega)
  have c : ((PyData.list (ns.map .int)).showable && !(PyData.list (ns.map .int)).hasDict && decide ((PyData.list (ns.map .int)).depth ≤ 64) && fitsL (PyData.list (ns.map .int)).shown.length) = true := by
    have h1 : (PyData.list (ns.map .int)).showable = true := showable_int ns fun n hn => Nat.lt_trans (h n hn) (by decide)
    have h2 : (PyData.list (ns.map .int)).hasDict = false := nodict_int ns
    have h3 : (PyData.list (ns.map .int)).depth = 1 := by
      show PyData.depthAll (ns.map .int) + 1 = 1
      rw [depth_int]
    rw [h1, h2, h3]
    exact decide_eq_true (by omega)
  show (match toPy (.lst (ns.map .int)) with
    | some d => if d.showable && !d.hasDict && decide (d.depth ≤ 64) && fitsL d.shown.length then some (Vl.d (.str d.shown)) else none
    | none => none) = _
  rw [t]
  dsimp only
  rw [c]
  rfl
theorem log_of {n : Int} (h : n.natAbs < 2 ^ 400) : n.natAbs.log2 < 400 := PySem.Flt.log2_lt_of (by decide) h
/-- a call, opened -/
theorem run_at {fns : List Fn} {d k : Nat} {f : Fn} {args : List Vl} (h : fns[k]? = some f) (ha : args.length = f.np) : oRun fns (d + 1) k args = match oX (oRun fns d) f.body (startS f.n args) with
      | .rt v s => .ok (v, outs args s) []
      | .nx s => .ok (.d .non, outs args s) []
      | .ex c fs s => .ex c fs (outs args s)
      | _ => .no := by
  rw [oX_eq, oRun_eq]
  show (match fns[k]? with
    | none => (.no : MI.R (Vl × List (Option Vl)))
    | some f => if args.length = f.np then (match exS (run fns d) f.body (startS f.n args) with
      | .rt v s => .ok (v, outs args s) []
      | .nx s => .ok (.d .non, outs args s) []
      | .ex c fs s => .ex c fs (outs args s)
      | _ => .no) else .no) = _
  rw [h]
  exact if_pos ha
/-- statements one after another -/
theorem x_seq_nx {Φ : Call} {a b : T} {s s' : S} (h : oX Φ a s = .nx s') : oX Φ (.seq a b) s = oX Φ b s' := by
  rw [x_seq, h]
theorem run_rt {fns : List Fn} {d k : Nat} {f : Fn} {args : List Vl} {v : Vl} {s : S} (h : fns[k]? = some f) (ha : args.length = f.np) (e : oX (oRun fns d) f.body (startS f.n args) = .rt v s) : oRun fns (d + 1) k args = .ok (v, outs args s) [] := by
  rw [run_at h ha, e]
end MI

set_option Elab.async false
set_option linter.all false
set_option maxRecDepth 100000
set_option maxHeartbeats 4000000
/-! The typed reading: a def as a plain Lean function in M; the judgement Tr that ties it to the evaluator. -/
namespace MK
open MI

/-! ### results -/
inductive M (α : Type) where
  | ok (a : α) | ex (c : Nat) (fs : List D) | no
namespace M
variable {α β γ : Type}
def bind (m : M α) (f : α → M β) : M β := match m with
  | .ok a => f a
  | .ex c fs => .ex c fs
  | .no => .no
@[simp] theorem ok_bind (a : α) (f : α → M β) : (M.ok a).bind f = f a := rfl
@[simp] theorem ex_bind (c : Nat) (fs : List D) (f : α → M β) : (M.ex c fs : M α).bind f = .ex c fs := rfl
@[simp] theorem no_bind (f : α → M β) : (M.no : M α).bind f = .no := rfl
theorem bind_assoc (m : M α) (f : α → M β) (g : β → M γ) : (m.bind f).bind g = m.bind fun a => (f a).bind g := by cases m <;> rfl
def ofO : Option α → M α
  | some a => .ok a
  | none => .no
@[simp] theorem ofO_some (a : α) : ofO (some a) = .ok a := rfl
@[simp] theorem ofO_none : ofO (none : Option α) = .no := rfl
end M

/-! ### descriptors of slots, of values, of ends -/
inductive SD where
  | any | dat (x : D) | prm (v : Vl) | own (t : Bool) (xs : List D)
def frz : Vl → Vl
  | .own true xs => .fz xs
  | .own false xs => .d (.lst xs)
  | v => v
def SD.Ok : SD → Option Vl → Prop
  | .any, _ => True
  | .dat x, o => ∃ v, o = some v ∧ v.dat = x
  | .prm v, o => o = some v ∨ o = some (frz v)
  | .own t xs, o => o = some (.own t xs)
structure St (Γ : List SD) (s : S) : Prop where
  len : s.length = Γ.length
  ok : ∀ (i : Nat) d, Γ[i]? = some d → ∃ o, s[i]? = some o ∧ d.Ok o
/-- the datum of a slot so described -/
def SD.Has : SD → D → Prop
  | .any, _ => False
  | .dat x, y => x = y
  | .prm v, y => v.dat = y
  | .own _ xs, y => .lst xs = y
inductive Le : SD → SD → Prop where
  | r (d : SD) : Le d d
  | a (d : SD) : Le d .any
  | o (t : Bool) (xs : List D) : Le (.own t xs) (.dat (.lst xs))
  | p {v : Vl} {x : D} (h : v.dat = x) : Le (.prm v) (.dat x)
inductive Wk : List SD → List SD → Prop where
  | nil : Wk [] []
  | cons {a b : SD} {l m : List SD} (h : Le a b) (t : Wk l m) : Wk (a :: l) (b :: m)
inductive OD where
  | nx (Γ : List SD) | bk (Γ : List SD) | ct (Γ : List SD) | go (Γ : List SD) | rt (v : Vl) (Γ : List SD) | fin (v : Vl) (Γ : List SD)
def OD.Ok : OD → O → Prop
  | .nx Γ, o => ∃ s, o = .nx s ∧ St Γ s
  | .bk Γ, o => ∃ s, o = .bk s ∧ St Γ s
  | .ct Γ, o => ∃ s, o = .ct s ∧ St Γ s
  | .go Γ, o => ∃ s, (o = .nx s ∨ o = .ct s) ∧ St Γ s
  | .rt v Γ, o => ∃ s, o = .rt v s ∧ St Γ s
  | .fin v Γ, o => ∃ s, St Γ s ∧ (o = .rt v s ∨ (o = .nx s ∧ v = .d .non))
def OutOk {α : Type} (G : α → OD) : M α → O → Prop
  | .ok a, o => (G a).Ok o
  | .ex c fs, o => ∃ s, o = .ex c fs s
  | .no, _ => True
structure Tr {α : Type} (G : α → OD) (Γ : List SD) (m : M α) (f : S → O) : Prop where
  run : ∀ s, St Γ s → OutOk G m (f s)
instance {α : Type} {G : α → OD} {Γ : List SD} {m : M α} {f : S → O} : CoeFun (Tr G Γ m f) fun _ => ∀ s, St Γ s → OutOk G m (f s) := ⟨Tr.run⟩

theorem St.get {Γ : List SD} {s : S} {i : Nat} {d : SD} (h : St Γ s) (e : Γ[i]? = some d) : ∃ o, s[i]? = some o ∧ d.Ok o := h.ok i d e
theorem St.set {Γ : List SD} {s : S} {d : SD} {o : Option Vl} (h : St Γ s) (i : Nat) (k : d.Ok o) : St (Γ.set i d) (s.set i o) := by
  refine ⟨by simp [h.len], fun j d' e => ?_⟩
  by_cases hij : i = j
  · subst hij
    have hl : i < Γ.length := by
      have := (List.getElem?_eq_some_iff.mp e).1
      simpa using this
    rw [List.getElem?_set_self hl] at e
    cases e
    exact ⟨o, List.getElem?_set_self (by rw [h.len]; exact hl), k⟩
  · rw [List.getElem?_set_ne hij] at e
    rw [List.getElem?_set_ne hij]
    exact h.ok j d' e
/-- a slot that becomes what its descriptor allows too -/
theorem St.setSame {Γ : List SD} {s : S} {d : SD} {i : Nat} {o : Option Vl} (h : St Γ s) (e : Γ[i]? = some d) (k : d.Ok o) : St Γ (s.set i o) := by
  have := h.set i k
  rwa [show Γ.set i d = Γ from ?_] at this
  exact List.ext_getElem? fun j => by
    by_cases hij : i = j
    · subst hij
      rw [List.getElem?_set_self (List.getElem?_eq_some_iff.mp e).1, e]
    · rw [List.getElem?_set_ne hij]
theorem Le.ok {a b : SD} {o : Option Vl} (h : Le a b) (k : a.Ok o) : b.Ok o := by
  cases h with
  | r => exact k
  | a => trivial
  | o t xs => exact ⟨_, k, rfl⟩
  | @p v x e =>
    rcases k with rfl | rfl
    · exact ⟨_, rfl, e⟩
    · refine ⟨_, rfl, ?_⟩
      rw [← e]
      cases v with
      | d y => rfl
      | fz y => rfl
      | own t y => cases t <;> rfl
theorem frz_dat (v : Vl) : (frz v).dat = v.dat := by
  cases v with
  | d y => rfl
  | fz y => rfl
  | own t y => cases t <;> rfl
theorem Wk.len {l m : List SD} (h : Wk l m) : l.length = m.length := by
  induction h with
  | nil => rfl
  | cons _ _ ih => simp [ih]
theorem Wk.get {l m : List SD} (h : Wk l m) : ∀ {i : Nat} {d : SD}, m[i]? = some d → ∃ d', l[i]? = some d' ∧ Le d' d := by
  induction h with
  | nil => intro i d e; simp at e
  | cons h t ih =>
    intro i d e
    cases i with
    | zero => simp at e; subst e; exact ⟨_, rfl, h⟩
    | succ i => exact ih (by simpa using e)
theorem Wk.st {Γ Γ' : List SD} {s : S} (w : Wk Γ Γ') (h : St Γ s) : St Γ' s := by
  refine ⟨h.len.trans w.len, fun i d e => ?_⟩
  obtain ⟨d', e1, l⟩ := w.get e
  obtain ⟨o, e2, k⟩ := h.ok i d' e1
  exact ⟨o, e2, l.ok k⟩
theorem SD.Has.peek {d : SD} {x : D} {o : Option Vl} (h : d.Has x) (k : d.Ok o) : ∃ v, o = some v ∧ v.dat = x := by
  cases d with
  | any => exact h.elim
  | dat y => cases h; exact k
  | prm v =>
    rcases k with rfl | rfl
    · exact ⟨_, rfl, h⟩
    · exact ⟨_, rfl, by rw [frz_dat]; exact h⟩
  | own t xs => exact ⟨_, k, h⟩

section
variable {α β σ ρ : Type} {Φ : Call} {Γ Γ' : List SD} {G : α → OD} {m : M α} {f : Vl → S → O} {κ : S → O}

theorem Tr.wk (w : Wk Γ Γ') (h : Tr G Γ' m κ) : Tr G Γ m κ := .mk fun s hs => h s (w.st hs)
theorem Tr.no {f : S → O} : Tr G Γ .no f := .mk fun _ _ => trivial

/-! ### running on -/
def _root_.MI.R.toO {α : Type} (r : R α) (f : α → S → O) : O := match r with
  | .ok a s => f a s
  | .ex c fs s => .ex c fs s
  | .no => .no
theorem toO_bind {α β : Type} (r : R α) (g : α → S → R β) (f : β → S → O) : (r.bind g).toO f = r.toO fun a s => (g a s).toO f := by cases r <;> rfl
def sq (κ : S → O) : O → O
  | .nx s => κ s
  | o => o
theorem sq_nx (o : O) : sq .nx o = o := by cases o <;> rfl
def opO (o : Option Vl) (f : Vl → S → O) (s : S) : O := match o with
  | some v => f v s
  | none => .no
theorem toO_ofO (o : Option Vl) (f : Vl → S → O) (s : S) : (R.ofO o s).toO f = opO o f s := by cases o <;> rfl
def brn (o : Option Bool) (a b : O) : O := match o with
  | some true => a
  | some false => b
  | none => .no
def put (i : Nat) (v : Vl) (κ : S → O) (s : S) : O := if i < s.length then κ (s.set i (some v.fresh)) else .no

/-! ### expressions: pure ones -/
/-- a datum, the slots' descriptors kept -/
def PE (Φ : Call) (Γ : List SD) (t : T) (x : D) : Prop := ∀ s, St Γ s → ∃ s', oE Φ t s = .ok (.d x) s' ∧ St Γ s'
/-- a list of its own -/
def PF (Φ : Call) (Γ : List SD) (t : T) (xs : List D) : Prop := ∀ s, St Γ s → ∃ s', oE Φ t s = .ok (.own false xs) s' ∧ St Γ s'
/-- either -/
def PV (Φ : Call) (Γ : List SD) (t : T) (x : D) : Prop := ∀ s, St Γ s → ∃ v s', oE Φ t s = .ok v s' ∧ v.dat = x ∧ St Γ s'
theorem PE.v {t : T} {x : D} (h : PE Φ Γ t x) : PV Φ Γ t x := fun s hs => by
  obtain ⟨s', e, h'⟩ := h s hs
  exact ⟨_, s', e, rfl, h'⟩
theorem PF.v {t : T} {x : List D} (h : PF Φ Γ t x) : PV Φ Γ t (.lst x) := fun s hs => by
  obtain ⟨s', e, h'⟩ := h s hs
  exact ⟨_, s', e, rfl, h'⟩
inductive PVs (Φ : Call) (Γ : List SD) : T → List D → Prop where
  | nil : PVs Φ Γ .nil []
  | cons {a r : T} {x : D} {xs : List D} (h : PV Φ Γ a x) (t : PVs Φ Γ r xs) : PVs Φ Γ (.cons a r) (x :: xs)
theorem PVs.run {ts : T} {xs : List D} (h : PVs Φ Γ ts xs) : ∀ s, St Γ s → ∃ s', oL Φ ts s = .ok xs s' ∧ St Γ s' := by
  induction h with
  | nil => exact fun s hs => ⟨s, l_nil', hs⟩
  | cons h t ih =>
    intro s hs
    obtain ⟨v, s1, e1, rfl, h1⟩ := h s hs
    obtain ⟨s2, e2, h2⟩ := ih s1 h1
    exact ⟨s2, by rw [l_cons', e1, bind_ok', e2, bind_ok'], h2⟩
theorem PVs.len {ts : T} {xs : List D} (h : PVs Φ Γ ts xs) : plainLen ts = some xs.length := by
  induction h with
  | nil => rfl
  | cons _ _ ih => rw [plain_cons, ih]; rfl
def notL : D → Bool
  | .lst _ => false
  | _ => true
/-- a slot read -/
theorem pe_var {i : Nat} {d : SD} {x : D} (e : Γ[i]? = some d) (h : d.Has x) (n : ∀ t xs, d ≠ .own t xs) : PE Φ Γ (.var i) x := fun s hs => by
  obtain ⟨o, es, k⟩ := hs.get e
  have fzOk : ∀ t xs, o = some (.own t xs) → d.Ok (some (frz (.own t xs))) := fun t xs q => by
    cases d with
    | any => exact h.elim
    | dat y =>
      obtain ⟨v, q1, q2⟩ := k
      rw [q] at q1
      cases q1
      exact ⟨_, rfl, (frz_dat _).trans q2⟩
    | prm v =>
      rcases k with q1 | q1
      · rw [q] at q1; cases q1; exact .inr rfl
      · rw [q] at q1
        have q1 := Option.some.inj q1
        cases v with
        | d y => cases q1
        | fz y => cases q1
        | own u y => cases u <;> cases q1
    | own t xs => exact absurd rfl (n _ _)
  obtain ⟨v, rfl, hv⟩ := h.peek k
  cases v with
  | d y => cases hv; exact ⟨s, by rw [e_var, rdV_s, es]; rfl, hs⟩
  | fz y => cases hv; exact ⟨s, by rw [e_var, rdV_s, es]; rfl, hs⟩
  | own t y =>
    cases hv
    have ok := hs.setSame e (fzOk t y rfl)
    cases t with
    | true => exact ⟨_, by rw [e_var, rdV_s, es]; rfl, ok⟩
    | false => exact ⟨_, by rw [e_var, rdV_s, es]; rfl, ok⟩
theorem pe_d {i : Nat} {x : D} (e : Γ[i]? = some (.dat x)) : PE Φ Γ (.var i) x := pe_var e rfl fun _ _ q => nomatch q
theorem pe_p {i : Nat} {v : Vl} {x : D} (e : Γ[i]? = some (.prm v)) (h : v.dat = x) : PE Φ Γ (.var i) x := pe_var e h fun _ _ q => nomatch q
theorem pe_con (x : D) : PE Φ Γ (.con x) x := fun s hs => ⟨s, e_con x, hs⟩
theorem PE.cast {t : T} {x y : D} (h : PE Φ Γ t x) (e : x = y) : PE Φ Γ t y := e ▸ h
theorem PF.cast {t : T} {x y : List D} (h : PF Φ Γ t x) (e : x = y) : PF Φ Γ t y := e ▸ h
theorem PV.cast {t : T} {x y : D} (h : PV Φ Γ t x) (e : x = y) : PV Φ Γ t y := e ▸ h
theorem pe_bin {op : PySem.Operator} {a b : T} {x y z : D} (ha : PV Φ Γ a x) (hb : PV Φ Γ b y) (e : bin op x y = some (.d z)) : PE Φ Γ (.bin op a b) z := fun s hs => by
  obtain ⟨v, s1, e1, rfl, h1⟩ := ha s hs
  obtain ⟨u, s2, e2, rfl, h2⟩ := hb s1 h1
  exact ⟨s2, by rw [e_bin, e1, bind_ok', e2, bind_ok', e]; rfl, h2⟩
theorem pf_bin {op : PySem.Operator} {a b : T} {x y : D} {z : List D} (ha : PV Φ Γ a x) (hb : PV Φ Γ b y) (e : bin op x y = some (.own false z)) : PF Φ Γ (.bin op a b) z := fun s hs => by
  obtain ⟨v, s1, e1, rfl, h1⟩ := ha s hs
  obtain ⟨u, s2, e2, rfl, h2⟩ := hb s1 h1
  exact ⟨s2, by rw [e_bin, e1, bind_ok', e2, bind_ok', e]; rfl, h2⟩
theorem pe_add {a b : T} {x y : Int} (ha : PE Φ Γ a (.int x)) (hb : PE Φ Γ b (.int y)) : PE Φ Γ (.bin .Add a b) (.int (x + y)) := pe_bin ha.v hb.v rfl
theorem pe_sub {a b : T} {x y : Int} (ha : PE Φ Γ a (.int x)) (hb : PE Φ Γ b (.int y)) : PE Φ Γ (.bin .Sub a b) (.int (x - y)) := pe_bin ha.v hb.v rfl
theorem pe_neg {a : T} {x : Int} (ha : PE Φ Γ a (.int x)) : PE Φ Γ (.neg a) (.int (-x)) := fun s hs => by
  obtain ⟨s1, e1, h1⟩ := ha s hs
  exact ⟨s1, by rw [e_neg, e1, bind_ok'], h1⟩
theorem pe_nt {a : T} {x : D} {b : Bool} (ha : PV Φ Γ a x) (e : tru x = some b) : PE Φ Γ (.nt a) (.bl (!b)) := fun s hs => by
  obtain ⟨v, s1, e1, rfl, h1⟩ := ha s hs
  exact ⟨s1, by rw [e_nt, e1, bind_ok', e]; rfl, h1⟩
theorem pe_cmp {op : PySem.CmpOp} {a b : T} {x y : D} {z : Bool} (ha : PV Φ Γ a x) (hb : PV Φ Γ b y) (e : cmp op x y = some z) : PE Φ Γ (.cmp op a b) (.bl z) := fun s hs => by
  obtain ⟨v, s1, e1, rfl, h1⟩ := ha s hs
  obtain ⟨u, s2, e2, rfl, h2⟩ := hb s1 h1
  exact ⟨s2, by rw [e_cmp, e1, bind_ok', e2, bind_ok', e]; rfl, h2⟩
theorem pe_chain {op op' : PySem.CmpOp} {a b c : T} {x y z : D} {p q : Bool} (ha : PV Φ Γ a x) (hb : PV Φ Γ b y) (hc : PV Φ Γ c z) (e : cmp op x y = some p) (e' : cmp op' y z = some q) : PE Φ Γ (.chain op op' a b c) (.bl (p && q)) := fun s hs => by
  obtain ⟨v, s1, e1, rfl, h1⟩ := ha s hs
  obtain ⟨u, s2, e2, rfl, h2⟩ := hb s1 h1
  cases p with
  | false => exact ⟨s2, by rw [e_chain, e1, bind_ok', e2, bind_ok', e]; rfl, h2⟩
  | true =>
    obtain ⟨w, s3, e3, rfl, h3⟩ := hc s2 h2
    exact ⟨s3, by rw [e_chain, e1, bind_ok', e2, bind_ok', e, onB_some, if_pos rfl, e3, bind_ok', e']; rfl, h3⟩
theorem pe_and {a b : T} {x y : Bool} (ha : PE Φ Γ a (.bl x)) (hb : x = true → PE Φ Γ b (.bl y)) : PE Φ Γ (.and a b) (.bl (x && y)) := fun s hs => by
  obtain ⟨s1, e1, h1⟩ := ha s hs
  cases x with
  | false => exact ⟨s1, by rw [e_and, e1, bind_ok']; rfl, h1⟩
  | true =>
    obtain ⟨s2, e2, h2⟩ := hb rfl s1 h1
    exact ⟨s2, by rw [e_and, e1, bind_ok', dat_d, tru_b, onB_some, if_pos rfl, e2]; rfl, h2⟩
theorem pe_or {a b : T} {x y : Bool} (ha : PE Φ Γ a (.bl x)) (hb : x = false → PE Φ Γ b (.bl y)) : PE Φ Γ (.or a b) (.bl (x || y)) := fun s hs => by
  obtain ⟨s1, e1, h1⟩ := ha s hs
  cases x with
  | true => exact ⟨s1, by rw [e_or, e1, bind_ok']; rfl, h1⟩
  | false =>
    obtain ⟨s2, e2, h2⟩ := hb rfl s1 h1
    exact ⟨s2, by rw [e_or, e1, bind_ok', dat_d, tru_b, onB_some, if_neg (by decide), e2]; rfl, h2⟩
theorem pe_ite {c a b : T} {k : D} {p : Bool} {x y z : D} (hc : PV Φ Γ c k) (e : tru k = some p) (ha : p = true → PE Φ Γ a x) (hb : p = false → PE Φ Γ b y) (ez : z = if p then x else y) : PE Φ Γ (.ite c a b) z := fun s hs => by
  obtain ⟨v, s1, e1, rfl, h1⟩ := hc s hs
  subst ez
  cases p with
  | true =>
    obtain ⟨s2, e2, h2⟩ := ha rfl s1 h1
    exact ⟨s2, by rw [e_ite, e1, bind_ok', e, onB_some, if_pos rfl, if_pos rfl, e2], h2⟩
  | false =>
    obtain ⟨s2, e2, h2⟩ := hb rfl s1 h1
    exact ⟨s2, by rw [e_ite, e1, bind_ok', e, onB_some, if_neg (by decide), if_neg (by decide), e2], h2⟩
theorem pe_tup {ts : T} {xs : List D} (h : PVs Φ Γ ts xs) (fit : fitsL xs.length = true) : PE Φ Γ (.tup ts) (.tup xs) := fun s hs => by
  obtain ⟨s1, e1, h1⟩ := h.run s hs
  exact ⟨s1, by rw [e_tup, e1, bind_ok', if_pos fit], h1⟩
theorem pf_lst {ts : T} {xs : List D} (h : PVs Φ Γ ts xs) (fit : fitsL xs.length = true) : PF Φ Γ (.lst ts) xs := fun s hs => by
  obtain ⟨s1, e1, h1⟩ := h.run s hs
  exact ⟨s1, by rw [e_lst, e1, bind_ok', if_pos fit], h1⟩
theorem St.peek {s : S} {i : Nat} {d : SD} {x : D} (hs : St Γ s) (e : Γ[i]? = some d) (h : d.Has x) : peek i s = some x := by
  obtain ⟨o, es, k⟩ := hs.get e
  obtain ⟨v, rfl, hv⟩ := h.peek k
  rw [peek_s, es, ← hv]
theorem pe_idxV {i : Nat} {d : SD} {b : T} {x y z : D} (e : Γ[i]? = some d) (h : d.Has x) (hb : PV Φ Γ b y) (ez : index x y = some z) : PE Φ Γ (.idx (.var i) b) z := fun s hs => by
  obtain ⟨v, s1, e1, rfl, h1⟩ := hb s hs
  refine ⟨s1, ?_, h1⟩
  rw [e_idxV, hs.peek e h]
  dsimp only
  rw [e1, bind_ok', h1.peek e h]
  dsimp only
  rw [ez]
  rfl
theorem pe_idx {a b : T} {x y z : D} (n : isVar a = false) (ha : PV Φ Γ a x) (hb : PV Φ Γ b y) (ez : index x y = some z) : PE Φ Γ (.idx a b) z := fun s hs => by
  obtain ⟨u, s0, e0, rfl, h0⟩ := ha s hs
  obtain ⟨v, s1, e1, rfl, h1⟩ := hb s0 h0
  exact ⟨s1, by rw [e_idx _ _ n, e0, bind_ok', e1, bind_ok', ez]; rfl, h1⟩
theorem pe_bfV {i : Nat} {d : SD} {b : Bf} {x z : D} (e : Γ[i]? = some d) (h : d.Has x) (ez : bf1 b [x] = some (.d z)) : PE Φ Γ (.bf b (.cons (.var i) .nil)) z := fun s hs => by
  refine ⟨s, ?_, hs⟩
  rw [e_bfV, hs.peek e h]
  dsimp only
  rw [ez]
  rfl
theorem pf_bfV {i : Nat} {d : SD} {b : Bf} {x : D} {z : List D} (e : Γ[i]? = some d) (h : d.Has x) (ez : bf1 b [x] = some (.own false z)) : PF Φ Γ (.bf b (.cons (.var i) .nil)) z := fun s hs => by
  refine ⟨s, ?_, hs⟩
  rw [e_bfV, hs.peek e h]
  dsimp only
  rw [ez]
  rfl
theorem pe_bfA {b : Bf} {ts : T} {xs : List D} {z : D} (n : isVar1 ts = false) (h : PVs Φ Γ ts xs) (ez : bf1 b xs = some (.d z)) : PE Φ Γ (.bf b ts) z := fun s hs => by
  obtain ⟨s1, e1, h1⟩ := h.run s hs
  exact ⟨s1, by rw [e_bf _ _ n, e1, bind_ok', ez]; rfl, h1⟩
theorem pf_bfA {b : Bf} {ts : T} {xs : List D} {z : List D} (n : isVar1 ts = false) (h : PVs Φ Γ ts xs) (ez : bf1 b xs = some (.own false z)) : PF Φ Γ (.bf b ts) z := fun s hs => by
  obtain ⟨s1, e1, h1⟩ := h.run s hs
  exact ⟨s1, by rw [e_bf _ _ n, e1, bind_ok', ez]; rfl, h1⟩
/-- a part of a slice -/
def PP (Φ : Call) (Γ : List SD) (t : T) (o : Option Int) : Prop := ∀ s, St Γ s → ∃ s', oP Φ t s = .ok o s' ∧ St Γ s'
theorem pp_none : PP Φ Γ .nil none := fun s hs => ⟨s, p_nil', hs⟩
theorem pp_some {a : T} {x : Int} (h : PE Φ Γ a (.int x)) : PP Φ Γ (.part a) (some x) := fun s hs => by
  obtain ⟨s1, e1, h1⟩ := h s hs
  exact ⟨s1, by rw [p_part', e1, bind_ok'], h1⟩
theorem pf_slc {a lo hi : T} {xs : List D} {l h : Option Int} (ha : PV Φ Γ a (.lst xs)) (hl : PP Φ Γ lo l) (hh : PP Φ Γ hi h) : PF Φ Γ (.slc a lo hi) (cut xs l h) := fun s hs => by
  obtain ⟨v, s1, e1, ev, h1⟩ := ha s hs
  obtain ⟨s2, e2, h2⟩ := hl s1 h1
  obtain ⟨s3, e3, h3⟩ := hh s2 h2
  exact ⟨s3, by rw [e_slc, e1, bind_ok', e2, bind_ok', e3, bind_ok', ev]; rfl, h3⟩
theorem pe_slc {a lo hi : T} {xs : List D} {l h : Option Int} (ha : PV Φ Γ a (.tup xs)) (hl : PP Φ Γ lo l) (hh : PP Φ Γ hi h) : PE Φ Γ (.slc a lo hi) (.tup (cut xs l h)) := fun s hs => by
  obtain ⟨v, s1, e1, ev, h1⟩ := ha s hs
  obtain ⟨s2, e2, h2⟩ := hl s1 h1
  obtain ⟨s3, e3, h3⟩ := hh s2 h2
  exact ⟨s3, by rw [e_slc, e1, bind_ok', e2, bind_ok', e3, bind_ok', ev]; rfl, h3⟩

/-! ### expressions, with what follows -/
theorem tr_pe {t : T} {x : D} (h : PE Φ Γ t x) (k : Tr G Γ m (f (.d x))) : Tr G Γ m (fun s => (oE Φ t s).toO f) := .mk fun s hs => by
  obtain ⟨s', e, h'⟩ := h s hs
  show OutOk G m ((oE Φ t s).toO f)
  rw [e]
  exact k s' h'
theorem tr_pf {t : T} {x : List D} (h : PF Φ Γ t x) (k : Tr G Γ m (f (.own false x))) : Tr G Γ m (fun s => (oE Φ t s).toO f) := .mk fun s hs => by
  obtain ⟨s', e, h'⟩ := h s hs
  show OutOk G m ((oE Φ t s).toO f)
  rw [e]
  exact k s' h'
theorem tr_pp {t : T} {x : Option Int} {f : Option Int → S → O} (h : PP Φ Γ t x) (k : Tr G Γ m (f x)) : Tr G Γ m (fun s => (oP Φ t s).toO f) := .mk fun s hs => by
  obtain ⟨s', e, h'⟩ := h s hs
  show OutOk G m ((oP Φ t s).toO f)
  rw [e]
  exact k s' h'
/-- an operation's value known -/
theorem tr_o {o : Option Vl} {v : Vl} (e : o = some v) (k : Tr G Γ m (f v)) : Tr G Γ m (opO o f) := by
  subst e
  exact k
theorem tr_eq {g h : S → O} (e : ∀ s, g s = h s) (k : Tr G Γ m h) : Tr G Γ m g := .mk fun s hs => by
  rw [e s]
  exact k s hs
theorem tr_bin {op : PySem.Operator} {a b : T} (k : Tr G Γ m (fun s => (oE Φ a s).toO fun x s => (oE Φ b s).toO fun y s => opO (bin op x.dat y.dat) f s)) : Tr G Γ m (fun s => (oE Φ (.bin op a b) s).toO f) :=
  tr_eq (fun s => by simp only [e_bin, toO_bind, toO_ofO]) k
theorem tr_neg {a : T} (k : Tr G Γ m (fun s => (oE Φ a s).toO fun x s => opO (match x with | .d (.int i) => some (.d (.int (-i))) | _ => none) f s)) : Tr G Γ m (fun s => (oE Φ (.neg a) s).toO f) :=
  tr_eq (fun s => by
    rw [e_neg, toO_bind]
    congr 1
    funext x s
    cases x with
    | d y => cases y <;> rfl
    | _ => rfl) k
theorem tr_nt {a : T} (k : Tr G Γ m (fun s => (oE Φ a s).toO fun x s => opO ((tru x.dat).map fun b => .d (.bl (!b))) f s)) : Tr G Γ m (fun s => (oE Φ (.nt a) s).toO f) :=
  tr_eq (fun s => by simp only [e_nt, toO_bind, toO_ofO]) k
theorem tr_cmp {op : PySem.CmpOp} {a b : T} (k : Tr G Γ m (fun s => (oE Φ a s).toO fun x s => (oE Φ b s).toO fun y s => opO ((cmp op x.dat y.dat).map fun b => .d (.bl b)) f s)) : Tr G Γ m (fun s => (oE Φ (.cmp op a b) s).toO f) :=
  tr_eq (fun s => by simp only [e_cmp, toO_bind, toO_ofO]) k
theorem tr_slc {a lo hi : T} (k : Tr G Γ m (fun s => (oE Φ a s).toO fun x s => (oP Φ lo s).toO fun l s => (oP Φ hi s).toO fun h s => opO (slice x.dat l h) f s)) : Tr G Γ m (fun s => (oE Φ (.slc a lo hi) s).toO f) :=
  tr_eq (fun s => by simp only [e_slc, toO_bind, toO_ofO]) k
theorem tr_idx {a b : T} (n : isVar a = false) (k : Tr G Γ m (fun s => (oE Φ a s).toO fun x s => (oE Φ b s).toO fun y s => opO ((index x.dat y.dat).map .d) f s)) : Tr G Γ m (fun s => (oE Φ (.idx a b) s).toO f) :=
  tr_eq (fun s => by simp only [e_idx _ _ n, toO_bind, toO_ofO]) k
theorem tr_idxV {i : Nat} {d : SD} {x : D} {b : T} (e : Γ[i]? = some d) (h : d.Has x) (k : Tr G Γ m (fun s => (oE Φ b s).toO fun y s => opO ((peek i s).bind fun x => (index x y.dat).map .d) f s)) : Tr G Γ m (fun s => (oE Φ (.idx (.var i) b) s).toO f) := .mk fun s hs => by
  have q : OutOk G m ((oE Φ b s).toO fun y s => opO ((peek i s).bind fun x => (index x y.dat).map .d) f s) := k s hs
  show OutOk G m ((oE Φ (.idx (.var i) b) s).toO f)
  rw [e_idxV, hs.peek e h]
  dsimp only
  rw [toO_bind]
  refine cast ?_ q
  congr 1
  cases oE Φ b s with
  | ok y s1 =>
    show opO _ f s1 = R.toO _ f
    cases peek i s1 with
    | none => rfl
    | some x => exact (toO_ofO _ _ _).symm
  | ex c fs s1 => rfl
  | no => rfl
theorem tr_idxE {i : Nat} {d : SD} {x : D} {y : D} (e : Γ[i]? = some d) (h : d.Has x) (k : Tr G Γ m (opO ((index x y).map .d) f)) : Tr G Γ m (fun s => opO ((peek i s).bind fun x => (index x y).map .d) f s) := .mk fun s hs => by
  have q := k s hs
  show OutOk G m (opO ((peek i s).bind fun x => (index x y).map .d) f s)
  rw [hs.peek e h]
  exact q
end
end MK

set_option Elab.async false
set_option linter.all false
set_option maxRecDepth 100000
set_option maxHeartbeats 4000000
/-! Operators that may fail; statements; ends. -/
namespace MK
open MI
/-! ### embeddings -/
section
variable {α β γ δ ε ζ : Type}
abbrev eI : Int → D := D.int
abbrev eB : Bool → D := D.bl
abbrev eS : PySem.Str → D := D.str
abbrev eN : Unit → D := fun _ => .non
abbrev eD : D → D := fun x => x
abbrev eL (e : α → D) (xs : List α) : D := .lst (xs.map e)
abbrev eT (e : α → D) (xs : List α) : D := .tup (xs.map e)
abbrev e0 : Unit → D := fun _ => .tup []
abbrev e1 (e : α → D) (p : α) : D := .tup [e p]
abbrev eP (e : α → D) (f : β → D) (p : α × β) : D := .tup [e p.1, f p.2]
abbrev e3 (e : α → D) (f : β → D) (g : γ → D) (p : α × β × γ) : D := .tup [e p.1, f p.2.1, g p.2.2]
abbrev e4 (e : α → D) (f : β → D) (g : γ → D) (h : δ → D) (p : α × β × γ × δ) : D := .tup [e p.1, f p.2.1, g p.2.2.1, h p.2.2.2]
abbrev e5 (e : α → D) (f : β → D) (g : γ → D) (h : δ → D) (j : ε → D) (p : α × β × γ × δ × ε) : D := .tup [e p.1, f p.2.1, g p.2.2.1, h p.2.2.2.1, j p.2.2.2.2]
abbrev e6 (e : α → D) (f : β → D) (g : γ → D) (h : δ → D) (j : ε → D) (k : ζ → D) (p : α × β × γ × δ × ε × ζ) : D := .tup [e p.1, f p.2.1, g p.2.2.1, h p.2.2.2.1, j p.2.2.2.2.1, k p.2.2.2.2.2]
def eO (e : α → D) : Option α → D
  | some a => e a
  | none => .non
end
/-! ### operations -/
def pdiv (x y : Int) : Int := if 0 < y then x / y else x.fdiv y
def pmod (x y : Int) : Int := if 0 < y then x % y else x.fmod y
theorem pdiv_pos {x y : Int} (h : 0 < y) : pdiv x y = x / y := if_pos h
theorem pmod_pos {x y : Int} (h : 0 < y) : pmod x y = x % y := if_pos h
inductive Ct (σ ρ : Type) where
  | nx (s : σ) | bk (s : σ) | rt (r : ρ)
inductive Fl (σ ρ : Type) where
  | nx (s : σ) | rt (r : ρ)
namespace M
variable {α β σ ρ : Type}
/-- a name given -/
def lt (x : α) (k : α → M β) : M β := k x
def mul (x y : Int) : M Int := if mulOk x y then .ok (x * y) else .no
def div (x y : Int) : M Int := if divOk y then .ok (pdiv x y) else .no
def mod (x y : Int) : M Int := if y = 0 then .no else .ok (pmod x y)
def pow (x y : Int) : M Int := if decide (0 ≤ y) && decide (y ≤ 1000000) && decide (x.natAbs < W64) then .ok (x ^ y.toNat) else .no
def divmod (x y : Int) : M (Int × Int) := if decide (0 < y) && decide (y.natAbs < W4) then .ok (x / y, x % y) else .no
def cat (xs ys : List α) : M (List α) := if fitsL (xs.length + ys.length) then .ok (xs ++ ys) else .no
def rep (xs : List α) (k : Int) : M (List α) := if decide (-(2 ^ 63) ≤ k) && decide (k < 2 ^ 63) && fitsL (xs.length * k.toNat) then .ok (List.replicate k.toNat xs).flatten else .no
def app (xs : List α) (x : α) : M (List α) := if fitsL (xs.length + 1) then .ok (xs ++ [x]) else .no
def pop (xs : List α) : M (List α) := if xs.isEmpty then .no else .ok xs.dropLast
def setAt (xs : List α) (k : Int) (x : α) : M (List α) := if 0 ≤ k && k.toNat < xs.length then .ok (xs.set k.toNat x) else .no
def atO (xs : List α) (i : Int) : Option α := if 0 ≤ i then xs[i.toNat]? else if -(xs.length : Int) ≤ i then xs[(i + xs.length).toNat]? else none
def idx (xs : List α) (i : Int) : M α := .ofO (atO xs i)
def max1 (xs : List Int) : M Int := .ofO xs.max?
def min1 (xs : List Int) : M Int := .ofO xs.min?
def cutO (xs : List α) (lo hi : Option Int) : List α := (xs.drop (clip xs.length 0 lo)).take (clip xs.length xs.length hi - clip xs.length 0 lo)
def rng1 (j : Int) : M (List Int) := if in62 j then .ok ((List.range j.toNat).map fun (k : Nat) => (k : Int)) else .no
def rng (i j : Int) : M (List Int) := if in62 i && in62 j then .ok ((List.range (j - i).toNat).map fun (k : Nat) => i + (k : Int)) else .no
def fit (xs : List α) : M (List α) := if fitsL xs.length then .ok xs else .no
/-- loops -/
def fold (f : σ → α → M σ) (s : σ) : List α → M σ
  | [] => .ok s
  | x :: r => (f s x).bind fun s => fold f s r
def loop (f : σ → α → M (Ct σ ρ)) (s : σ) : List α → M (Fl σ ρ)
  | [] => .ok (.nx s)
  | x :: r => (f s x).bind fun
    | .nx s => loop f s r
    | .bk s => .ok (.nx s)
    | .rt v => .ok (.rt v)
def whl (c : σ → M Bool) (f : σ → M σ) : Nat → σ → M σ
  | 0, _ => .no
  | n + 1, s => (c s).bind fun b => if b then (f s).bind fun s => whl c f n s else .ok s
def whlR (f : σ → M (Ct σ ρ)) : Nat → σ → M (Fl σ ρ)
  | 0, _ => .no
  | n + 1, s => (f s).bind fun
    | .nx s => whlR f n s
    | .bk s => .ok (.nx s)
    | .rt v => .ok (.rt v)
/-- behind a loop that may return -/
def fl (kn : σ → M β) (kr : ρ → M β) : Fl σ ρ → M β
  | .nx s => kn s
  | .rt r => kr r
@[simp] theorem fl_nx (kn : σ → M β) (kr : ρ → M β) (s : σ) : fl kn kr (.nx s) = kn s := rfl
@[simp] theorem fl_rt (kn : σ → M β) (kr : ρ → M β) (r : ρ) : fl kn kr (.rt r) = kr r := rfl
/-- comprehensions: without a test, with one; with a state -/
def mapL (f : α → M β) : List α → M (List β)
  | [] => .ok []
  | x :: r => (f x).bind fun y => (mapL f r).bind fun ys => .ok (y :: ys)
def mapM (f : α → M β) (xs : List α) : M (List β) := (mapL f xs).bind fit
def optL (f : α → M (Option β)) : List α → M (List β)
  | [] => .ok []
  | x :: r => (f x).bind fun y => (optL f r).bind fun ys => .ok (match y with | some y => y :: ys | none => ys)
def optM (f : α → M (Option β)) (xs : List α) : M (List β) := (optL f xs).bind fit
def mapSL (f : σ → α → M (Option β × σ)) (s : σ) : List α → M (List β × σ)
  | [] => .ok ([], s)
  | x :: r => (f s x).bind fun (y, s) => (mapSL f s r).bind fun (ys, s) => .ok (match y with | some y => y :: ys | none => ys, s)
def mapS (f : σ → α → M (Option β × σ)) (s : σ) (xs : List α) : M (List β × σ) := (mapSL f s xs).bind fun (ys, s) => if fitsL ys.length then .ok (ys, s) else .no
end M

section
variable {α β σ ρ τ : Type} {Φ : Call} {Γ Γ' Γ1 : List SD} {G : α → OD} {m : M α} {f : Vl → S → O} {κ : S → O}
theorem tr_if' {c : Bool} {a : τ} {k : τ → M α} {o : Option Vl} {w : Vl} (h : ∀ (e : c = true), o = some w ∧ Tr G Γ (k a) (f w)) : Tr G Γ ((if c then (.ok a : M τ) else .no).bind k) (opO o f) := by
  cases c with
  | false => exact Tr.no
  | true =>
    obtain ⟨rfl, q⟩ := h rfl
    exact q
theorem tr_mul {x y : Int} {k : Int → M α} (h : ∀ z, Tr G Γ (k z) (f (.d (.int z)))) : Tr G Γ ((M.mul x y).bind k) (opO (bin .Mult (.int x) (.int y)) f) :=
  tr_if' fun e => ⟨if_pos e, h _⟩
theorem tr_div {x y : Int} {k : Int → M α} (h : ∀ z, Tr G Γ (k z) (f (.d (.int z)))) : Tr G Γ ((M.div x y).bind k) (opO (bin .FloorDiv (.int x) (.int y)) f) :=
  tr_if' fun e => ⟨if_pos e, h _⟩
theorem tr_mod {x y : Int} {k : Int → M α} (h : ∀ z, Tr G Γ (k z) (f (.d (.int z)))) : Tr G Γ ((M.mod x y).bind k) (opO (bin .Mod (.int x) (.int y)) f) := by
  unfold M.mod
  by_cases e : y = 0
  · rw [if_pos e]
    exact Tr.no
  · rw [if_neg e]
    exact tr_o (v := .d (.int (pmod x y))) (if_neg e) (h _)
theorem tr_pow {x y : Int} {k : Int → M α} (h : ∀ z, Tr G Γ (k z) (f (.d (.int z)))) : Tr G Γ ((M.pow x y).bind k) (opO (bin .Pow (.int x) (.int y)) f) :=
  tr_if' fun e => ⟨if_pos e, h _⟩
theorem tr_divmod {x y : Int} {k : Int × Int → M α} (h : ∀ z, Tr G Γ (k z) (f (.d (eP eI eI z)))) : Tr G Γ ((M.divmod x y).bind k) (opO (bf1 .divmod [.int x, .int y]) f) :=
  tr_if' fun e => ⟨if_pos e, h _⟩
theorem tr_catL {e : β → D} {xs ys : List β} {k : List β → M α} (h : ∀ zs, Tr G Γ (k zs) (f (.own false (zs.map e)))) : Tr G Γ ((M.cat xs ys).bind k) (opO (bin .Add (eL e xs) (eL e ys)) f) :=
  tr_if' fun q => ⟨by
    show (if fitsL ((xs.map e).length + (ys.map e).length) then some (Vl.own false (xs.map e ++ ys.map e)) else none) = _
    rw [List.length_map, List.length_map, if_pos q, List.map_append], h _⟩
theorem tr_catT {e : β → D} {xs ys : List β} {k : List β → M α} (h : ∀ zs, Tr G Γ (k zs) (f (.d (eT e zs)))) : Tr G Γ ((M.cat xs ys).bind k) (opO (bin .Add (eT e xs) (eT e ys)) f) :=
  tr_if' fun q => ⟨by
    show (if fitsL ((xs.map e).length + (ys.map e).length) then some (Vl.d (.tup (xs.map e ++ ys.map e))) else none) = some (Vl.d (.tup ((xs ++ ys).map e)))
    rw [List.length_map, List.length_map, if_pos q, List.map_append], h _⟩
theorem tr_rep {e : β → D} {xs : List β} {y : Int} {k : List β → M α} (h : ∀ zs, Tr G Γ (k zs) (f (.own false (zs.map e)))) : Tr G Γ ((M.rep xs y).bind k) (opO (bin .Mult (eL e xs) (.int y)) f) :=
  tr_if' fun q => ⟨by
    show (if decide (-(2 ^ 63) ≤ y) && decide (y < 2 ^ 63) && fitsL ((xs.map e).length * y.toNat) then some (Vl.own false (List.replicate y.toNat (xs.map e)).flatten) else none) = _
    rw [List.length_map, if_pos q, List.map_flatten, List.map_replicate], h _⟩
theorem atO_map {e : β → D} {xs : List β} {i : Int} : at_ (xs.map e) i = (M.atO xs i).map e := by
  unfold at_ M.atO
  rw [List.length_map]
  split
  · exact List.getElem?_map
  · split
    · exact List.getElem?_map
    · rfl
theorem tr_at {e : β → D} {xs : List β} {i : Int} {o : Option D} {k : β → M α} (ho : o = at_ (xs.map e) i) (h : ∀ z, Tr G Γ (k z) (f (.d (e z)))) : Tr G Γ ((M.idx xs i).bind k) (opO (o.map .d) f) := by
  subst ho
  rw [atO_map]
  unfold M.idx
  cases q : M.atO xs i with
  | none => exact Tr.no
  | some z => exact h z
theorem tr_ixL {e : β → D} {xs : List β} {i : Int} {k : β → M α} (h : ∀ z, Tr G Γ (k z) (f (.d (e z)))) : Tr G Γ ((M.idx xs i).bind k) (opO ((index (eL e xs) (.int i)).map .d) f) := tr_at rfl h
theorem tr_ixT {e : β → D} {xs : List β} {i : Int} {k : β → M α} (h : ∀ z, Tr G Γ (k z) (f (.d (e z)))) : Tr G Γ ((M.idx xs i).bind k) (opO ((index (eT e xs) (.int i)).map .d) f) := tr_at rfl h
theorem intsOf_map : ∀ ns : List Int, intsOf (ns.map eI) = some ns
  | [] => rfl
  | n :: r => by
    show (intsOf (r.map eI)).map (n :: ·) = _
    rw [intsOf_map r]
    rfl
theorem boolsOf_map : ∀ ns : List Bool, boolsOf (ns.map eB) = some ns
  | [] => rfl
  | n :: r => by
    show (boolsOf (r.map eB)).map (n :: ·) = _
    rw [boolsOf_map r]
    rfl
theorem bf_all (bs : List Bool) : bf1 .all [eL eB bs] = some (.d (.bl (bs.all id))) := by
  show (boolsOf (bs.map eB)).map _ = _
  rw [boolsOf_map]
  rfl
theorem bf_any (bs : List Bool) : bf1 .any [eL eB bs] = some (.d (.bl (bs.any id))) := by
  show (boolsOf (bs.map eB)).map _ = _
  rw [boolsOf_map]
  rfl
theorem bf_sum (ns : List Int) : bf1 .sum [eL eI ns] = some (.d (.int ns.sum)) := by
  show (intsOf (ns.map eI)).map _ = _
  rw [intsOf_map]
  rfl
theorem bf_sorted (ns : List Int) : bf1 .sorted [eL eI ns] = some (.own false ((ns.mergeSort fun a b => decide (a ≤ b)).map eI)) := by
  show (intsOf (ns.map eI)).map _ = _
  rw [intsOf_map]
  rfl
theorem bf_len {e : β → D} (xs : List β) : bf1 .len [eL e xs] = some (.d (.int xs.length)) := by
  show some (Vl.d (.int ((xs.map e).length : Nat))) = _
  rw [List.length_map]
theorem bf_lenT {e : β → D} (xs : List β) : bf1 .len [eT e xs] = some (.d (.int xs.length)) := by
  show some (Vl.d (.int ((xs.map e).length : Nat))) = _
  rw [List.length_map]
theorem tr_max1 {ns : List Int} {k : Int → M α} (h : ∀ z, Tr G Γ (k z) (f (.d (.int z)))) : Tr G Γ ((M.max1 ns).bind k) (opO (bf1 .max [eL eI ns]) f) := by
  have e : bf1 .max [eL eI ns] = ns.max?.map fun m => Vl.d (.int m) := by
    show (intsOf (ns.map eI)).bind _ = _
    rw [intsOf_map]
    rfl
  rw [e]
  unfold M.max1
  cases q : ns.max? with
  | none => exact Tr.no
  | some z => exact h z
theorem tr_min1 {ns : List Int} {k : Int → M α} (h : ∀ z, Tr G Γ (k z) (f (.d (.int z)))) : Tr G Γ ((M.min1 ns).bind k) (opO (bf1 .min [eL eI ns]) f) := by
  have e : bf1 .min [eL eI ns] = ns.min?.map fun m => Vl.d (.int m) := by
    show (intsOf (ns.map eI)).bind _ = _
    rw [intsOf_map]
    rfl
  rw [e]
  unfold M.min1
  cases q : ns.min? with
  | none => exact Tr.no
  | some z => exact h z
theorem cut_map {e : β → D} (xs : List β) (l h : Option Int) : cut (xs.map e) l h = (M.cutO xs l h).map e := by
  unfold cut M.cutO
  rw [List.length_map, List.map_take, List.map_drop]
theorem pf_cut {e : β → D} {a lo hi : T} {xs : List β} {l h : Option Int} (ha : PV Φ Γ a (eL e xs)) (hl : PP Φ Γ lo l) (hh : PP Φ Γ hi h) : PF Φ Γ (.slc a lo hi) ((M.cutO xs l h).map e) := (pf_slc ha hl hh).cast (cut_map xs l h)
theorem pe_cut {e : β → D} {a lo hi : T} {xs : List β} {l h : Option Int} (ha : PV Φ Γ a (eT e xs)) (hl : PP Φ Γ lo l) (hh : PP Φ Γ hi h) : PE Φ Γ (.slc a lo hi) (eT e (M.cutO xs l h)) := (pe_slc ha hl hh).cast (by rw [cut_map])
theorem tr_cutL {e : β → D} {xs : List β} {l h : Option Int} (k : Tr G Γ m (f (.own false ((M.cutO xs l h).map e)))) : Tr G Γ m (opO (slice (eL e xs) l h) f) := tr_o (by show some (Vl.own false (cut (xs.map e) l h)) = _; rw [cut_map]) k
theorem tr_cutT {e : β → D} {xs : List β} {l h : Option Int} (k : Tr G Γ m (f (.d (eT e (M.cutO xs l h))))) : Tr G Γ m (opO (slice (eT e xs) l h) f) := tr_o (by show some (Vl.d (.tup (cut (xs.map e) l h))) = _; rw [cut_map]) k

/-! more forms -/
theorem tr_and {a b : T} {x : Bool} {ma mb : M α} (ka : x = false → Tr G Γ mb (f (.d (.bl false)))) (kb : x = true → Tr G Γ ma (fun s => (oE Φ b s).toO f)) : ∀ ff : S → O, (ff = fun s => match tru (D.bl x) with | some true => (oE Φ b s).toO f | some false => f (.d (.bl x)) s | none => .no) → Tr G Γ (if x then ma else mb) ff := by
  rintro _ rfl
  cases x with
  | true => exact kb rfl
  | false => exact ka rfl
/-- a and b, a or b, a if c else b: by cutting -/
theorem tr_andE {a b : T} (k : Tr G Γ m (fun s => (oE Φ a s).toO fun x s => brn (tru x.dat) ((oE Φ b s).toO f) (f (.d x.dat) s))) : Tr G Γ m (fun s => (oE Φ (.and a b) s).toO f) :=
  tr_eq (fun s => by
    rw [e_and, toO_bind]
    congr 1
    funext x s
    cases tru x.dat with
    | none => rfl
    | some b => cases b <;> rfl) k
theorem tr_orE {a b : T} (k : Tr G Γ m (fun s => (oE Φ a s).toO fun x s => brn (tru x.dat) (f (.d x.dat) s) ((oE Φ b s).toO f))) : Tr G Γ m (fun s => (oE Φ (.or a b) s).toO f) :=
  tr_eq (fun s => by
    rw [e_or, toO_bind]
    congr 1
    funext x s
    cases tru x.dat with
    | none => rfl
    | some b => cases b <;> rfl) k
theorem tr_iteE {c a b : T} (k : Tr G Γ m (fun s => (oE Φ c s).toO fun x s => brn (tru x.dat) ((oE Φ a s).toO f) ((oE Φ b s).toO f))) : Tr G Γ m (fun s => (oE Φ (.ite c a b) s).toO f) :=
  tr_eq (fun s => by
    rw [e_ite, toO_bind]
    congr 1
    funext x s
    cases tru x.dat with
    | none => rfl
    | some b => cases b <;> rfl) k
theorem tr_chainE {op op' : PySem.CmpOp} {a b c : T} (k : Tr G Γ m (fun s => (oE Φ a s).toO fun x s => (oE Φ b s).toO fun y s => brn (cmp op x.dat y.dat) ((oE Φ c s).toO fun z s => opO ((cmp op' y.dat z.dat).map fun b => .d (.bl b)) f s) (f (.d (.bl false)) s))) : Tr G Γ m (fun s => (oE Φ (.chain op op' a b c) s).toO f) :=
  tr_eq (fun s => by
    rw [e_chain, toO_bind]
    congr 1
    funext x s
    rw [toO_bind]
    congr 1
    funext y s
    cases cmp op x.dat y.dat with
    | none => rfl
    | some b => cases b with
      | false => rfl
      | true => simp only [onB_some, if_true, toO_bind, toO_ofO]; rfl) k
/-- ways part -/
theorem tr_brn {o : Option Bool} {b : Bool} {ma mb : M α} {fa fb : S → O} (e : o = some b) (ha : b = true → Tr G Γ ma fa) (hb : b = false → Tr G Γ mb fb) : Tr G Γ (if b then ma else mb) (fun s => brn o (fa s) (fb s)) := by
  subst e
  cases b with
  | true => exact ha rfl
  | false => exact hb rfl
theorem tr_cutE {t : T} {v : τ → Vl} {Γ1 : τ → List SD} {m1 : M τ} {k : τ → M α} (h : Tr (fun a => .rt (v a) (Γ1 a)) Γ m1 (fun s => (oE Φ t s).toO .rt)) (hk : ∀ a, Tr G (Γ1 a) (k a) (f (v a))) : Tr G Γ (m1.bind k) (fun s => (oE Φ t s).toO f) := .mk fun s hs => by
  have q : OutOk (fun a => .rt (v a) (Γ1 a)) m1 ((oE Φ t s).toO .rt) := h s hs
  show OutOk G (m1.bind k) ((oE Φ t s).toO f)
  cases m1 with
  | no => trivial
  | ex c fs =>
    obtain ⟨s', e⟩ := q
    cases e2 : oE Φ t s with
    | ok w s1 => rw [e2] at e; cases e
    | no => rw [e2] at e; cases e
    | ex c' fs' s1 => rw [e2] at e; cases e; exact ⟨_, rfl⟩
  | ok a =>
    obtain ⟨s', e, st⟩ := q
    cases e2 : oE Φ t s with
    | ok w s1 => rw [e2] at e; cases e; exact hk a _ st
    | no => rw [e2] at e; cases e
    | ex c' fs' s1 => rw [e2] at e; cases e
theorem tr_tup {ts : T} (k : Tr G Γ m (fun s => (oL Φ ts s).toO fun xs s => opO (if fitsL xs.length then some (.d (.tup xs)) else none) f s)) : Tr G Γ m (fun s => (oE Φ (.tup ts) s).toO f) :=
  tr_eq (fun s => by
    rw [e_tup, toO_bind]
    congr 1
    funext x s
    split <;> rfl) k
theorem tr_lst {ts : T} (k : Tr G Γ m (fun s => (oL Φ ts s).toO fun xs s => opO (if fitsL xs.length then some (.own false xs) else none) f s)) : Tr G Γ m (fun s => (oE Φ (.lst ts) s).toO f) :=
  tr_eq (fun s => by
    rw [e_lst, toO_bind]
    congr 1
    funext x s
    split <;> rfl) k
theorem tl_nil {f : List D → S → O} (k : Tr G Γ m (f [])) : Tr G Γ m (fun s => (oL Φ .nil s).toO f) := tr_eq (fun s => by rw [l_nil']; rfl) k
theorem tl_cons {a r : T} {f : List D → S → O} (k : Tr G Γ m (fun s => (oE Φ a s).toO fun x s => (oL Φ r s).toO fun xs s => f (x.dat :: xs) s)) : Tr G Γ m (fun s => (oL Φ (.cons a r) s).toO f) :=
  tr_eq (fun s => by simp only [l_cons', toO_bind]; rfl) k
theorem tl_pvs {ts : T} {xs : List D} {f : List D → S → O} (h : PVs Φ Γ ts xs) (k : Tr G Γ m (f xs)) : Tr G Γ m (fun s => (oL Φ ts s).toO f) := .mk fun s hs => by
  obtain ⟨s', e, h'⟩ := h.run s hs
  show OutOk G m ((oL Φ ts s).toO f)
  rw [e]
  exact k s' h'
theorem tr_fit {xs : List D} {v : Vl} (h : fitsL xs.length = true) (k : Tr G Γ m (f v)) : Tr G Γ m (opO (if fitsL xs.length then some v else none) f) := by
  rw [if_pos h]
  exact k
theorem tr_bf {b : Bf} {ts : T} (n : isVar1 ts = false) (k : Tr G Γ m (fun s => (oL Φ ts s).toO fun xs s => opO (bf1 b xs) f s)) : Tr G Γ m (fun s => (oE Φ (.bf b ts) s).toO f) :=
  tr_eq (fun s => by simp only [e_bf _ _ n, toO_bind, toO_ofO]) k
theorem tr_bfV {i : Nat} {d : SD} {b : Bf} {x : D} (e : Γ[i]? = some d) (h : d.Has x) (k : Tr G Γ m (opO (bf1 b [x]) f)) : Tr G Γ m (fun s => (oE Φ (.bf b (.cons (.var i) .nil)) s).toO f) := .mk fun s hs => by
  have q := k s hs
  show OutOk G m ((oE Φ (.bf b (.cons (.var i) .nil)) s).toO f)
  rw [e_bfV, hs.peek e h]
  dsimp only
  rw [toO_ofO]
  exact q

/-! ### statements -/
theorem tr_start {t : T} (k : Tr G Γ m (fun s => sq .nx (oX Φ t s))) : Tr G Γ m (oX Φ t) := tr_eq (fun s => (sq_nx _).symm) k
theorem tr_seq {a b : T} (k : Tr G Γ m (fun s => sq (fun s => sq κ (oX Φ b s)) (oX Φ a s))) : Tr G Γ m (fun s => sq κ (oX Φ (.seq a b) s)) :=
  tr_eq (fun s => by
    rw [x_seq]
    cases oX Φ a s <;> rfl) k
theorem tr_pass (k : Tr G Γ m κ) : Tr G Γ m (fun s => sq κ (oX Φ .pass s)) := tr_eq (fun s => by rw [x_pass]; rfl) k
theorem tr_asg {i : Nat} {e : T} (k : Tr G Γ m (fun s => (oE Φ e s).toO fun v s => put i v κ s)) : Tr G Γ m (fun s => sq κ (oX Φ (.asg (.var i) e) s)) :=
  tr_eq (fun s => by
    rw [x_asgV]
    cases oE Φ e s with
    | ok v s1 =>
      show sq κ (if i < s1.length then .nx (s1.set i (some v.fresh)) else .no) = if i < s1.length then κ (s1.set i (some v.fresh)) else .no
      split <;> rfl
    | ex c fs s1 => rfl
    | no => rfl) k
theorem tr_put {i : Nat} {v : Vl} {d : SD} (hi : Nat.blt i Γ.length = true) (hd : d.Ok (some v.fresh)) (k : Tr G (Γ.set i d) m κ) : Tr G Γ m (put i v κ) := .mk fun s hs => by
  have hl : i < s.length := by
    rw [hs.len]
    exact Nat.le_of_ble_eq_true hi
  unfold put
  rw [if_pos hl]
  exact k _ (hs.set i hd)
theorem tr_putD {i : Nat} {x : D} (hi : Nat.blt i Γ.length = true) (k : Tr G (Γ.set i (.dat x)) m κ) : Tr G Γ m (put i (.d x) κ) := tr_put (d := .dat x) hi ⟨_, rfl, rfl⟩ k
theorem tr_putO {i : Nat} {xs : List D} (hi : Nat.blt i Γ.length = true) (k : Tr G (Γ.set i (.own false xs)) m κ) : Tr G Γ m (put i (.own false xs) κ) := tr_put (d := .own false xs) hi rfl k
theorem tr_putL {i : Nat} {xs : List D} (hi : Nat.blt i Γ.length = true) (k : Tr G (Γ.set i (.dat (.lst xs))) m κ) : Tr G Γ m (put i (.own false xs) κ) := tr_put (d := .dat (.lst xs)) hi ⟨_, rfl, rfl⟩ k
theorem tr_asgL {i : Nat} {e : β → D} {x : β} {t : T} {km : β → M α} (h : PE Φ Γ t (e x)) (hi : Nat.blt i Γ.length = true) (k : ∀ a, Tr G (Γ.set i (.dat (e a))) (km a) κ) : Tr G Γ (M.lt x km) (fun s => sq κ (oX Φ (.asg (.var i) t) s)) :=
  tr_asg (tr_pe h (tr_putD hi (k x)))
theorem tr_asgO {i : Nat} {e : β → D} {x : List β} {t : T} {km : List β → M α} (h : PF Φ Γ t (x.map e)) (hi : Nat.blt i Γ.length = true) (k : ∀ a, Tr G (Γ.set i (.own false (a.map e))) (km a) κ) : Tr G Γ (M.lt x km) (fun s => sq κ (oX Φ (.asg (.var i) t) s)) :=
  tr_asg (tr_pf h (tr_putO hi (k x)))
theorem tr_asgF {i : Nat} {e : β → D} {x : List β} {t : T} {km : List β → M α} (h : PF Φ Γ t (x.map e)) (hi : Nat.blt i Γ.length = true) (k : ∀ a, Tr G (Γ.set i (.dat (eL e a))) (km a) κ) : Tr G Γ (M.lt x km) (fun s => sq κ (oX Φ (.asg (.var i) t) s)) :=
  tr_asg (tr_pf h (tr_putL hi (k x)))
theorem tr_ex {e : T} (k : Tr G Γ m (fun s => (oE Φ e s).toO fun _ s => κ s)) : Tr G Γ m (fun s => sq κ (oX Φ (.ex e) s)) :=
  tr_eq (fun s => by
    rw [x_ex]
    cases oE Φ e s <;> rfl) k
theorem tr_iff {c a b : T} (k : Tr G Γ m (fun s => (oE Φ c s).toO fun v s => brn (tru v.dat) (sq κ (oX Φ a s)) (sq κ (oX Φ b s)))) : Tr G Γ m (fun s => sq κ (oX Φ (.iff c a b) s)) :=
  tr_eq (fun s => by
    rw [x_if]
    cases oE Φ c s with
    | ok v s1 =>
      show sq κ (onB (tru v.dat) (oX Φ a s1) (oX Φ b s1) .no) = brn (tru v.dat) (sq κ (oX Φ a s1)) (sq κ (oX Φ b s1))
      cases tru v.dat with
      | none => rfl
      | some b => cases b <;> rfl
    | ex c fs s1 => rfl
    | no => rfl) k
theorem tr_ret {e : T} (k : Tr G Γ m (fun s => (oE Φ e s).toO .rt)) : Tr G Γ m (fun s => sq κ (oX Φ (.ret e) s)) :=
  tr_eq (fun s => by
    rw [x_ret]
    cases oE Φ e s <;> rfl) k
theorem tr_retN (k : Tr G Γ m (.rt (.d .non))) : Tr G Γ m (fun s => sq κ (oX Φ .retN s)) := tr_eq (fun s => by rw [x_retN]; rfl) k
theorem tr_brk (k : Tr G Γ m .bk) : Tr G Γ m (fun s => sq κ (oX Φ .brk s)) := tr_eq (fun s => by rw [x_brk]; rfl) k
theorem tr_cont (k : Tr G Γ m .ct) : Tr G Γ m (fun s => sq κ (oX Φ .cont s)) := tr_eq (fun s => by rw [x_cont]; rfl) k
/-! ends -/
theorem end_rt {a : α} {v : Vl} (e : G a = .rt v Γ') (w : Wk Γ Γ') : Tr G Γ (.ok a) (.rt v) := .mk fun s hs => by
  show (G a).Ok _
  rw [e]
  exact ⟨s, rfl, w.st hs⟩
theorem end_fin {a : α} {v : Vl} (e : G a = .fin v Γ') (w : Wk Γ Γ') : Tr G Γ (.ok a) (.rt v) := .mk fun s hs => by
  show (G a).Ok _
  rw [e]
  exact ⟨s, w.st hs, .inl rfl⟩
theorem end_finN {a : α} (e : G a = .fin (.d .non) Γ') (w : Wk Γ Γ') : Tr G Γ (.ok a) .nx := .mk fun s hs => by
  show (G a).Ok _
  rw [e]
  exact ⟨s, w.st hs, .inr ⟨rfl, rfl⟩⟩
theorem end_nx {a : α} (e : G a = .nx Γ') (w : Wk Γ Γ') : Tr G Γ (.ok a) .nx := .mk fun s hs => by
  show (G a).Ok _
  rw [e]
  exact ⟨s, rfl, w.st hs⟩
theorem end_go {a : α} (e : G a = .go Γ') (w : Wk Γ Γ') : Tr G Γ (.ok a) .nx := .mk fun s hs => by
  show (G a).Ok _
  rw [e]
  exact ⟨s, .inl rfl, w.st hs⟩
theorem end_goC {a : α} (e : G a = .go Γ') (w : Wk Γ Γ') : Tr G Γ (.ok a) .ct := .mk fun s hs => by
  show (G a).Ok _
  rw [e]
  exact ⟨s, .inr rfl, w.st hs⟩
theorem end_bk {a : α} (e : G a = .bk Γ') (w : Wk Γ Γ') : Tr G Γ (.ok a) .bk := .mk fun s hs => by
  show (G a).Ok _
  rw [e]
  exact ⟨s, rfl, w.st hs⟩
/-! a piece read apart, then what follows -/
theorem tr_cut {t : T} {m1 : M τ} {Γ1 : τ → List SD} {k : τ → M α} (h : Tr (fun a => .nx (Γ1 a)) Γ m1 (oX Φ t)) (hk : ∀ a, Tr G (Γ1 a) (k a) κ) : Tr G Γ (m1.bind k) (fun s => sq κ (oX Φ t s)) := .mk fun s hs => by
  have q : OutOk (fun a => .nx (Γ1 a)) m1 (oX Φ t s) := h s hs
  show OutOk G (m1.bind k) (sq κ (oX Φ t s))
  cases m1 with
  | no => trivial
  | ex c fs =>
    obtain ⟨s', e⟩ := q
    rw [e]
    exact ⟨s', rfl⟩
  | ok a =>
    obtain ⟨s', e, st⟩ := q
    rw [e]
    exact hk a s' st
/-- ends of a loop that may return -/
def GF (Γσ : σ → List SD) (vr : ρ → Vl) (Γr : ρ → List SD) : Fl σ ρ → OD
  | .nx s => .nx (Γσ s)
  | .rt r => .rt (vr r) (Γr r)
def GL (Γσ : σ → List SD) (vr : ρ → Vl) (Γr : ρ → List SD) : Ct σ ρ → OD
  | .nx s => .go (Γσ s)
  | .bk s => .bk (Γσ s)
  | .rt r => .rt (vr r) (Γr r)
def GW (Γσ : σ → List SD) (vr : ρ → Vl) (Γr : ρ → List SD) : Ct σ ρ → OD
  | .nx s => .nx (Γσ s)
  | .bk s => .bk (Γσ s)
  | .rt r => .rt (vr r) (Γr r)
theorem tr_cutR {t : T} {m1 : M (Fl σ ρ)} {Γσ : σ → List SD} {vr : ρ → Vl} {Γr : ρ → List SD} {k : Fl σ ρ → M α} (h : Tr (GF Γσ vr Γr) Γ m1 (oX Φ t)) (hk : ∀ a, Tr G (Γσ a) (k (.nx a)) κ) (hr : ∀ r, Tr G (Γr r) (k (.rt r)) (.rt (vr r))) : Tr G Γ (m1.bind k) (fun s => sq κ (oX Φ t s)) := .mk fun s hs => by
  have q : OutOk (GF Γσ vr Γr) m1 (oX Φ t s) := h s hs
  show OutOk G (m1.bind k) (sq κ (oX Φ t s))
  cases m1 with
  | no => trivial
  | ex c fs =>
    obtain ⟨s', e⟩ := q
    rw [e]
    exact ⟨s', rfl⟩
  | ok a =>
    cases a with
    | nx a =>
      obtain ⟨s', e, st⟩ := q
      rw [e]
      exact hk a s' st
    | rt r =>
      obtain ⟨s', e, st⟩ := q
      rw [e]
      exact hr r s' st
/-! append, pop, an item set -/
def appK (i : Nat) (κ : S → O) (v : Vl) (s : S) : O := match s[i]? with
      | some (some (.own tag xs)) => if fitsL (xs.length + 1) then κ (s.set i (some (.own tag (xs ++ [v.dat])))) else .no
      | _ => .no
theorem tr_app {i : Nat} {t : Bool} {xs : List D} {e : T} (h : Γ[i]? = some (.own t xs)) (k : Tr G Γ m (fun s => (oE Φ e s).toO (appK i κ))) : Tr G Γ m (fun s => sq κ (oX Φ (.app i e) s)) := .mk fun s hs => by
  obtain ⟨o, es, ok⟩ := hs.get h
  have ok : o = some (.own t xs) := ok
  subst ok
  show OutOk G m (sq κ (oX Φ (.app i e) s))
  have q : OutOk G m ((oE Φ e s).toO (appK i κ)) := k s hs
  rw [x_app, es]
  refine cast ?_ q
  congr 1
  show _ = sq κ (match oE Φ e s with
      | .ok v s => (match s[i]? with
        | some (some (.own tag xs)) => if fitsL (xs.length + 1) then .nx (s.set i (some (.own tag (xs ++ [v.dat])))) else .no
        | _ => .no)
      | .ex c fs s => .ex c fs s
      | .no => .no)
  cases oE Φ e s with
  | ok v s1 =>
    show (match s1[i]? with
      | some (some (.own tag xs)) => if fitsL (xs.length + 1) then κ (s1.set i (some (.own tag (xs ++ [v.dat])))) else .no
      | _ => .no) = sq κ (match s1[i]? with
        | some (some (.own tag xs)) => if fitsL (xs.length + 1) then .nx (s1.set i (some (.own tag (xs ++ [v.dat])))) else .no
        | _ => .no)
    split
    · split <;> rfl
    · rfl
  | ex c fs s1 => rfl
  | no => rfl
theorem tr_appE {i : Nat} {t : Bool} {e : β → D} {xs : List β} {y : β} {v : Vl} {k : List β → M α} (h : Γ[i]? = some (.own t (xs.map e))) (hv : v.dat = e y) (hk : ∀ zs, Tr G (Γ.set i (.own t (zs.map e))) (k zs) κ) : Tr G Γ ((M.app xs y).bind k) (appK i κ v) := .mk fun s hs => by
  obtain ⟨o, es, ok⟩ := hs.get h
  have ok : o = some (.own t (xs.map e)) := ok
  subst ok
  unfold appK
  rw [es]
  dsimp only
  unfold M.app
  rw [List.length_map]
  by_cases q : fitsL (xs.length + 1) = true
  · rw [if_pos q, if_pos q, hv]
    have := hk (xs ++ [y]) (s.set i (some (.own t ((xs ++ [y]).map e)))) (hs.set i rfl)
    rw [List.map_append] at this
    exact this
  · rw [if_neg q]
    trivial
theorem tr_asgT {ps e : T} (k : Tr G Γ m (fun s => (oE Φ e s).toO fun v s => sq κ (onlyN (oB Φ (.tup ps) v.dat s)))) : Tr G Γ m (fun s => sq κ (oX Φ (.asg (.tup ps) e) s)) :=
  tr_eq (fun s => by
    rw [x_asg_tup]
    cases oE Φ e s <;> rfl) k
theorem tr_asgI {i : Nat} {b e : T} (k : Tr G Γ m (fun s => (oE Φ e s).toO fun v s => sq κ (onlyN (oB Φ (.idx (.var i) b) v.dat s)))) : Tr G Γ m (fun s => sq κ (oX Φ (.asg (.idx (.var i) b) e) s)) :=
  tr_eq (fun s => by
    rw [x_asg_idx]
    cases oE Φ e s <;> rfl) k
/-! targets: what a target does, then what follows -/
theorem onlyN_sq {o : O} : sq κ (onlyN o) = (match o with | .nx s => κ s | .ex c fs s => .ex c fs s | _ => .no) := by cases o <;> rfl
/-- binding, then κ -/
noncomputable def bnd (Φ : Call) (p : T) (x : D) (κ : S → O) (s : S) : O := match oB Φ p x s with
  | .nx s => κ s
  | .ex c fs s => .ex c fs s
  | _ => .no
noncomputable def bnds (Φ : Call) (p : T) (x : List D) (κ : S → O) (s : S) : O := match oBs Φ p x s with
  | .nx s => κ s
  | .ex c fs s => .ex c fs s
  | _ => .no
theorem tr_bnd {p : T} {x : D} (k : Tr G Γ m (bnd Φ p x κ)) : Tr G Γ m (fun s => sq κ (onlyN (oB Φ p x s))) := tr_eq (fun s => onlyN_sq) k
theorem bnd_var {i : Nat} {x : D} (hi : Nat.blt i Γ.length = true) (k : Tr G (Γ.set i (.dat x)) m κ) : Tr G Γ m (bnd Φ (.var i) x κ) := .mk fun s hs => by
  have hl : i < s.length := by
    rw [hs.len]
    exact Nat.le_of_ble_eq_true hi
  unfold bnd
  rw [b_var, if_pos hl]
  exact k _ (hs.set i ⟨_, rfl, rfl⟩)
theorem bnd_tup {ps : T} {xs : List D} (hl : plainLen ps = some xs.length) (k : Tr G Γ m (bnds Φ ps xs κ)) : Tr G Γ m (bnd Φ (.tup ps) (.tup xs) κ) := tr_eq (fun s => by
  unfold bnd bnds
  rw [b_tup, if_pos hl]) k
theorem bnds_nil (k : Tr G Γ m κ) : Tr G Γ m (bnds Φ .nil [] κ) := tr_eq (fun s => by unfold bnds; rw [bs_nil]) k
theorem bnds_cons {p r : T} {x : D} {xs : List D} (k : Tr G Γ m (bnd Φ p x (bnds Φ r xs κ))) : Tr G Γ m (bnds Φ (.cons p r) (x :: xs) κ) := tr_eq (fun s => by
  unfold bnds bnd
  rw [bs_cons]
  cases oB Φ p x s <;> rfl) k
theorem bnd_idx {i : Nat} {t : Bool} {b : T} {e : β → D} {xs : List β} {y : β} {j : Int} {k : List β → M α} (h : Γ[i]? = some (.own t (xs.map e))) (hb : PE Φ Γ b (.int j)) (hk : ∀ zs, Tr G (Γ.set i (.own t (zs.map e))) (k zs) κ) : Tr G Γ ((M.setAt xs j y).bind k) (bnd Φ (.idx (.var i) b) (e y) κ) := .mk fun s hs => by
  obtain ⟨s1, e1, h1⟩ := hb s hs
  obtain ⟨o, es, ok⟩ := h1.get h
  have ok : o = some (.own t (xs.map e)) := ok
  subst ok
  unfold bnd M.setAt
  rw [b_idx, hs.peek (x := .lst (xs.map e)) h rfl]
  dsimp only
  rw [e1]
  dsimp only
  rw [es]
  dsimp only
  rw [List.length_map]
  by_cases q : (decide (0 ≤ j) && decide (j.toNat < xs.length)) = true
  · rw [if_pos q, if_pos q]
    have := hk (xs.set j.toNat y) (s1.set i (some (.own t ((xs.set j.toNat y).map e)))) (h1.set i rfl)
    rw [List.map_set] at this
    exact this
  · rw [if_neg q]
    trivial
end
end MK

set_option Elab.async false
set_option linter.all false
set_option maxRecDepth 100000
set_option maxHeartbeats 4000000
/-! What is walked; loops; comprehensions. -/
namespace MK
open MI
def rngL (i : Int) (n : Nat) : List Int := (List.range n).map fun (k : Nat) => i + (k : Int)
def rngS (i c : Int) (n : Nat) : List Int := (List.range n).map fun (k : Nat) => i + (k : Int) * c
def enumI {α : Type} : Nat → List α → List (Int × α)
  | _, [] => []
  | k, x :: r => ((k : Int), x) :: enumI (k + 1) r
namespace M
variable {α β σ ρ : Type}
def range1 (j : Int) : M (List Int) := if in62 j then .ok (rngL 0 j.toNat) else .no
def range (i j : Int) : M (List Int) := if in62 i && in62 j then .ok (rngL i (j - i).toNat) else .no
/-- an exception within a comprehension is not covered -/
def nox (m : M α) : M α := match m with
  | .ok a => .ok a
  | _ => .no
@[simp] theorem nox_ok (a : α) : (M.ok a).nox = .ok a := rfl
def compL (f : σ → α → M (Option β × σ)) (s : σ) : List α → M (List β × σ)
  | [] => .ok ([], s)
  | x :: r => ((f s x).nox).bind fun p => (compL f p.2 r).bind fun q => .ok (match p.1 with | some y => y :: q.1 | none => q.1, q.2)
def comp (f : σ → α → M (Option β × σ)) (s : σ) (xs : List α) : M (List β × σ) := (compL f s xs).bind fun p => if fitsL p.1.length then .ok p else .no
/-- [f(x) for x in xs], with a state -/
def compS (f : σ → α → M (β × σ)) (s : σ) (xs : List α) : M (List β × σ) := comp (fun s x => (f s x).bind fun p => .ok (some p.1, p.2)) s xs
def mapC (f : α → M β) (xs : List α) : M (List β) := (comp (fun (_ : Unit) x => (f x).bind fun y => .ok (some y, ())) () xs).bind fun p => .ok p.1
def optC (f : α → M (Option β)) (xs : List α) : M (List β) := (comp (fun (_ : Unit) x => (f x).bind fun y => .ok (y, ())) () xs).bind fun p => .ok p.1
end M
section
variable {α β σ ρ τ : Type} {Φ : Call} {Γ Γ' Γ1 : List SD} {G : α → OD} {m : M α} {f : Vl → S → O} {fI : List D → S → O} {κ : S → O}
theorem i_enum' (a : T) (s : S) : oI Φ (.enum a) s = (oE Φ a s).bind fun x s => match x.dat with
    | .lst xs => .ok (enumL 0 xs) s
    | .tup xs => .ok (enumL 0 xs) s
    | _ => .no := by
  simp only [oE_eq, oI_eq]
  rfl
theorem i_zip' (a b : T) (s : S) : oI Φ (.zip a b) s = (oE Φ a s).bind fun x s => (oE Φ b s).bind fun y s => match x.dat, y.dat with
    | .lst xs, .lst ys => .ok (zipL xs ys) s
    | .tup xs, .tup ys => .ok (zipL xs ys) s
    | _, _ => .no := by
  simp only [oE_eq, oI_eq]
  rfl
/-! ### what is walked -/
def itO (x : D) (f : List D → S → O) (s : S) : O := match x with
  | .lst xs => f xs s
  | .tup xs => f xs s
  | _ => .no
def rg1O (x : Vl) (f : List D → S → O) (s : S) : O := match x with
  | .d (.int j) => if in62 j then f (rangeL 0 j.toNat) s else .no
  | _ => .no
def rg2O (x y : Vl) (f : List D → S → O) (s : S) : O := match x, y with
  | .d (.int i), .d (.int j) => if in62 i && in62 j then f (rangeL i (j - i).toNat) s else .no
  | _, _ => .no
def enO (x : D) (f : List D → S → O) (s : S) : O := match x with
  | .lst xs => f (enumL 0 xs) s
  | .tup xs => f (enumL 0 xs) s
  | _ => .no
def zpO (x y : D) (f : List D → S → O) (s : S) : O := match x, y with
  | .lst xs, .lst ys => f (zipL xs ys) s
  | .tup xs, .tup ys => f (zipL xs ys) s
  | _, _ => .no
theorem ti_it {a : T} (k : Tr G Γ m (fun s => (oE Φ a s).toO fun v s => itO v.dat fI s)) : Tr G Γ m (fun s => (oI Φ (.it a) s).toO fI) :=
  tr_eq (fun s => by
    rw [i_it', toO_bind]
    congr 1
    funext v s
    cases v.dat <;> rfl) k
theorem ti_rng1 {a : T} (k : Tr G Γ m (fun s => (oE Φ a s).toO fun v s => rg1O v fI s)) : Tr G Γ m (fun s => (oI Φ (.rng (.cons a .nil)) s).toO fI) :=
  tr_eq (fun s => by
    rw [i_rng1', toO_bind]
    congr 1
    funext v s
    cases v with
    | d x =>
      cases x with
      | int j =>
        show R.toO (if in62 j = true then R.ok (rangeL 0 j.toNat) s else R.no) fI = if in62 j = true then fI (rangeL 0 j.toNat) s else .no
        split <;> rfl
      | _ => rfl
    | _ => rfl) k
theorem ti_rng2 {a b : T} (k : Tr G Γ m (fun s => (oE Φ a s).toO fun v s => (oE Φ b s).toO fun w s => rg2O v w fI s)) : Tr G Γ m (fun s => (oI Φ (.rng (.cons a (.cons b .nil))) s).toO fI) :=
  tr_eq (fun s => by
    rw [i_rng2', toO_bind]
    congr 1
    funext v s
    rw [toO_bind]
    congr 1
    funext w s
    cases v with
    | d x =>
      cases x with
      | int i =>
        cases w with
        | d y =>
          cases y with
          | int j =>
            show R.toO (if (in62 i && in62 j) = true then R.ok (rangeL i (j - i).toNat) s else R.no) fI = if (in62 i && in62 j) = true then fI (rangeL i (j - i).toNat) s else .no
            split <;> rfl
          | _ => rfl
        | _ => rfl
      | _ => rfl
    | _ => rfl) k
theorem ti_enum {a : T} (k : Tr G Γ m (fun s => (oE Φ a s).toO fun v s => enO v.dat fI s)) : Tr G Γ m (fun s => (oI Φ (.enum a) s).toO fI) :=
  tr_eq (fun s => by
    rw [i_enum', toO_bind]
    congr 1
    funext v s
    cases v.dat <;> rfl) k
theorem ti_zip {a b : T} (k : Tr G Γ m (fun s => (oE Φ a s).toO fun v s => (oE Φ b s).toO fun w s => zpO v.dat w.dat fI s)) : Tr G Γ m (fun s => (oI Φ (.zip a b) s).toO fI) :=
  tr_eq (fun s => by
    rw [i_zip', toO_bind]
    congr 1
    funext v s
    rw [toO_bind]
    congr 1
    funext w s
    cases v.dat <;> cases w.dat <;> rfl) k
theorem rangeL_map (i : Int) (n : Nat) : rangeL i n = (rngL i n).map eI := by
  unfold rangeL rngL
  rw [List.map_map]
  rfl
theorem tr_range1 {j : Int} {k : List Int → M α} (h : ∀ ns, Tr G Γ (k ns) (fI (ns.map eI))) : Tr G Γ ((M.range1 j).bind k) (rg1O (.d (.int j)) fI) := by
  show Tr G Γ ((M.range1 j).bind k) (fun s => if in62 j then fI (rangeL 0 j.toNat) s else .no)
  unfold M.range1
  split
  · rw [rangeL_map]; exact h _
  · exact Tr.no
theorem tr_range {i j : Int} {k : List Int → M α} (h : ∀ ns, Tr G Γ (k ns) (fI (ns.map eI))) : Tr G Γ ((M.range i j).bind k) (rg2O (.d (.int i)) (.d (.int j)) fI) := by
  show Tr G Γ ((M.range i j).bind k) (fun s => if in62 i && in62 j then fI (rangeL i (j - i).toNat) s else .no)
  unfold M.range
  split
  · rw [rangeL_map]; exact h _
  · exact Tr.no
theorem enum_map {e : β → D} : ∀ (k : Nat) (xs : List β), enumL k (xs.map e) = (enumI k xs).map (eP eI e)
  | _, [] => rfl
  | k, x :: r => by
    show .tup [.int k, e x] :: enumL (k + 1) (r.map e) = _
    rw [enum_map (k + 1) r]
    rfl
theorem zip_map {e : β → D} {e' : τ → D} : ∀ (xs : List β) (ys : List τ), zipL (xs.map e) (ys.map e') = (xs.zip ys).map (eP e e')
  | [], _ => by simp [zipL]
  | x :: r, [] => rfl
  | x :: r, y :: q => by
    show .tup [e x, e' y] :: zipL (r.map e) (q.map e') = _
    rw [zip_map r q]
    rfl
theorem tr_itL {e : β → D} {xs : List β} {x : D} (h : x = eL e xs) (k : Tr G Γ m (fI (xs.map e))) : Tr G Γ m (itO x fI) := by
  subst h
  exact k
theorem tr_itT {e : β → D} {xs : List β} {x : D} (h : x = eT e xs) (k : Tr G Γ m (fI (xs.map e))) : Tr G Γ m (itO x fI) := by
  subst h
  exact k
theorem tr_enumL {e : β → D} {xs : List β} (h : Tr G Γ m (fI ((enumI 0 xs).map (eP eI e)))) : Tr G Γ m (enO (eL e xs) fI) := by
  show Tr G Γ m (fI (enumL 0 (xs.map e)))
  rw [enum_map]
  exact h
theorem tr_enumT {e : β → D} {xs : List β} (h : Tr G Γ m (fI ((enumI 0 xs).map (eP eI e)))) : Tr G Γ m (enO (eT e xs) fI) := by
  show Tr G Γ m (fI (enumL 0 (xs.map e)))
  rw [enum_map]
  exact h
theorem tr_zipL {e : β → D} {e' : τ → D} {xs : List β} {ys : List τ} (h : Tr G Γ m (fI ((xs.zip ys).map (eP e e')))) : Tr G Γ m (zpO (eL e xs) (eL e' ys) fI) := by
  show Tr G Γ m (fI (zipL (xs.map e) (ys.map e')))
  rw [zip_map]
  exact h
theorem tr_zipT {e : β → D} {e' : τ → D} {xs : List β} {ys : List τ} (h : Tr G Γ m (fI ((xs.zip ys).map (eP e e')))) : Tr G Γ m (zpO (eT e xs) (eT e' ys) fI) := by
  show Tr G Γ m (fI (zipL (xs.map e) (ys.map e')))
  rw [zip_map]
  exact h

/-! ### for -/
theorem tr_for {p it b : T} (k : Tr G Γ m (fun s => (oI Φ it s).toO fun xs s => sq κ (loopL (oF Φ p b) xs s))) : Tr G Γ m (fun s => sq κ (oX Φ (.for p it b) s)) :=
  tr_eq (fun s => by
    rw [x_for]
    cases oI Φ it s <;> rfl) k
theorem tr_turn {p b : T} {x : D} (k : Tr G Γ m (bnd Φ p x (oX Φ b))) : Tr G Γ m (fun s => oF Φ p b x s) := tr_eq (fun s => by
  rw [stepF_s]
  unfold bnd
  cases oB Φ p x s <;> rfl) k
theorem fold_run {Γσ : σ → List SD} {e : β → D} {p b : T} {body : σ → β → M σ} (hb : ∀ s x, Tr (fun s' => .go (Γσ s')) (Γσ s) (body s x) (fun z => oF Φ p b (e x) z)) : ∀ (xs : List β) (s0 : σ), Tr (fun s => .nx (Γσ s)) (Γσ s0) (M.fold body s0 xs) (loopL (oF Φ p b) (xs.map e))
  | [], s0 => .mk fun s hs => ⟨s, rfl, hs⟩
  | x :: r, s0 => .mk fun s hs => by
    have q : OutOk (fun s' => .go (Γσ s')) (body s0 x) (oF Φ p b (e x) s) := hb s0 x s hs
    show OutOk _ ((body s0 x).bind fun s => M.fold body s r) (loopL (oF Φ p b) (e x :: r.map e) s)
    cases eb : body s0 x with
    | no => trivial
    | ex c fs =>
      rw [eb] at q
      obtain ⟨s', h⟩ := q
      rw [loopL_cons, h]
      exact ⟨s', rfl⟩
    | ok s1 =>
      rw [eb] at q
      obtain ⟨s', h, st⟩ := q
      rw [loopL_cons]
      rcases h with h | h
      · rw [h]; exact fold_run hb r s1 s' st
      · rw [h]; exact fold_run hb r s1 s' st
theorem loop_run {Γσ : σ → List SD} {vr : ρ → Vl} {Γr : ρ → List SD} {e : β → D} {p b : T} {body : σ → β → M (Ct σ ρ)} (hb : ∀ s x, Tr (GL Γσ vr Γr) (Γσ s) (body s x) (fun z => oF Φ p b (e x) z)) : ∀ (xs : List β) (s0 : σ), Tr (GF Γσ vr Γr) (Γσ s0) (M.loop body s0 xs) (loopL (oF Φ p b) (xs.map e))
  | [], s0 => .mk fun s hs => ⟨s, rfl, hs⟩
  | x :: r, s0 => .mk fun s hs => by
    have q : OutOk (GL Γσ vr Γr) (body s0 x) (oF Φ p b (e x) s) := hb s0 x s hs
    show OutOk _ ((body s0 x).bind _) (loopL (oF Φ p b) (e x :: r.map e) s)
    cases eb : body s0 x with
    | no => trivial
    | ex c fs =>
      rw [eb] at q
      obtain ⟨s', h⟩ := q
      rw [loopL_cons, h]
      exact ⟨s', rfl⟩
    | ok t =>
      rw [eb] at q
      cases t with
      | nx s1 =>
        obtain ⟨s', h, st⟩ := q
        rw [loopL_cons]
        rcases h with h | h
        · rw [h]; exact loop_run hb r s1 s' st
        · rw [h]; exact loop_run hb r s1 s' st
      | bk s1 =>
        obtain ⟨s', h, st⟩ := q
        rw [loopL_cons, h]
        exact ⟨s', rfl, st⟩
      | rt v =>
        obtain ⟨s', h, st⟩ := q
        rw [loopL_cons, h]
        exact ⟨s', rfl, st⟩
theorem sq_run {m1 : M τ} {Γ1 : τ → List SD} {k : τ → M α} {F : S → O} (h : Tr (fun a => .nx (Γ1 a)) Γ m1 F) (hk : ∀ a, Tr G (Γ1 a) (k a) κ) : Tr G Γ (m1.bind k) (fun s => sq κ (F s)) := .mk fun s hs => by
  have q : OutOk (fun a => .nx (Γ1 a)) m1 (F s) := h s hs
  show OutOk G (m1.bind k) (sq κ (F s))
  cases m1 with
  | no => trivial
  | ex c fs =>
    obtain ⟨s', e⟩ := q
    rw [e]
    exact ⟨s', rfl⟩
  | ok a =>
    obtain ⟨s', e, st⟩ := q
    rw [e]
    exact hk a s' st
theorem sq_runR {m1 : M (Fl σ ρ)} {Γσ : σ → List SD} {vr : ρ → Vl} {Γr : ρ → List SD} {k : Fl σ ρ → M α} {F : S → O} (h : Tr (GF Γσ vr Γr) Γ m1 F) (hk : ∀ a, Tr G (Γσ a) (k (.nx a)) κ) (hr : ∀ r, Tr G (Γr r) (k (.rt r)) (.rt (vr r))) : Tr G Γ (m1.bind k) (fun s => sq κ (F s)) := .mk fun s hs => by
  have q : OutOk (GF Γσ vr Γr) m1 (F s) := h s hs
  show OutOk G (m1.bind k) (sq κ (F s))
  cases m1 with
  | no => trivial
  | ex c fs =>
    obtain ⟨s', e⟩ := q
    rw [e]
    exact ⟨s', rfl⟩
  | ok a =>
    cases a with
    | nx a =>
      obtain ⟨s', e, st⟩ := q
      rw [e]
      exact hk a s' st
    | rt r =>
      obtain ⟨s', e, st⟩ := q
      rw [e]
      exact hr r s' st
theorem tr_fold {e : β → D} {p b : T} {s0 : σ} {xs : List β} {body : σ → β → M σ} {k : σ → M α} (Γσ : σ → List SD) (w : Wk Γ (Γσ s0)) (hb : ∀ s x, Tr (fun s' => .go (Γσ s')) (Γσ s) (body s x) (fun z => oF Φ p b (e x) z)) (hk : ∀ s, Tr G (Γσ s) (k s) κ) :
    Tr G Γ ((M.fold body s0 xs).bind k) (fun s => sq κ (loopL (oF Φ p b) (xs.map e) s)) := Tr.wk w (sq_run (fold_run hb xs s0) hk)
theorem tr_loop {e : β → D} {p b : T} {s0 : σ} {xs : List β} {body : σ → β → M (Ct σ ρ)} {kn : σ → M α} {kr : ρ → M α} (Γσ : σ → List SD) (vr : ρ → Vl) (Γr : ρ → List SD) (w : Wk Γ (Γσ s0)) (hb : ∀ s x, Tr (GL Γσ vr Γr) (Γσ s) (body s x) (fun z => oF Φ p b (e x) z)) (hk : ∀ a, Tr G (Γσ a) (kn a) κ) (hr : ∀ r, Tr G (Γr r) (kr r) (.rt (vr r))) :
    Tr G Γ ((M.loop body s0 xs).bind (M.fl kn kr)) (fun s => sq κ (loopL (oF Φ p b) (xs.map e) s)) := Tr.wk w (sq_runR (loop_run hb xs s0) hk hr)

/-! ### while -/
def tsO (o : Option Bool) (s : S) : O := match o with
  | some b => .rt (.d (.bl b)) s
  | none => .no
def ctnx : O → O
  | .ct s => .nx s
  | o => o
theorem end_ts {b : Bool} {o : Option Bool} {G : Bool → OD} (eo : o = some b) (e : G b = .rt (.d (.bl b)) Γ') (w : Wk Γ Γ') : Tr G Γ (.ok b) (tsO o) := by
  subst eo
  exact end_rt e w
theorem oW_s (c b : T) (s : S) : oW Φ c b s = (oE Φ c s).toO fun v s => brn (tru v.dat) (ctnx (oX Φ b s)) (.bk s) := by
  unfold oW
  cases oE Φ c s with
  | ok v s1 =>
    show (match tru v.dat with
      | some true => (match oX Φ b s1 with | .ct s => .nx s | o => o)
      | some false => .bk s1
      | none => .no) = brn (tru v.dat) (ctnx (oX Φ b s1)) (.bk s1)
    cases tru v.dat with
    | none => rfl
    | some k => cases k <;> rfl
  | ex c fs s1 => rfl
  | no => rfl
theorem whl_run {Γσ : σ → List SD} {c b : T} {cm : σ → M Bool} {bm : σ → M σ} (hc : ∀ s, Tr (fun b => .rt (.d (.bl b)) (Γσ s)) (Γσ s) (cm s) (fun z => (oE Φ c z).toO fun v z => tsO (tru v.dat) z)) (hb : ∀ s, Tr (fun s' => .go (Γσ s')) (Γσ s) (bm s) (oX Φ b)) :
    ∀ (n : Nat) (s0 : σ), Tr (fun s => .nx (Γσ s)) (Γσ s0) (M.whl cm bm n s0) (loopN n (oW Φ c b))
  | 0, s0 => Tr.no
  | n + 1, s0 => .mk fun s hs => by
    have q : OutOk (fun b => .rt (.d (.bl b)) (Γσ s0)) (cm s0) ((oE Φ c s).toO fun v z => tsO (tru v.dat) z) := hc s0 s hs
    show OutOk (fun s => .nx (Γσ s)) ((cm s0).bind fun b => if b then (bm s0).bind fun s => M.whl cm bm n s else .ok s0) (match oW Φ c b s with
      | .nx s' => loopN n (oW Φ c b) s'
      | .bk s' => .nx s'
      | o => o)
    rw [oW_s]
    cases ec : cm s0 with
    | no => trivial
    | ex cc fs =>
      rw [ec] at q
      obtain ⟨s', e⟩ := q
      cases e2 : oE Φ c s with
      | ok v s1 =>
        rw [e2] at e
        have e : tsO (tru v.dat) s1 = .ex cc fs s' := e
        unfold tsO at e
        split at e <;> cases e
      | no => rw [e2] at e; cases e
      | ex c' fs' s1 => rw [e2] at e; cases e; exact ⟨_, rfl⟩
    | ok k =>
      rw [ec] at q
      obtain ⟨s', e, st⟩ := q
      cases e2 : oE Φ c s with
      | no => rw [e2] at e; cases e
      | ex c' fs' s1 => rw [e2] at e; cases e
      | ok v s1 =>
        rw [e2] at e
        have e : tsO (tru v.dat) s1 = .rt (.d (.bl k)) s' := e
        unfold tsO at e
        split at e
        · rename_i k' ek
          cases e
          show OutOk _ (if k = true then _ else M.ok s0) (match brn (tru v.dat) (ctnx (oX Φ b s')) (.bk s') with
            | .nx s' => loopN n (oW Φ c b) s'
            | .bk s' => .nx s'
            | o => o)
          rw [ek]
          cases k with
          | false => exact ⟨s', rfl, st⟩
          | true =>
            show OutOk _ ((bm s0).bind fun s => M.whl cm bm n s) (match ctnx (oX Φ b s') with
              | .nx s' => loopN n (oW Φ c b) s'
              | .bk s' => .nx s'
              | o => o)
            have q2 := hb s0 s' st
            cases eb : bm s0 with
            | no => trivial
            | ex c fs =>
              rw [eb] at q2
              obtain ⟨s2, e⟩ := q2
              rw [e]
              exact ⟨s2, rfl⟩
            | ok t =>
              rw [eb] at q2
              obtain ⟨s2, e, st'⟩ := q2
              rcases e with e | e
              · rw [e]; exact whl_run hc hb n t s2 st'
              · rw [e]; exact whl_run hc hb n t s2 st'
        · cases e
theorem tr_oW {c b : T} (k : Tr G Γ m (fun s => (oE Φ c s).toO fun v s => brn (tru v.dat) (ctnx (oX Φ b s)) (.bk s))) : Tr G Γ m (oW Φ c b) := tr_eq (fun s => oW_s c b s) k
theorem tr_ctnx {Γσ : σ → List SD} {vr : ρ → Vl} {Γr : ρ → List SD} {m : M (Ct σ ρ)} {F : S → O} (h : Tr (GL Γσ vr Γr) Γ m F) : Tr (GW Γσ vr Γr) Γ m (fun s => ctnx (F s)) := .mk fun s hs => by
  have q : OutOk (GL Γσ vr Γr) m (F s) := h s hs
  show OutOk _ m (ctnx (F s))
  cases m with
  | no => trivial
  | ex c fs =>
    obtain ⟨s', e⟩ := q
    rw [e]
    exact ⟨s', rfl⟩
  | ok t =>
    cases t with
    | nx a =>
      obtain ⟨s', e, st⟩ := q
      rcases e with e | e <;> rw [e] <;> exact ⟨s', rfl, st⟩
    | bk a =>
      obtain ⟨s', e, st⟩ := q
      rw [e]; exact ⟨s', rfl, st⟩
    | rt a =>
      obtain ⟨s', e, st⟩ := q
      rw [e]; exact ⟨s', rfl, st⟩
theorem whlR_run {Γσ : σ → List SD} {vr : ρ → Vl} {Γr : ρ → List SD} {F : S → O} {body : σ → M (Ct σ ρ)} (hb : ∀ s, Tr (GW Γσ vr Γr) (Γσ s) (body s) F) : ∀ (n : Nat) (s0 : σ), Tr (GF Γσ vr Γr) (Γσ s0) (M.whlR body n s0) (loopN n F)
  | 0, s0 => Tr.no
  | n + 1, s0 => .mk fun s hs => by
    have q := hb s0 s hs
    show OutOk _ ((body s0).bind _) (match F s with
      | .nx s' => loopN n F s'
      | .bk s' => .nx s'
      | o => o)
    cases eb : body s0 with
    | no => trivial
    | ex c fs =>
      rw [eb] at q
      obtain ⟨s', h⟩ := q
      rw [h]
      exact ⟨s', rfl⟩
    | ok t =>
      rw [eb] at q
      cases t with
      | nx s1 =>
        obtain ⟨s', h, st⟩ := q
        rw [h]; exact whlR_run hb n s1 s' st
      | bk s1 =>
        obtain ⟨s', h, st⟩ := q
        rw [h]
        exact ⟨s', rfl, st⟩
      | rt v =>
        obtain ⟨s', h, st⟩ := q
        rw [h]
        exact ⟨s', rfl, st⟩
theorem tr_whl {c b : T} {s0 : σ} {cm : σ → M Bool} {bm : σ → M σ} {k : σ → M α} (Γσ : σ → List SD) (w : Wk Γ (Γσ s0)) (hc : ∀ s, Tr (fun b => .rt (.d (.bl b)) (Γσ s)) (Γσ s) (cm s) (fun z => (oE Φ c z).toO fun v z => tsO (tru v.dat) z)) (hb : ∀ s, Tr (fun s' => .go (Γσ s')) (Γσ s) (bm s) (oX Φ b)) (hk : ∀ s, Tr G (Γσ s) (k s) κ) :
    Tr G Γ ((M.whl cm bm FUEL s0).bind k) (fun s => sq κ (oX Φ (.whl c b) s)) := tr_eq (fun s => by rw [x_whl]) (Tr.wk w (sq_run (whl_run hc hb FUEL s0) hk))
theorem tr_whlR {c b : T} {s0 : σ} {body : σ → M (Ct σ ρ)} {kn : σ → M α} {kr : ρ → M α} (Γσ : σ → List SD) (vr : ρ → Vl) (Γr : ρ → List SD) (w : Wk Γ (Γσ s0)) (hb : ∀ s, Tr (GW Γσ vr Γr) (Γσ s) (body s) (oW Φ c b)) (hk : ∀ a, Tr G (Γσ a) (kn a) κ) (hr : ∀ r, Tr G (Γr r) (kr r) (.rt (vr r))) :
    Tr G Γ ((M.whlR body FUEL s0).bind (M.fl kn kr)) (fun s => sq κ (oX Φ (.whl c b) s)) := tr_eq (fun s => by rw [x_whl]) (Tr.wk w (sq_runR (whlR_run hb FUEL s0) hk hr))
end
end MK

set_option Elab.async false
set_option linter.all false
set_option maxRecDepth 100000
set_option maxHeartbeats 4000000
/-! Comprehensions; calls; defs. -/
namespace MK
open MI
section
variable {α β γ σ ρ τ : Type} {Φ : Call} {Γ Γ' Γ1 : List SD} {G : α → OD} {m : M α} {f : Vl → S → O} {fI : List D → S → O} {κ : S → O}
theorem Tr.map {g : τ → α} {F : S → O} {m : M τ} (h : Tr (fun a => G (g a)) Γ m F) : Tr G Γ (m.bind fun a => .ok (g a)) F := .mk fun s hs => by
  have q : OutOk (fun a => G (g a)) m (F s) := h s hs
  cases m with
  | ok a => exact q
  | ex c fs => exact q
  | no => trivial
/-! ### comprehensions -/
/-- a turn -/
noncomputable def turnO (Φ : Call) (p c e : T) (x : D) : S → O := bnd Φ p x fun s => (oE Φ c s).toO fun b s => brn (tru b.dat) ((oE Φ e s).toO .rt) (.ct s)
theorem turnC_s (own : List Nat) (p c e : T) (x : D) (s : S) : turnC Φ own p c e x s = match turnO Φ p c e x s with
    | .rt v s => some (some v.dat, wipeS s own)
    | .ct s => some (none, wipeS s own)
    | _ => none := by
  unfold turnC turnO bnd
  cases oB Φ p x s with
  | nx s1 =>
    dsimp only
    cases oE Φ c s1 with
    | ok b s2 =>
      show (match tru b.dat with
            | some true => (match oE Φ e s2 with
              | .ok v s => some (some v.dat, wipeS s own)
              | _ => none)
            | some false => some (none, wipeS s2 own)
            | none => (none : Option (Option D × S))) = match brn (tru b.dat) ((oE Φ e s2).toO .rt) (.ct s2) with
        | .rt v s => some (some v.dat, wipeS s own)
        | .ct s => some (none, wipeS s own)
        | _ => none
      cases tru b.dat with
      | none => rfl
      | some k => cases k with
        | false => rfl
        | true =>
          show (match oE Φ e s2 with
              | .ok v s => some (some v.dat, wipeS s own)
              | _ => (none : Option (Option D × S))) = match (oE Φ e s2).toO .rt with
            | .rt v s => some (some v.dat, wipeS s own)
            | .ct s => some (none, wipeS s own)
            | _ => none
          cases oE Φ e s2 <;> rfl
    | ex _ _ _ => rfl
    | no => rfl
  | _ => rfl
noncomputable def cmpO (Φ : Call) (own : List Nat) (p c e : T) (xs : List D) (f : Vl → S → O) (s : S) : O := match compL (turnC Φ own p c e) xs (wipeS s own) with
  | some (ys, s') => if fitsL ys.length then f (.own false ys) (unwipe s s' own) else .no
  | none => .no
theorem tr_comp {own : List Nat} {p it c e : T} (n : isItV it = false) (k : Tr G Γ m (fun s => (oI Φ it s).toO fun xs s => cmpO Φ own p c e xs f s)) : Tr G Γ m (fun s => (oE Φ (.comp own p it c e) s).toO f) :=
  tr_eq (fun s => by
    rw [e_comp _ _ _ _ _ n, toO_bind]
    congr 1
    funext xs s
    unfold cmpO
    cases compL (turnC Φ own p c e) xs (wipeS s own) with
    | none => rfl
    | some pr =>
      show R.toO (if fitsL pr.1.length = true then _ else _) f = if fitsL pr.1.length = true then _ else _
      split <;> rfl) k
/-- the slot is back -/
def bck (i : Nat) (t : Bool) (xs : List D) (f : Vl → S → O) (v : Vl) (s : S) : O := f v (s.set i (some (.own t xs)))
/-- over a list that a slot holds for itself: the slot is away meanwhile -/
theorem tr_compV {own : List Nat} {i : Nat} {p c e : T} {t : Bool} {xs : List D} (h : Γ[i]? = some (.own t xs)) (ni : own.contains i = false) (k : Tr G (Γ.set i .any) m (fun s => cmpO Φ own p c e xs (bck i t xs f) s)) : Tr G Γ m (fun s => (oE Φ (.comp own p (.itv i) c e) s).toO f) := .mk fun s hs => by
  obtain ⟨o, es, ok⟩ := hs.get h
  have ok : o = some (.own t xs) := ok
  subst ok
  have hs2 : St (Γ.set i .any) (s.set i none) := hs.set i trivial
  have q := k _ hs2
  show OutOk G m ((oE Φ (.comp own p (.itv i) c e) s).toO f)
  rw [e_compV _ _ _ _ _ _ _ es, ni]
  unfold cmpO at q
  cases e1 : compL (turnC Φ own p c e) xs (wipeS (s.set i none) own) with
  | none => rw [e1] at q; exact q
  | some pr =>
    rw [e1] at q
    dsimp only at q ⊢
    rw [Bool.not_false, Bool.and_true]
    split
    · rename_i fit
      rw [if_pos fit] at q
      exact q
    · rename_i fit
      rw [if_neg fit] at q
      exact q
theorem tr_back {i : Nat} {v : Vl} {t : Bool} {xs : List D} (k : Tr G (Γ.set i (.own t xs)) m (f v)) : Tr G Γ m (bck i t xs f v) := .mk fun s hs => k _ (hs.set i rfl)
/-- no slot of own is told of -/
def wiped (Γ : List SD) (own : List Nat) : Bool := own.all fun i => match Γ[i]? with
  | some .any => true
  | none => true
  | _ => false
def wipeΓ (Γ : List SD) : List Nat → List SD
  | [] => Γ
  | i :: r => (wipeΓ Γ r).set i .any
def rstΓ (Γ0 Γ : List SD) : List Nat → List SD
  | [] => Γ
  | i :: r => (rstΓ Γ0 Γ r).set i (match Γ0[i]? with
    | some (.dat x) => if notL x then .dat x else .any
    | _ => .any)
theorem wipe_st {s : S} (h : St Γ s) : ∀ own : List Nat, St (wipeΓ Γ own) (wipeS s own)
  | [] => h
  | i :: r => (wipe_st h r).set i trivial
theorem wiped_eq : ∀ {own : List Nat}, wiped Γ own = true → wipeΓ Γ own = Γ
  | [], _ => rfl
  | i :: r, h => by
    unfold wiped at h
    rw [List.all_cons, Bool.and_eq_true] at h
    have e := wiped_eq (own := r) h.2
    show (wipeΓ Γ r).set i .any = Γ
    rw [e]
    exact List.ext_getElem? fun j => by
      by_cases hij : i = j
      · subst hij
        have h1 := h.1
        cases q : Γ[i]? with
        | none =>
          rw [List.getElem?_eq_none (by rw [List.length_set]; exact List.getElem?_eq_none_iff.mp q)]
        | some d =>
          rw [q] at h1
          cases d with
          | any => rw [List.getElem?_set_self (List.getElem?_eq_some_iff.mp q).1]
          | _ => cases h1
      · rw [List.getElem?_set_ne hij]
theorem unwipe_st {s0 s : S} {Γ0 : List SD} (h0 : St Γ0 s0) (h : St Γ s) : ∀ own : List Nat, St (rstΓ Γ0 Γ own) (unwipe s0 s own)
  | [] => h
  | i :: r => (unwipe_st h0 h r).set i (by
    cases e : Γ0[i]? with
    | none => trivial
    | some d =>
      cases d with
      | dat x =>
        dsimp only
        split
        · rename_i nl
          obtain ⟨o, es, ok⟩ := h0.get e
          obtain ⟨v, rfl, hv⟩ := ok
          rw [es]
          cases v with
          | d y => exact ⟨_, rfl, hv⟩
          | own t y => rw [← hv] at nl; cases nl
          | fz y => rw [← hv] at nl; cases nl
        · trivial
      | any => trivial
      | prm v => trivial
      | own t xs => trivial)
/-- the ends of a turn -/
def GC (Γσ : σ → List SD) (e : β → D) (vv : β → Vl) (own : List Nat) : Option β × σ → OD
  | (some y, s) => .rt (vv y) (Γσ s)
  | (none, s) => .ct (Γσ s)
theorem comp_run {Γσ : σ → List SD} {ei : τ → D} {vv : β → Vl} {own : List Nat} {p c e : T} {body : σ → τ → M (Option β × σ)} (hw : ∀ s, wiped (Γσ s) own = true)
    (hb : ∀ s x, Tr (GC Γσ (fun y => (vv y).dat) vv own) (Γσ s) (body s x) (turnO Φ p c e (ei x))) : ∀ (xs : List τ) (s0 : σ) (s : S), St (Γσ s0) s → match M.compL body s0 xs with
      | .ok q => ∃ s', MI.compL (turnC Φ own p c e) (xs.map ei) s = some (q.1.map fun y => (vv y).dat, s') ∧ St (Γσ q.2) s'
      | _ => True
  | [], s0, s, hs => ⟨s, rfl, hs⟩
  | x :: r, s0, s, hs => by
    have q : OutOk (GC Γσ (fun y => (vv y).dat) vv own) (body s0 x) (turnO Φ p c e (ei x) s) := hb s0 x s hs
    show match ((body s0 x).nox.bind fun p => (M.compL body p.2 r).bind fun q => .ok (match p.1 with | some y => y :: q.1 | none => q.1, q.2) : M (List β × σ)) with
      | .ok q => ∃ s', (match turnC Φ own p c e (ei x) s with
        | none => none
        | some (y, s1) => match MI.compL (turnC Φ own p c e) (r.map ei) s1 with
          | none => none
          | some (ys, s2) => some (joinO y ys, s2)) = some (q.1.map fun y => (vv y).dat, s') ∧ St (Γσ q.2) s'
      | _ => True
    cases eb : body s0 x with
    | no => trivial
    | ex c fs => trivial
    | ok t =>
      obtain ⟨o, s1⟩ := t
      rw [eb] at q
      show match ((M.compL body s1 r).bind fun w => M.ok ((match (generalizing := false) o with | some y => y :: w.1 | none => w.1), w.2) : M (List β × σ)) with
        | .ok (pr : List β × σ) => ∃ s', (match turnC Φ own p c e (ei x) s with
          | none => none
          | some (y, s1) => match MI.compL (turnC Φ own p c e) (r.map ei) s1 with
            | none => none
            | some (ys, s2) => some (joinO y ys, s2)) = some (pr.1.map fun y => (vv y).dat, s') ∧ St (Γσ pr.2) s'
        | _ => True
      cases o with
      | some y =>
        obtain ⟨s', e1, st⟩ := q
        have st2 := wipe_st st own
        rw [wiped_eq (hw s1)] at st2
        have ih := comp_run hw hb r s1 _ st2
        cases e2 : M.compL body s1 r with
        | ok q2 =>
          rw [e2] at ih
          obtain ⟨s2, e3, st3⟩ := ih
          refine ⟨s2, ?_, st3⟩
          rw [turnC_s, e1]
          dsimp only
          rw [e3]
          rfl
        | ex c fs => trivial
        | no => trivial
      | none =>
        obtain ⟨s', e1, st⟩ := q
        have st2 := wipe_st st own
        rw [wiped_eq (hw s1)] at st2
        have ih := comp_run hw hb r s1 _ st2
        cases e2 : M.compL body s1 r with
        | ok q2 =>
          rw [e2] at ih
          obtain ⟨s2, e3, st3⟩ := ih
          refine ⟨s2, ?_, st3⟩
          rw [turnC_s, e1]
          dsimp only
          rw [e3]
          rfl
        | ex c fs => trivial
        | no => trivial
theorem tr_cmp' {own : List Nat} {p c e : T} {ei : τ → D} {vv : β → Vl} {s0 : σ} {xs : List τ} {body : σ → τ → M (Option β × σ)} {k : List β × σ → M α} (Γσ : σ → List SD) (w : Wk (wipeΓ Γ own) (Γσ s0)) (hw : ∀ s, wiped (Γσ s) own = true)
    (hb : ∀ s x, Tr (GC Γσ (fun y => (vv y).dat) vv own) (Γσ s) (body s x) (turnO Φ p c e (ei x))) (hk : ∀ ys s, Tr G (rstΓ Γ (Γσ s) own) (k (ys, s)) (f (.own false (ys.map fun y => (vv y).dat)))) :
    Tr G Γ ((M.comp body s0 xs).bind k) (fun s => cmpO Φ own p c e (xs.map ei) f s) := .mk fun s hs => by
  have q := comp_run (Φ := Φ) hw hb xs s0 _ (w.st (wipe_st hs own))
  show OutOk G ((M.comp body s0 xs).bind k) (cmpO Φ own p c e (xs.map ei) f s)
  unfold M.comp cmpO
  cases e1 : M.compL body s0 xs with
  | no => trivial
  | ex c fs =>
    -- an exception is none here
    exfalso
    clear q
    have : ∀ (xs : List τ) (s0 : σ) c fs, M.compL body s0 xs ≠ .ex c fs := fun xs => by
      induction xs with
      | nil => intro s0 c fs h; cases h
      | cons x r ih =>
        intro s0 c fs h
        have h : ((body s0 x).nox.bind fun p => (M.compL body p.2 r).bind fun q => .ok (match p.1 with | some y => y :: q.1 | none => q.1, q.2)) = .ex c fs := h
        cases eb : body s0 x with
        | ok t =>
          rw [eb] at h
          have h : ((M.compL body t.2 r).bind fun q => M.ok (match t.1 with | some y => y :: q.1 | none => q.1, q.2)) = .ex c fs := h
          cases e2 : M.compL body t.2 r with
          | ok q => rw [e2] at h; cases h
          | ex c' fs' => exact ih _ _ _ e2
          | no => rw [e2] at h; cases h
        | ex c' fs' => rw [eb] at h; cases h
        | no => rw [eb] at h; cases h
    exact this _ _ _ _ e1
  | ok pr =>
    rw [e1] at q
    obtain ⟨s', e2, st⟩ := q
    rw [e2]
    show OutOk G ((if fitsL pr.1.length = true then M.ok pr else .no).bind k) (if fitsL (pr.1.map fun y => (vv y).dat).length = true then _ else _)
    rw [List.length_map]
    by_cases fit : fitsL pr.1.length = true
    · rw [if_pos fit, if_pos fit]
      exact hk pr.1 pr.2 _ (unwipe_st hs st own)
    · rw [if_neg fit]
      trivial
/-- with a state, no test -/
theorem tr_compS {own : List Nat} {p c e : T} {ei : τ → D} {vv : β → Vl} {s0 : σ} {xs : List τ} {body : σ → τ → M (β × σ)} {k : List β × σ → M α} (Γσ : σ → List SD) (w : Wk (wipeΓ Γ own) (Γσ s0)) (hw : ∀ s, wiped (Γσ s) own = true)
    (hb : ∀ s x, Tr (fun q : β × σ => .rt (vv q.1) (Γσ q.2)) (Γσ s) (body s x) (turnO Φ p c e (ei x))) (hk : ∀ ys s, Tr G (rstΓ Γ (Γσ s) own) (k (ys, s)) (f (.own false (ys.map fun y => (vv y).dat)))) :
    Tr G Γ ((M.compS body s0 xs).bind k) (fun s => cmpO Φ own p c e (xs.map ei) f s) := tr_cmp' Γσ w hw (fun s x => Tr.map (hb s x)) hk
theorem tr_mapC {own : List Nat} {p c e : T} {ei : τ → D} {vv : β → Vl} {xs : List τ} {body : τ → M β} {k : List β → M α} (Γ1 : List SD) (w : Wk (wipeΓ Γ own) Γ1) (hw : wiped Γ1 own = true)
    (hb : ∀ x, Tr (fun q : β => .rt (vv q) Γ1) Γ1 (body x) (turnO Φ p c e (ei x))) (hk : ∀ ys, Tr G (rstΓ Γ Γ1 own) (k ys) (f (.own false (ys.map fun y => (vv y).dat)))) :
    Tr G Γ ((M.mapC body xs).bind k) (fun s => cmpO Φ own p c e (xs.map ei) f s) := by
  unfold M.mapC
  rw [M.bind_assoc]
  exact tr_cmp' (fun _ => Γ1) w (fun _ => hw) (fun s x => Tr.map (hb x)) (fun ys s => hk ys)
theorem tr_optC {own : List Nat} {p c e : T} {ei : τ → D} {vv : β → Vl} {xs : List τ} {body : τ → M (Option β)} {k : List β → M α} (Γ1 : List SD) (w : Wk (wipeΓ Γ own) Γ1) (hw : wiped Γ1 own = true)
    (hb : ∀ x, Tr (fun q : Option β => match q with | some y => .rt (vv y) Γ1 | none => .ct Γ1) Γ1 (body x) (turnO Φ p c e (ei x))) (hk : ∀ ys, Tr G (rstΓ Γ Γ1 own) (k ys) (f (.own false (ys.map fun y => (vv y).dat)))) :
    Tr G Γ ((M.optC body xs).bind k) (fun s => cmpO Φ own p c e (xs.map ei) f s) := by
  unfold M.optC
  rw [M.bind_assoc]
  refine tr_cmp' (fun _ => Γ1) w (fun _ => hw) (fun s x => Tr.map ?_) (fun ys s => hk ys)
  refine .mk fun z hz => ?_
  have q := hb x z hz
  cases eb : body x with
  | ok o =>
    rw [eb] at q
    cases o with
    | some y => exact q
    | none => exact q
  | ex c fs => rw [eb] at q; exact q
  | no => trivial
/-- a turn: bind, test, element -/
theorem tr_turnO {p c e : T} {x : D} (k : Tr G Γ m (bnd Φ p x fun s => (oE Φ c s).toO fun b s => brn (tru b.dat) ((oE Φ e s).toO .rt) (.ct s))) : Tr G Γ m (turnO Φ p c e x) := k
/-- no test -/
theorem tr_yes {F : S → O} {H : S → O} (k : Tr G Γ m F) : Tr G Γ m (fun s => (oE Φ (.con (.bl true)) s).toO fun b s => brn (tru b.dat) (F s) (H s)) := tr_eq (fun s => by rw [e_con]; rfl) k
theorem end_ct {a : α} (e : G a = .ct Γ') (w : Wk Γ Γ') : Tr G Γ (.ok a) .ct := .mk fun s hs => by
  show (G a).Ok _
  rw [e]
  exact ⟨s, rfl, w.st hs⟩

/-! ### calls -/
/-- what is said of an argument -/
inductive AD where
  | dat (x : D) | own (xs : List D)
def AD.Ok : AD → Vl → Prop
  | .dat x, u => u.dat = x
  | .own xs, u => ∃ t, u = .own t xs
inductive Args : List AD → List Vl → Prop where
  | nil : Args [] []
  | cons {a : AD} {u : Vl} {r : List AD} {us : List Vl} (h : a.Ok u) (t : Args r us) : Args (a :: r) (u :: us)
/-- what is said of an argument's list behind the call -/
inductive OO where
  | keep | own (ys : List D) | lost
def OO.Ok : OO → Vl → Option Vl → Prop
  | .keep, .own true xs, o => o = some (.own true xs) ∨ o = some (.fz xs)
  | .own ys, .own true _, o => o = some (.own true ys)
  | _, _, _ => True
inductive Outs : List Vl → List (Option Vl) → List OO → Prop where
  | nil : Outs [] [] []
  | cons {u : Vl} {o : Option Vl} {k : OO} {us : List Vl} {os : List (Option Vl)} {ks : List OO} (h : k.Ok u o) (t : Outs us os ks) : Outs (u :: us) (o :: os) (k :: ks)
def SFO (Φ : Call) (k : Nat) {ρ : Type} (m : M ρ) (v : ρ → Vl) (outs : ρ → List OO) (us : List Vl) : Prop := match m with
  | .ok r => ∃ os, Φ k us = .ok (v r, os) [] ∧ Outs us os (outs r)
  | .ex c fs => ∃ os, Φ k us = .ex c fs os
  | .no => True
structure SF (Φ : Call) (k : Nat) (A : List AD) {ρ : Type} (m : M ρ) (v : ρ → Vl) (outs : ρ → List OO) : Prop where
  run : ∀ us, Args A us → SFO Φ k m v outs us
instance {Φ : Call} {k : Nat} {A : List AD} {ρ : Type} {m : M ρ} {v : ρ → Vl} {outs : ρ → List OO} : CoeFun (SF Φ k A m v outs) fun _ => ∀ us, Args A us → SFO Φ k m v outs us := ⟨SF.run⟩
def callO (Φ : Call) (fn : Nat) (ags : List Ag) (f : Vl → S → O) (s : S) : O := match lend ags s with
  | none => .no
  | some (us, _) => match Φ fn us with
    | .ok (v, os) _ => f v (back ags os s)
    | .ex c fs os => .ex c fs (back ags os s)
    | .no => .no
theorem tr_call {fn : Nat} {ts : T} (k : Tr G Γ m (fun s => (oA Φ ts s).toO fun ags s => callO Φ fn ags f s)) : Tr G Γ m (fun s => (oE Φ (.call fn ts) s).toO f) :=
  tr_eq (fun s => by
    rw [e_call, toO_bind]
    congr 1
    funext ags s
    unfold callO
    cases lend ags s with
    | none => rfl
    | some pr =>
      dsimp only
      cases Φ fn pr.1 <;> rfl) k
theorem ta_nil {f : List Ag → S → O} (k : Tr G Γ m (f [])) : Tr G Γ m (fun s => (oA Φ .nil s).toO f) := tr_eq (fun s => by rw [a_nil']; rfl) k
theorem ta_e {a r : T} {f : List Ag → S → O} (n : isVar a = false) (k : Tr G Γ m (fun s => (oE Φ a s).toO fun x s => (oA Φ r s).toO fun ags s => f (.val x :: ags) s)) : Tr G Γ m (fun s => (oA Φ (.cons a r) s).toO f) :=
  tr_eq (fun s => by simp only [a_cons' _ _ n, toO_bind]; rfl) k
theorem ta_var {i : Nat} {r : T} {d : SD} {x : D} {f : List Ag → S → O} (e : Γ[i]? = some d) (h : d.Has x) (nl : notL x = true) (k : Tr G Γ m (fun s => (oA Φ r s).toO fun ags s => f (.val (.d x) :: ags) s)) : Tr G Γ m (fun s => (oA Φ (.cons (.var i) r) s).toO f) := .mk fun s hs => by
  have q := k s hs
  obtain ⟨o, es, ok⟩ := hs.get e
  obtain ⟨v, rfl, hv⟩ := h.peek ok
  cases v with
  | d y =>
    cases hv
    show OutOk G m ((oA Φ (.cons (.var i) r) s).toO f)
    rw [a_consV, es]
    dsimp only
    rw [rdV_s, es]
    dsimp only
    rw [bind_ok', toO_bind]
    exact q
  | own t y => rw [← hv] at nl; cases nl
  | fz y => rw [← hv] at nl; cases nl
/-- a list read only: it may be lent -/
def AgL (i : Nat) (xs : List D) (ag : Ag) : Prop := ag = .val (.d (.lst xs)) ∨ ag = .ref i
theorem ta_varL {i : Nat} {r : T} {d : SD} {xs : List D} {f : List Ag → S → O} (e : Γ[i]? = some d) (h : d.Has (.lst xs)) (k : ∀ ag, AgL i xs ag → Tr G Γ m (fun s => (oA Φ r s).toO fun ags s => f (ag :: ags) s)) : Tr G Γ m (fun s => (oA Φ (.cons (.var i) r) s).toO f) := .mk fun s hs => by
  obtain ⟨o, es, ok⟩ := hs.get e
  obtain ⟨v, rfl, hv⟩ := h.peek ok
  show OutOk G m ((oA Φ (.cons (.var i) r) s).toO f)
  rw [a_consV, es]
  cases v with
  | d y =>
    cases hv
    dsimp only
    rw [rdV_s, es]
    dsimp only
    rw [bind_ok', toO_bind]
    exact k _ (.inl rfl) s hs
  | own t y =>
    cases hv
    dsimp only
    rw [toO_bind]
    exact k _ (.inr rfl) s hs
  | fz y =>
    cases hv
    dsimp only
    rw [rdV_s, es]
    dsimp only
    rw [bind_ok', toO_bind]
    exact k _ (.inl rfl) s hs
theorem ta_own {i : Nat} {r : T} {t : Bool} {xs : List D} {f : List Ag → S → O} (e : Γ[i]? = some (.own t xs)) (k : Tr G Γ m (fun s => (oA Φ r s).toO fun ags s => f (.ref i :: ags) s)) : Tr G Γ m (fun s => (oA Φ (.cons (.var i) r) s).toO f) := .mk fun s hs => by
  obtain ⟨o, es, ok⟩ := hs.get e
  cases ok
  show OutOk G m ((oA Φ (.cons (.var i) r) s).toO f)
  rw [a_consV, es]
  dsimp only
  rw [toO_bind]
  exact k s hs
def isOwn : SD → Bool
  | .own _ _ => true
  | _ => false
/-- how an argument stands to what is said of it -/
inductive AgR (Γ : List SD) : Option Nat → Ag → AD → Prop where
  | val (v : Vl) : AgR Γ none (.val v) (.dat v.dat)
  | new (t : Bool) (xs : List D) : AgR Γ none (.val (.own t xs)) (.own xs)
  | list {i : Nat} {d : SD} {xs : List D} {ag : Ag} (a : AgL i xs ag) (e : Γ[i]? = some d) (h : d.Has (.lst xs)) (n : isOwn d = false) : AgR Γ (some i) ag (.dat (.lst xs))
  | lentD {i : Nat} {t : Bool} {xs : List D} (e : Γ[i]? = some (.own t xs)) : AgR Γ (some i) (.ref i) (.dat (.lst xs))
  | lent {i : Nat} {t : Bool} {xs : List D} (e : Γ[i]? = some (.own t xs)) : AgR Γ (some i) (.ref i) (.own xs)
inductive AgRs (Γ : List SD) : List (Option Nat) → List Ag → List AD → Prop where
  | nil : AgRs Γ [] [] []
  | cons {i : Option Nat} {g : Ag} {a : AD} {is : List (Option Nat)} {gs : List Ag} {as : List AD} (h : AgR Γ i g a) (t : AgRs Γ is gs as) : AgRs Γ (i :: is) (g :: gs) (a :: as)
def updΓ (Γ : List SD) (i : Nat) (k : OO) : List SD := match Γ[i]?, k with
  | some (.own _ xs), .keep => Γ.set i (.dat (.lst xs))
  | some (.own t _), .own ys => Γ.set i (.own t ys)
  | some _, .keep => Γ
  | _, _ => Γ.set i .any
def callΓ (Γ : List SD) : List (Option Nat) → List OO → List SD
  | some i :: is, k :: ks => callΓ (updΓ Γ i k) is ks
  | none :: is, _ :: ks => callΓ Γ is ks
  | _, _ => Γ
def fresh1 (i : Nat) : List (Option Nat) → Bool
  | [] => true
  | some j :: r => Nat.beq i j == false && fresh1 i r
  | none :: r => fresh1 i r
def apart1 : List (Option Nat) → Bool
  | [] => true
  | some i :: r => fresh1 i r && apart1 r
  | none :: r => apart1 r
/-- a slot's list, lent or read -/
theorem list_at {s : S} {i : Nat} {d : SD} {xs : List D} (hs : St Γ s) (e : Γ[i]? = some d) (h : d.Has (.lst xs)) : s[i]? = some (some (.own true xs)) ∨ s[i]? = some (some (.own false xs)) ∨ s[i]? = some (some (.fz xs)) ∨ s[i]? = some (some (.d (.lst xs))) := by
  obtain ⟨o, es, ok⟩ := hs.get e
  obtain ⟨v, rfl, hv⟩ := h.peek ok
  cases v with
  | d y => cases hv; exact .inr (.inr (.inr es))
  | fz y => cases hv; exact .inr (.inr (.inl es))
  | own t y => cases hv; cases t; exact .inr (.inl es); exact .inl es
/-- the slot, as a call's argument takes it -/
def lentV : Vl → Vl
  | .own _ xs => .own true xs
  | .fz xs => .d (.lst xs)
  | v => v
/-- where an argument stands -/
def At (Γ : List SD) (s : S) (i : Option Nat) (g : Ag) (u : Vl) : Prop := match g with
  | .val v => u = v ∧ ∀ j, i = some j → ∃ d, Γ[j]? = some d ∧ isOwn d = false
  | .ref j => i = some j ∧ ∃ v d xs, s[j]? = some (some v) ∧ u = lentV v ∧ Γ[j]? = some d ∧ d.Has (.lst xs)
inductive Ats (Γ : List SD) (s : S) : List (Option Nat) → List Ag → List Vl → Prop where
  | nil : Ats Γ s [] [] []
  | cons {i : Option Nat} {g : Ag} {u : Vl} {is : List (Option Nat)} {gs : List Ag} {us : List Vl} (h : At Γ s i g u) (t : Ats Γ s is gs us) : Ats Γ s (i :: is) (g :: gs) (u :: us)
theorem fresh1_mem {i j : Nat} : ∀ {l : List (Option Nat)}, fresh1 i l = true → some j ∈ l → i ≠ j
  | some k :: r, h, q => by
    unfold fresh1 at h
    rw [Bool.and_eq_true] at h
    rcases List.mem_cons.mp q with q | q
    · cases q
      intro e
      subst e
      have : Nat.beq i i = true := Nat.beq_refl i
      rw [this] at h
      cases h.1
    · exact fresh1_mem h.2 q
  | none :: r, h, q => by
    rcases List.mem_cons.mp q with q | q
    · cases q
    · exact fresh1_mem (l := r) h q
theorem Ats.set {s s' : S} {i : Nat} {is : List (Option Nat)} {gs : List Ag} {us : List Vl} (h : Ats Γ s is gs us) (f : fresh1 i is = true) (es : ∀ j, i ≠ j → s'[j]? = s[j]?) (eΓ : ∀ j, i ≠ j → Γ'[j]? = Γ[j]?) : Ats Γ' s' is gs us := by
  induction h with
  | nil => exact .nil
  | @cons k g u is gs us h t ih =>
    have hf : fresh1 i is = true := by
      cases k with
      | none => exact f
      | some j => unfold fresh1 at f; rw [Bool.and_eq_true] at f; exact f.2
    refine .cons ?_ (ih hf)
    cases g with
    | val v =>
      refine ⟨h.1, fun j e => ?_⟩
      subst e
      obtain ⟨d, e1, e2⟩ := h.2 j rfl
      exact ⟨d, by rw [eΓ j (fresh1_mem f List.mem_cons_self)]; exact e1, e2⟩
    | ref j =>
      obtain ⟨rfl, v, d, xs, e, e2, e3, e4⟩ := h
      have n := fresh1_mem f List.mem_cons_self
      exact ⟨rfl, v, d, xs, by rw [es j n]; exact e, e2, by rw [eΓ j n]; exact e3, e4⟩
theorem ap_tail {i : Option Nat} {is : List (Option Nat)} (ap : apart1 (i :: is) = true) : apart1 is = true := by
  cases i with
  | none => exact ap
  | some j => unfold apart1 at ap; rw [Bool.and_eq_true] at ap; exact ap.2
theorem lend_ok : ∀ {s : S} {is : List (Option Nat)} {gs : List Ag} {us : List Vl} {Γ : List SD}, Ats Γ s is gs us → apart1 is = true → ∃ s1, lend gs s = some (us, s1)
  | s, _, _, _, _, .nil, _ => ⟨s, rfl⟩
  | s, _, _, _, Γ, .cons (i := i) (g := g) (u := u) (is := is) (gs := gs) (us := us) h t, ap => by
    have ap2 := ap_tail ap
    cases g with
    | val v =>
      obtain ⟨s1, e⟩ := lend_ok t ap2
      have h : u = v := h.1
      subst h
      exact ⟨s1, by show (lend gs s).map _ = _; rw [e]; rfl⟩
    | ref j =>
      obtain ⟨rfl, v, d, xs0, e, rfl, e3, e4⟩ := h
      unfold apart1 at ap
      rw [Bool.and_eq_true] at ap
      have un : lend (.ref j :: gs) s = (match s[j]? with
          | some (some (.own _ xs)) => (lend gs (s.set j none)).map fun (p : List Vl × S) => (Vl.own true xs :: p.1, p.2)
          | some (some (.fz xs)) => (lend gs s).map fun (p : List Vl × S) => (Vl.d (.lst xs) :: p.1, p.2)
          | some (some (.d x)) => (lend gs s).map fun (p : List Vl × S) => (Vl.d x :: p.1, p.2)
          | _ => none) := rfl
      rw [un, e]
      cases v with
      | own tg xs =>
        obtain ⟨s1, e2⟩ := lend_ok (t.set (s' := s.set j none) (Γ' := Γ) ap.1 (fun l n => List.getElem?_set_ne n) fun _ _ => rfl) ap.2
        dsimp only
        rw [e2]
        exact ⟨s1, rfl⟩
      | fz xs =>
        obtain ⟨s1, e2⟩ := lend_ok t ap.2
        dsimp only
        rw [e2]
        exact ⟨s1, rfl⟩
      | d x =>
        obtain ⟨s1, e2⟩ := lend_ok t ap.2
        dsimp only
        rw [e2]
        exact ⟨s1, rfl⟩
theorem updΓ_ne {i j : Nat} {k : OO} (n : i ≠ j) : (updΓ Γ i k)[j]? = Γ[j]? := by
  unfold updΓ
  split <;> first | rfl | exact List.getElem?_set_ne n
theorem st_drop {s : S} {d' : SD} {j : Nat} (hs : St Γ s) (h : ∀ o, s[j]? = some o → d'.Ok o) : St (Γ.set j d') s := by
  cases e : s[j]? with
  | none =>
    have e1 : s.length ≤ j := List.getElem?_eq_none_iff.mp e
    have e2 : Γ.set j d' = Γ := List.ext_getElem? fun l => by
      by_cases hjl : j = l
      · subst hjl
        rw [List.getElem?_eq_none (by rw [List.length_set, ← hs.len]; exact e1), List.getElem?_eq_none (by rw [← hs.len]; exact e1)]
      · rw [List.getElem?_set_ne hjl]
    rw [e2]
    exact hs
  | some o =>
    have := hs.set j (d := d') (o := o) (h o e)
    rwa [show s.set j o = s from List.ext_getElem? fun l => by
      by_cases hjl : j = l
      · subst hjl
        rw [List.getElem?_set_self (List.getElem?_eq_some_iff.mp e).1, e]
      · rw [List.getElem?_set_ne hjl]] at this
theorem upd_same' {s : S} {j : Nat} {k : OO} {d : SD} (hs : St Γ s) (e : Γ[j]? = some d) (n : isOwn d = false) : St (updΓ Γ j k) s := by
  have any : St (Γ.set j .any) s := st_drop hs fun _ _ => trivial
  unfold updΓ
  rw [e]
  cases d with
  | own t xs => cases n
  | any => cases k <;> first | exact hs | exact any
  | dat x => cases k <;> first | exact hs | exact any
  | prm x => cases k <;> first | exact hs | exact any
theorem upd_back {s : S} {j : Nat} {k : OO} {d : SD} {tg : Bool} {xs xs0 : List D} {o : Option Vl} (hs : St Γ s) (e : Γ[j]? = some d) (h : d.Has (.lst xs0)) (es : s[j]? = some (some (.own tg xs))) (ho : k.Ok (.own true xs) o) : St (updΓ Γ j k) (s.set j (back1 o tg)) := by
  have any : ∀ o', St (Γ.set j .any) (s.set j o') := fun o' => hs.set j trivial
  obtain ⟨o2, es2, ok⟩ := hs.get e
  rw [es] at es2
  cases es2
  unfold updΓ
  rw [e]
  cases k with
  | lost => cases d <;> exact any _
  | own ys =>
    have ho : o = some (.own true ys) := ho
    subst ho
    cases d with
    | own t zs =>
      have ok : some (Vl.own tg xs) = some (.own t zs) := ok
      cases ok
      exact hs.set j (d := .own tg ys) rfl
    | _ => exact any _
  | keep =>
    have ho : o = some (.own true xs) ∨ o = some (.fz xs) := ho
    have dt : ∃ v, back1 o tg = some v ∧ v.dat = .lst xs ∧ (v = .own tg xs ∨ v = frz (.own tg xs)) := by
      rcases ho with rfl | rfl
      · exact ⟨_, rfl, rfl, .inl rfl⟩
      · cases tg
        · exact ⟨_, rfl, rfl, .inr rfl⟩
        · exact ⟨_, rfl, rfl, .inr rfl⟩
    obtain ⟨v, e1, e2, e3⟩ := dt
    rw [e1]
    cases d with
    | any => exact h.elim
    | own t zs =>
      have ok : some (Vl.own tg xs) = some (.own t zs) := ok
      cases ok
      exact hs.set j (d := .dat (.lst xs)) ⟨v, rfl, e2⟩
    | dat x =>
      obtain ⟨u, q1, q2⟩ := ok
      cases q1
      exact hs.setSame e ⟨v, rfl, by rw [e2]; exact q2⟩
    | prm w =>
      have hw : w = .own tg xs := by
        rcases ok with q | q
        · cases q; rfl
        · have q := Option.some.inj q
          cases w with
          | d y => cases q
          | fz y => cases q
          | own t y => cases t <;> cases q
      subst hw
      refine hs.setSame e ?_
      rcases e3 with rfl | rfl
      · exact .inl rfl
      · exact .inr rfl
theorem back_st : ∀ {s : S} {is : List (Option Nat)} {gs : List Ag} {us : List Vl} {os : List (Option Vl)} {ks : List OO} {Γ : List SD}, Ats Γ s is gs us → apart1 is = true → Outs us os ks → St Γ s → St (callΓ Γ is ks) (back gs os s)
  | s, _, _, _, _, _, Γ, .nil, _, .nil, hs => hs
  | s, _, _, _, _, _, Γ, .cons (i := i) (g := g) (u := u) (is := is) (gs := gs) (us := us) h t, ap, .cons (o := o) (k := k) (os := os) (ks := ks) ho to, hs => by
    have ap2 := ap_tail ap
    cases g with
    | val v =>
      cases i with
      | none =>
        show St (callΓ Γ is ks) (back gs os s)
        exact back_st t ap2 to hs
      | some j =>
        unfold apart1 at ap
        rw [Bool.and_eq_true] at ap
        obtain ⟨d, e1, e2⟩ := h.2 j rfl
        show St (callΓ (updΓ Γ j k) is ks) (back gs os s)
        exact back_st (t.set ap.1 (fun _ _ => rfl) fun l n => updΓ_ne n) ap2 to (upd_same' hs e1 e2)
    | ref j =>
      obtain ⟨rfl, v, d, xs0, e, rfl, e3, e4⟩ := h
      unfold apart1 at ap
      rw [Bool.and_eq_true] at ap
      show St (callΓ (updΓ Γ j k) is ks) (back gs os (match s[j]? with
        | some (some (.own tag _)) => s.set j (back1 o tag)
        | _ => s))
      rw [e]
      cases v with
      | own tg xs =>
        exact back_st (t.set ap.1 (fun l n => List.getElem?_set_ne n) fun l n => updΓ_ne n) ap2 to (upd_back hs e3 e4 e ho)
      | fz xs =>
        have n : isOwn d = false := by
          cases d with
          | own t ys =>
            obtain ⟨o2, q1, q2⟩ := hs.get e3
            rw [e] at q1
            cases q1
            cases q2
          | _ => rfl
        exact back_st (t.set ap.1 (fun _ _ => rfl) fun l n => updΓ_ne n) ap2 to (upd_same' hs e3 n)
      | d x =>
        have n : isOwn d = false := by
          cases d with
          | own t ys =>
            obtain ⟨o2, q1, q2⟩ := hs.get e3
            rw [e] at q1
            cases q1
            cases q2
          | _ => rfl
        exact back_st (t.set ap.1 (fun _ _ => rfl) fun l n => updΓ_ne n) ap2 to (upd_same' hs e3 n)
theorem agrs_at {s : S} (hs : St Γ s) : ∀ {is : List (Option Nat)} {gs : List Ag} {as : List AD}, AgRs Γ is gs as → ∃ us, Ats Γ s is gs us ∧ Args as us
  | _, _, _, .nil => ⟨[], .nil, .nil⟩
  | _, _, _, .cons (i := i) (g := g) (a := a) h t => by
    obtain ⟨us, h1, h2⟩ := agrs_at hs t
    cases h with
    | val v => exact ⟨v :: us, .cons ⟨rfl, fun j e => nomatch e⟩ h1, .cons rfl h2⟩
    | new tg xs => exact ⟨.own tg xs :: us, .cons ⟨rfl, fun j e => nomatch e⟩ h1, .cons ⟨tg, rfl⟩ h2⟩
    | @list i d xs ag ag' e h n =>
      rcases ag' with rfl | rfl
      · exact ⟨.d (.lst xs) :: us, .cons ⟨rfl, fun j q => by cases q; exact ⟨d, e, n⟩⟩ h1, .cons rfl h2⟩
      · obtain ⟨o, es, ok⟩ := hs.get e
        obtain ⟨v, rfl, hv⟩ := h.peek ok
        refine ⟨lentV v :: us, .cons ⟨rfl, v, d, xs, es, rfl, e, h⟩ h1, .cons ?_ h2⟩
        show (lentV v).dat = .lst xs
        rw [← hv]
        cases v <;> rfl
    | @lentD i tg xs e =>
      obtain ⟨o, es, ok⟩ := hs.get e
      cases ok
      exact ⟨.own true xs :: us, .cons ⟨rfl, _, _, xs, es, rfl, e, rfl⟩ h1, .cons rfl h2⟩
    | @lent i tg xs e =>
      obtain ⟨o, es, ok⟩ := hs.get e
      cases ok
      exact ⟨.own true xs :: us, .cons ⟨rfl, _, _, xs, es, rfl, e, rfl⟩ h1, .cons ⟨true, rfl⟩ h2⟩
/-- the call itself -/
theorem tr_callf {fn : Nat} {A : List AD} {mf : M ρ} {v : ρ → Vl} {outs : ρ → List OO} {is : List (Option Nat)} {ags : List Ag} {k : ρ → M α} (hf : SF Φ fn A mf v outs) (ha : AgRs Γ is ags A) (ap : apart1 is = true) (hk : ∀ r, Tr G (callΓ Γ is (outs r)) (k r) (f (v r))) :
    Tr G Γ (mf.bind k) (callO Φ fn ags f) := .mk fun s hs => by
  obtain ⟨us, h1, h2⟩ := agrs_at hs ha
  obtain ⟨s1, e1⟩ := lend_ok h1 ap
  have q := hf us h2
  unfold callO
  rw [e1]
  dsimp only
  cases mf with
  | no => trivial
  | ex c fs =>
    obtain ⟨os, e2⟩ := q
    rw [e2]
    exact ⟨_, rfl⟩
  | ok r =>
    obtain ⟨os, e2, ho⟩ := q
    rw [e2]
    exact hk r _ (back_st h1 ap ho hs)
/-- a call by keywords: data alone -/
def callkO (Φ : Call) (fn : Nat) (perm : List Nat) (zs : List D) (f : Vl → S → O) (s : S) : O := match Φ fn ((pick perm zs).map .d) with
    | .ok (v, _) _ => f v s
    | .ex c fs _ => .ex c fs s
    | .no => .no
theorem tr_callk {fn : Nat} {perm : List Nat} {ts tk : T} (k : Tr G Γ m (fun s => (oL Φ ts s).toO fun xs s => (oL Φ tk s).toO fun ys s => callkO Φ fn perm (xs ++ ys) f s)) : Tr G Γ m (fun s => (oE Φ (.callk fn perm ts tk) s).toO f) :=
  tr_eq (fun s => by
    rw [e_callk, toO_bind]
    congr 1
    funext xs s
    rw [toO_bind]
    congr 1
    funext ys s
    unfold callkO
    cases Φ fn ((pick perm (xs ++ ys)).map .d) <;> rfl) k
theorem args_dat : ∀ xs : List D, Args (xs.map .dat) (xs.map .d)
  | [] => .nil
  | _ :: r => .cons rfl (args_dat r)
theorem tr_callkf {fn : Nat} {perm : List Nat} {zs xs : List D} {mf : M ρ} {v : ρ → Vl} {outs : ρ → List OO} {k : ρ → M α} (hf : SF Φ fn (xs.map .dat) mf v outs) (e : pick perm zs = xs) (hk : ∀ r, Tr G Γ (k r) (f (v r))) : Tr G Γ (mf.bind k) (callkO Φ fn perm zs f) := .mk fun s hs => by
  have q := hf _ (args_dat xs)
  unfold callkO
  rw [e]
  cases mf with
  | no => trivial
  | ex c fs =>
    obtain ⟨os, e2⟩ := q
    rw [e2]
    exact ⟨_, rfl⟩
  | ok r =>
    obtain ⟨os, e2, ho⟩ := q
    rw [e2]
    exact hk r s hs

/-! ### defs -/
/-- what is left of the parameters -/
inductive Ofs : List Vl → List SD → List OO → Prop where
  | nil {l : List SD} : Ofs [] l []
  | keep {u : Vl} {us : List Vl} {ds : List SD} {ks : List OO} (t : Ofs us ds ks) : Ofs (u :: us) (.prm u :: ds) (.keep :: ks)
  | own {tg : Bool} {xs ys : List D} {us : List Vl} {ds : List SD} {ks : List OO} (t : Ofs us ds ks) : Ofs (.own tg xs :: us) (.own tg ys :: ds) (.own ys :: ks)
  | flat {u : Vl} {x : D} {d : SD} {us : List Vl} {ds : List SD} {ks : List OO} (e : u.dat = x) (n : notL x = true) (t : Ofs us ds ks) : Ofs (u :: us) (d :: ds) (.keep :: ks)
  | lost {u : Vl} {d : SD} {us : List Vl} {ds : List SD} {ks : List OO} (t : Ofs us ds ks) : Ofs (u :: us) (d :: ds) (.lost :: ks)
theorem st_tail {d : SD} {o : Option Vl} {s : S} (h : St (d :: Γ) (o :: s)) : d.Ok o ∧ St Γ s := by
  refine ⟨?_, ⟨by simpa using h.len, fun i d' e => ?_⟩⟩
  · obtain ⟨o', e, k⟩ := h.ok 0 d rfl
    cases e
    exact k
  · exact h.ok (i + 1) d' (by simpa using e)
theorem ofs_outs : ∀ {us : List Vl} {Γ : List SD} {ks : List OO} {s : S}, Ofs us Γ ks → St Γ s → Outs us (outs us s) ks
  | _, _, _, s, .nil, _ => by rw [outs_nil]; exact .nil
  | _, _, _, s, .keep (u := u) (us := us) (ds := ds) t, hs => by
    cases s with
    | nil => have := hs.len; simp at this
    | cons o s =>
      obtain ⟨h1, h2⟩ := st_tail hs
      rw [outs_cons]
      refine .cons ?_ (ofs_outs t h2)
      cases u with
      | d x => trivial
      | fz x => trivial
      | own tg xs => cases tg with
        | false => trivial
        | true =>
          rcases h1 with rfl | rfl
          · exact .inl rfl
          · exact .inr rfl
  | _, _, _, s, .own (tg := tg) (xs := xs) (ys := ys) t, hs => by
    cases s with
    | nil => have := hs.len; simp at this
    | cons o s =>
      obtain ⟨h1, h2⟩ := st_tail hs
      rw [outs_cons]
      refine .cons ?_ (ofs_outs t h2)
      cases h1
      cases tg with
      | false => trivial
      | true => rfl
  | _, _, _, s, .flat (u := u) e n t, hs => by
    cases s with
    | nil => have := hs.len; simp at this
    | cons o s =>
      obtain ⟨h1, h2⟩ := st_tail hs
      rw [outs_cons]
      refine .cons ?_ (ofs_outs t h2)
      cases u with
      | d x => trivial
      | fz x => trivial
      | own tg xs => rw [← e] at n; cases n
  | _, _, _, s, .lost (u := u) t, hs => by
    cases s with
    | nil => have := hs.len; simp at this
    | cons o s =>
      obtain ⟨h1, h2⟩ := st_tail hs
      rw [outs_cons]
      refine .cons ?_ (ofs_outs t h2)
      cases u with
      | d x => trivial
      | fz x => trivial
      | own tg xs => cases tg <;> trivial
theorem args_len {A : List AD} {us : List Vl} (h : Args A us) : us.length = A.length := by
  induction h with
  | nil => rfl
  | cons _ _ ih => simp [ih]
/-- the slots at the start -/
def Γ0 (n : Nat) (us : List Vl) : List SD := us.map SD.prm ++ List.replicate (n - us.length) .any
theorem start_st (n : Nat) : ∀ us : List Vl, St (Γ0 n us) (startS n us) := fun us => by
  refine ⟨by simp [Γ0, startS], fun i d e => ?_⟩
  unfold Γ0 at e
  unfold startS
  by_cases hi : i < us.length
  · rw [List.getElem?_append_left (by simpa using hi), List.getElem?_map, List.getElem?_eq_getElem hi] at e
    cases e
    exact ⟨some us[i], by rw [List.getElem?_append_left (by simpa using hi), List.getElem?_map, List.getElem?_eq_getElem hi]; rfl, .inl rfl⟩
  · rw [List.getElem?_append_right (by simpa using hi), List.getElem?_replicate] at e
    split at e
    · rename_i h
      cases e
      exact ⟨none, by rw [List.getElem?_append_right (by simpa using hi), List.getElem?_replicate, if_pos (by simpa using h)], trivial⟩
    · cases e
theorem sf_of {fns : List Fn} {d k np n : Nat} {body : T} {A : List AD} {m : M ρ} {v : ρ → Vl} {outs : ρ → List OO} (hf : fns[k]? = some ⟨np, n, body⟩) (hA : A.length = np) (h : ∀ us, Args A us → ∃ (Γe : ρ → List SD) (Γs : List SD), St Γs (startS n us) ∧ Tr (fun r => .fin (v r) (Γe r)) Γs m (oX (oRun fns d) body) ∧ ∀ r, Ofs us (Γe r) (outs r)) : SF (oRun fns (d + 1)) k A m v outs := .mk fun us hus => by
  obtain ⟨Γe, Γs, h0, h1, h2⟩ := h us hus
  have q := h1 _ h0
  unfold SFO
  rw [run_at hf ((args_len hus).trans hA)]
  cases m with
  | no => trivial
  | ex c fs =>
    obtain ⟨s, e⟩ := q
    exact ⟨_, by dsimp only; rw [e]⟩
  | ok r =>
    obtain ⟨s, st, e⟩ := q
    rcases e with e | ⟨e, ev⟩
    · exact ⟨_, by dsimp only; rw [e], ofs_outs (h2 r) st⟩
    · exact ⟨_, by dsimp only; rw [e, ev], ofs_outs (h2 r) st⟩
theorem SF.of_eq {k : Nat} {A : List AD} {m m' : M ρ} {v : ρ → Vl} {outs : ρ → List OO} (h : SF Φ k A m v outs) (e : m = m') : SF Φ k A m' v outs := e ▸ h
/-! values side by side: a, b = x, y -/
def puts (is : List Nat) (κ : S → O) (vs : List Vl) (s : S) : O := if is.length = vs.length && is.all (fun i => decide (i < s.length)) then κ (setAll is (vs.map Vl.fresh) s) else .no
theorem tr_par {is : List Nat} {es : T} (k : Tr G Γ m (fun s => (oV Φ es s).toO (puts is κ))) : Tr G Γ m (fun s => sq κ (oX Φ (.par is es) s)) :=
  tr_eq (fun s => by
    rw [x_par]
    cases oV Φ es s with
    | ok vs s1 =>
      show sq κ (if _ then _ else _) = if _ then _ else _
      split <;> rfl
    | ex c fs s1 => rfl
    | no => rfl) k
theorem tv_nil {f : List Vl → S → O} (k : Tr G Γ m (f [])) : Tr G Γ m (fun s => (oV Φ .nil s).toO f) := tr_eq (fun s => by rw [v_nil']; rfl) k
theorem tv_cons {a r : T} {f : List Vl → S → O} (k : Tr G Γ m (fun s => (oE Φ a s).toO fun x s => (oV Φ r s).toO fun xs s => f (x :: xs) s)) : Tr G Γ m (fun s => (oV Φ (.cons a r) s).toO f) :=
  tr_eq (fun s => by simp only [v_cons', toO_bind]; rfl) k
def putsΓ : List Nat → List Vl → List SD → List SD
  | i :: is, .own _ xs :: vs, Γ => putsΓ is vs (Γ.set i (.own false xs))
  | i :: is, v :: vs, Γ => putsΓ is vs (Γ.set i (.dat v.dat))
  | _, _, Γ => Γ
theorem puts_st : ∀ {is : List Nat} {vs : List Vl} {Γ : List SD} {s : S}, St Γ s → St (putsΓ is vs Γ) (setAll is (vs.map Vl.fresh) s)
  | [], vs, Γ, s, h => by cases vs <;> exact h
  | i :: is, [], Γ, s, h => h
  | i :: is, v :: vs, Γ, s, h => by
    cases v with
    | own t xs => exact puts_st (is := is) (vs := vs) (h.set i (d := .own false xs) (o := some (Vl.own t xs).fresh) rfl)
    | d x => exact puts_st (is := is) (vs := vs) (h.set i (d := .dat x) (o := some (Vl.d x).fresh) ⟨_, rfl, rfl⟩)
    | fz x => exact puts_st (is := is) (vs := vs) (h.set i (d := .dat (.lst x)) (o := some (Vl.fz x).fresh) ⟨_, rfl, rfl⟩)
theorem tr_puts {is : List Nat} {vs : List Vl} (h : (is.length == vs.length && is.all fun i => Nat.blt i Γ.length) = true) (k : Tr G (putsΓ is vs Γ) m κ) : Tr G Γ m (puts is κ vs) := .mk fun s hs => by
  have c : (decide (is.length = vs.length) && is.all fun i => decide (i < s.length)) = true := by
    rw [Bool.and_eq_true] at h ⊢
    refine ⟨by simpa using h.1, ?_⟩
    have h2 := List.all_eq_true.mp h.2
    rw [List.all_eq_true]
    intro i hi
    have := h2 i hi
    rw [hs.len]
    exact decide_eq_true (Nat.le_of_ble_eq_true this)
  show OutOk G m (if _ then _ else _)
  rw [if_pos c]
  exact k _ (puts_st hs)
end
end MK

set_option Elab.async false
set_option linter.all false
set_option maxRecDepth 100000
set_option maxHeartbeats 4000000
/-! Helpers for printed proofs: equality of typed data, tests of kinds, starts. -/
namespace MK
open MI PySem
section
variable {α β γ δ ε ρ τ : Type} {Φ : Call} {Γ Γ' : List SD} {G : α → OD} {m : M α} {f : Vl → S → O} {κ : S → O}
/-! ### equality -/
structure EqP (e : α → D) (n : Nat) : Prop where
  ex : ∃ py : α → PyData, (∀ x, toPy (e x) = some (py x)) ∧ (∀ x, PyData.canLay0 (py x) = true) ∧ (∀ x, PyData.depth (py x) ≤ n) ∧ (∀ x y, PyData.eqv (py x) (py y) = true ↔ x = y)
theorem eqD_gen {a b : D} {p q : PyData} (ha : toPy a = some p) (hb : toPy b = some q) (sa : SeqAt.shaped p = true) (sb : SeqAt.shaped q = true) : eqD a b = some (PyData.eqv p q) ∨ (∃ i j : Int, a = .int i ∧ b = .int j) ∨ (∃ i j : Str, a = .str i ∧ b = .str j) := by
  have gen : (match toPy a, toPy b with
    | some d, some e => if SeqAt.shaped d && SeqAt.shaped e then some (PyData.eqv d e) else none
    | _, _ => none) = some (PyData.eqv p q) := by
    rw [ha, hb]
    dsimp only
    rw [sa, sb]
    rfl
  cases a with
  | int i => cases b with
    | int j => exact .inr (.inl ⟨i, j, rfl, rfl⟩)
    | _ => exact .inl gen
  | str i => cases b with
    | str j => exact .inr (.inr ⟨i, j, rfl, rfl⟩)
    | _ => exact .inl gen
  | _ => exact .inl gen
theorem EqP.eqD [DecidableEq α] {e : α → D} {n : Nat} (h : EqP e n) (hn : Nat.ble n 64 = true) (x y : α) : MI.eqD (e x) (e y) = some (decide (x = y)) := by
  obtain ⟨py, h1, h2, h3, h4⟩ := h.ex
  have hn := Nat.le_of_ble_eq_true hn
  have sh : ∀ x, SeqAt.shaped (py x) = true := fun x => by
    show (PyData.canLay0 (py x) && decide (PyData.depth (py x) ≤ 64)) = true
    rw [h2, Bool.true_and]
    exact decide_eq_true (Nat.le_trans (h3 x) hn)
  have key : PyData.eqv (py x) (py y) = decide (x = y) := by
    by_cases hxy : x = y
    · rw [decide_eq_true hxy]; exact (h4 x y).mpr hxy
    · rw [decide_eq_false hxy]
      cases q : PyData.eqv (py x) (py y) with
      | false => rfl
      | true => exact absurd ((h4 x y).mp q) hxy
  rcases eqD_gen (h1 x) (h1 y) (sh x) (sh y) with q | ⟨i, j, e1, e2⟩ | ⟨i, j, e1, e2⟩
  · rw [q, key]
  · have p1 := h1 x
    have p2 := h1 y
    rw [e1] at p1
    rw [e2] at p2
    have p1 : some (PyData.int i) = some (py x) := p1
    have p2 : some (PyData.int j) = some (py y) := p2
    rw [e1, e2]
    show some (decide (i = j)) = _
    rw [← key, ← Option.some.inj p1, ← Option.some.inj p2]
    show _ = some (i == j)
    by_cases hij : i = j
    · subst hij; simp
    · simp [hij]
  · have p1 := h1 x
    have p2 := h1 y
    rw [e1] at p1
    rw [e2] at p2
    have p1 : some (PyData.str i) = some (py x) := p1
    have p2 : some (PyData.str j) = some (py y) := p2
    rw [e1, e2]
    show some (decide (i = j)) = _
    rw [← key, ← Option.some.inj p1, ← Option.some.inj p2]
    show _ = some (i == j)
    by_cases hij : i = j
    · subst hij; simp
    · simp [hij]
theorem EqP.cmpEq [DecidableEq α] {e : α → D} {n : Nat} (h : EqP e n) (hn : Nat.ble n 64 = true) (x y : α) : cmp .Eq (e x) (e y) = some (decide (x = y)) := h.eqD hn x y
theorem EqP.cmpNe [DecidableEq α] {e : α → D} {n : Nat} (h : EqP e n) (hn : Nat.ble n 64 = true) (x y : α) : cmp .NotEq (e x) (e y) = some (!decide (x = y)) := by
  show (MI.eqD (e x) (e y)).map not = _
  rw [h.eqD hn x y]
  rfl
theorem eqp_I : EqP eI 0 := ⟨.int, fun _ => rfl, fun _ => rfl, fun _ => Nat.le_refl _, fun x y => by
  show (x == y) = true ↔ _
  simp⟩
theorem eqp_B : EqP eB 0 := ⟨.bool, fun _ => rfl, fun _ => rfl, fun _ => Nat.le_refl _, fun x y => by cases x <;> cases y <;> decide⟩
theorem eqp_N : EqP eN 0 := ⟨fun _ => .none, fun _ => rfl, fun _ => rfl, fun _ => Nat.le_refl _, fun x y => ⟨fun _ => rfl, fun _ => rfl⟩⟩
theorem eqp_list {e : α → D} {n : Nat} (h : EqP e n) : ∃ py : α → PyData, (∀ xs : List α, toPys (xs.map e) = some (xs.map py)) ∧ (∀ xs : List α, PyData.canLayAll0 (xs.map py) = true) ∧ (∀ xs : List α, PyData.depthAll (xs.map py) ≤ n) ∧ (∀ xs ys : List α, PyData.eqvAll (xs.map py) (ys.map py) = true ↔ xs = ys) := by
  obtain ⟨py, h1, h2, h3, h4⟩ := h.ex
  refine ⟨py, fun xs => ?_, fun xs => ?_, fun xs => ?_, fun xs => ?_⟩
  · induction xs with
    | nil => rfl
    | cons x r ih =>
      show (match toPy (e x), toPys (r.map e) with
        | some d, some ds => some (d :: ds)
        | _, _ => none) = _
      rw [ih, h1]
      rfl
  · induction xs with
    | nil => rfl
    | cons x r ih =>
      show (PyData.canLay0 (py x) && PyData.canLayAll0 (r.map py)) = true
      rw [ih, h2]
      rfl
  · induction xs with
    | nil => exact Nat.zero_le _
    | cons x r ih =>
      show max (PyData.depth (py x)) (PyData.depthAll (r.map py)) ≤ n
      have := h3 x
      omega
  · induction xs with
    | nil => intro ys; cases ys with
      | nil => exact ⟨fun _ => rfl, fun _ => rfl⟩
      | cons y q => exact ⟨fun h => (nomatch h), fun h => (nomatch h)⟩
    | cons x r ih => intro ys; cases ys with
      | nil => exact ⟨fun h => (nomatch h), fun h => (nomatch h)⟩
      | cons y q =>
        show (PyData.eqv (py x) (py y) && PyData.eqvAll (r.map py) (q.map py)) = true ↔ _
        rw [Bool.and_eq_true, h4, ih]
        simp
theorem eqp_L {e : α → D} {n : Nat} (h : EqP e n) : EqP (eL e) (n + 1) := by
  obtain ⟨py, h1, h2, h3, h4⟩ := eqp_list h
  refine ⟨fun xs => .list (xs.map py), fun xs => ?_, fun xs => h2 xs, fun xs => Nat.succ_le_succ (h3 xs), fun xs ys => h4 xs ys⟩
  show (toPys (xs.map e)).map PyData.list = _
  rw [h1]
  rfl
theorem eqp_T {e : α → D} {n : Nat} (h : EqP e n) : EqP (eT e) (n + 1) := by
  obtain ⟨py, h1, h2, h3, h4⟩ := eqp_list h
  refine ⟨fun xs => .tuple (xs.map py), fun xs => ?_, fun xs => h2 xs, fun xs => Nat.succ_le_succ (h3 xs), fun xs ys => h4 xs ys⟩
  show (toPys (xs.map e)).map PyData.tuple = _
  rw [h1]
  rfl
/-- what is beside None -/
def NotN (e : α → D) : Prop := ∀ x, toPy (e x) ≠ some .none
theorem nn_I : NotN eI := fun _ h => nomatch Option.some.inj h
theorem nn_B : NotN eB := fun _ h => nomatch Option.some.inj h
theorem nn_S : NotN eS := fun _ h => nomatch Option.some.inj h
theorem nn_L {e : α → D} : NotN (eL e) := fun x h => by
  have h : (toPys (x.map e)).map PyData.list = some .none := h
  cases q : toPys (x.map e) with
  | none => rw [q] at h; cases h
  | some d => rw [q] at h; cases h
theorem nn_tup {xs : List D} : toPy (.tup xs) ≠ some .none := fun h => by
  have h : (toPys xs).map PyData.tuple = some .none := h
  cases q : toPys xs with
  | none => rw [q] at h; cases h
  | some d => rw [q] at h; cases h
theorem nn_T {e : α → D} : NotN (eT e) := fun x => nn_tup
theorem nn_P {e : α → D} {g : β → D} : NotN (eP e g) := fun x => nn_tup
theorem nn_3 {e : α → D} {g : β → D} {h : γ → D} : NotN (e3 e g h) := fun x => nn_tup
theorem eqp_O {e : α → D} {n : Nat} (h : EqP e n) (nn : NotN e) : EqP (eO e) n := by
  obtain ⟨py, h1, h2, h3, h4⟩ := h.ex
  have no : ∀ x, py x ≠ .none := fun x q => nn x (by rw [h1 x, q])
  refine ⟨fun o => match o with | some x => py x | none => .none, fun o => ?_, fun o => ?_, fun o => ?_, fun o p => ?_⟩
  · cases o with
    | none => rfl
    | some x => exact h1 x
  · cases o with
    | none => rfl
    | some x => exact h2 x
  · cases o with
    | none => exact Nat.zero_le _
    | some x => exact h3 x
  · cases o with
    | none => cases p with
      | none => exact ⟨fun _ => rfl, fun _ => rfl⟩
      | some y =>
        refine ⟨fun h => ?_, fun h => nomatch h⟩
        exfalso
        have := no y
        have h : PyData.eqv .none (py y) = true := h
        cases q : py y <;> first | exact this q | (rw [q] at h; cases h)
    | some x => cases p with
      | none =>
        refine ⟨fun h => ?_, fun h => nomatch h⟩
        exfalso
        have := no x
        have h : PyData.eqv (py x) .none = true := h
        cases q : py x <;> first | exact this q | (rw [q] at h; cases h)
      | some y =>
        show PyData.eqv (py x) (py y) = true ↔ _
        rw [h4]
        simp
theorem eqp_0 : EqP e0 1 := ⟨fun _ => .tuple [], fun _ => rfl, fun _ => rfl, fun _ => Nat.le_refl _, fun x y => ⟨fun _ => rfl, fun _ => rfl⟩⟩
theorem eqp_1 {e : α → D} {n : Nat} (h : EqP e n) : EqP (e1 e) (n + 1) := by
  obtain ⟨py, h1, h2, h3, h4⟩ := h.ex
  refine ⟨fun x => .tuple [py x], fun x => ?_, fun x => ?_, fun x => ?_, fun x y => ?_⟩
  · show (toPys [e x]).map PyData.tuple = _
    unfold toPys toPys
    rw [h1]
    rfl
  · show (PyData.canLay0 (py x) && true) = true
    rw [h2]; rfl
  · show max (PyData.depth (py x)) 0 + 1 ≤ _
    have := h3 x
    omega
  · show (PyData.eqv (py x) (py y) && true) = true ↔ _
    rw [Bool.and_true, h4]
theorem eqp_P {e : α → D} {g : β → D} {n k : Nat} (h : EqP e n) (h' : EqP g k) : EqP (eP e g) (max n k + 1) := by
  obtain ⟨py, h1, h2, h3, h4⟩ := h.ex
  obtain ⟨qy, g1, g2, g3, g4⟩ := h'.ex
  refine ⟨fun p => .tuple [py p.1, qy p.2], fun x => ?_, fun x => ?_, fun x => ?_, fun x y => ?_⟩
  · show (toPys [e x.1, g x.2]).map PyData.tuple = _
    unfold toPys toPys toPys
    rw [h1, g1]
    rfl
  · show (PyData.canLay0 (py x.1) && (PyData.canLay0 (qy x.2) && true)) = true
    rw [h2, g2]; rfl
  · show max (PyData.depth (py x.1)) (max (PyData.depth (qy x.2)) 0) + 1 ≤ _
    have := h3 x.1
    have := g3 x.2
    omega
  · show (PyData.eqv (py x.1) (py y.1) && (PyData.eqv (qy x.2) (qy y.2) && true)) = true ↔ _
    rw [Bool.and_true, Bool.and_eq_true, h4, g4]
    constructor
    · rintro ⟨a, b⟩; exact Prod.ext a b
    · rintro rfl; exact ⟨rfl, rfl⟩
theorem eqp_3 {e : α → D} {g : β → D} {h : γ → D} {n k l : Nat} (he : EqP e n) (hg : EqP g k) (hh : EqP h l) : EqP (e3 e g h) (max n (max k l) + 1) := by
  obtain ⟨py, h1, h2, h3, h4⟩ := he.ex
  obtain ⟨qy, g1, g2, g3, g4⟩ := hg.ex
  obtain ⟨ry, k1, k2, k3, k4⟩ := hh.ex
  refine ⟨fun p => .tuple [py p.1, qy p.2.1, ry p.2.2], fun x => ?_, fun x => ?_, fun x => ?_, fun x y => ?_⟩
  · show (toPys [e x.1, g x.2.1, h x.2.2]).map PyData.tuple = _
    unfold toPys toPys toPys toPys
    rw [h1, g1, k1]
    rfl
  · show (PyData.canLay0 (py x.1) && (PyData.canLay0 (qy x.2.1) && (PyData.canLay0 (ry x.2.2) && true))) = true
    rw [h2, g2, k2]; rfl
  · show max (PyData.depth (py x.1)) (max (PyData.depth (qy x.2.1)) (max (PyData.depth (ry x.2.2)) 0)) + 1 ≤ _
    have := h3 x.1
    have := g3 x.2.1
    have := k3 x.2.2
    omega
  · show (PyData.eqv (py x.1) (py y.1) && (PyData.eqv (qy x.2.1) (qy y.2.1) && (PyData.eqv (ry x.2.2) (ry y.2.2) && true))) = true ↔ _
    rw [Bool.and_true, Bool.and_eq_true, Bool.and_eq_true, h4, g4, k4]
    constructor
    · rintro ⟨a, b, c⟩; exact Prod.ext a (Prod.ext b c)
    · rintro rfl; exact ⟨rfl, rfl, rfl⟩
/-! ### is it a list? -/
theorem nl_O {e : α → D} (h : ∀ a, notL (e a) = true) : ∀ x : Option α, notL (eO e x) = true
  | none => rfl
  | some a => h a
theorem is_O {e : α → D} (h : ∀ a, cmp .Is (e a) .non = some false) : ∀ x : Option α, cmp .Is (eO e x) .non = some x.isNone
  | none => rfl
  | some a => h a
theorem isnt_O {e : α → D} (h : ∀ a, cmp .IsNot (e a) .non = some true) : ∀ x : Option α, cmp .IsNot (eO e x) .non = some x.isSome
  | none => rfl
  | some a => h a
/-! ### truth -/
theorem tru_L {e : α → D} (xs : List α) : tru (eL e xs) = some (!xs.isEmpty) := by cases xs <;> rfl
theorem tru_T {e : α → D} (xs : List α) : tru (eT e xs) = some (!xs.isEmpty) := by cases xs <;> rfl
/-! ### kinds -/
theorem isi_I (i : Int) : bf1 .isinst [.int i, .ty "int"] = some (.d (.bl true)) := by simp
theorem isi_Ib (i : Int) : bf1 .isinst [.int i, .ty "bool"] = some (.d (.bl false)) := by simp
theorem isi_It (i : Int) : bf1 .isinst [.int i, .ty "tuple"] = some (.d (.bl false)) := by simp [bf1, tyNames, isTy]
theorem isi_Il (i : Int) : bf1 .isinst [.int i, .ty "list"] = some (.d (.bl false)) := by simp [bf1, tyNames, isTy]
theorem isi_Is (i : Int) : bf1 .isinst [.int i, .ty "str"] = some (.d (.bl false)) := by simp [bf1, tyNames, isTy]
theorem isi_Bi (i : Bool) : bf1 .isinst [.bl i, .ty "int"] = some (.d (.bl true)) := by simp [bf1, tyNames, isTy]
theorem isi_B (i : Bool) : bf1 .isinst [.bl i, .ty "bool"] = some (.d (.bl true)) := by simp [bf1, tyNames, isTy]
theorem isi_T (xs : List D) : bf1 .isinst [.tup xs, .ty "tuple"] = some (.d (.bl true)) := by simp [bf1, tyNames, isTy]
theorem isi_Ti (xs : List D) : bf1 .isinst [.tup xs, .ty "int"] = some (.d (.bl false)) := by simp [bf1, tyNames, isTy]
theorem isi_Tb (xs : List D) : bf1 .isinst [.tup xs, .ty "bool"] = some (.d (.bl false)) := by simp [bf1, tyNames, isTy]
theorem isi_Tl (xs : List D) : bf1 .isinst [.tup xs, .ty "list"] = some (.d (.bl false)) := by simp [bf1, tyNames, isTy]
theorem isi_L (xs : List D) : bf1 .isinst [.lst xs, .ty "list"] = some (.d (.bl true)) := by simp [bf1, tyNames, isTy]
theorem isi_Lt (xs : List D) : bf1 .isinst [.lst xs, .ty "tuple"] = some (.d (.bl false)) := by simp [bf1, tyNames, isTy]
theorem isi_Li (xs : List D) : bf1 .isinst [.lst xs, .ty "int"] = some (.d (.bl false)) := by simp [bf1, tyNames, isTy]
theorem isi_Ni : bf1 .isinst [.non, .ty "int"] = some (.d (.bl false)) := by simp [bf1, tyNames, isTy]
theorem isi_Nt : bf1 .isinst [.non, .ty "tuple"] = some (.d (.bl false)) := by simp [bf1, tyNames, isTy]
theorem isi_Nb : bf1 .isinst [.non, .ty "bool"] = some (.d (.bl false)) := by simp [bf1, tyNames, isTy]
/-! ### by a written number -/
theorem bin_mulL {x c : Int} (h : Nat.blt c.natAbs W64 = true) : bin .Mult (.int c) (.int x) = some (.d (.int (c * x))) := by
  refine bin_mul ?_
  unfold mulOk
  rw [decide_eq_true (p := c.natAbs < W64) (Nat.le_of_ble_eq_true h)]
  rfl
theorem bin_mulR {x c : Int} (h : Nat.blt c.natAbs W64 = true) : bin .Mult (.int x) (.int c) = some (.d (.int (x * c))) := by
  refine bin_mul ?_
  unfold mulOk
  rw [decide_eq_true (p := c.natAbs < W64) (Nat.le_of_ble_eq_true h), Bool.or_true]
  rfl
theorem bin_modC {x c : Int} (h : decide (0 < c) = true) : bin .Mod (.int x) (.int c) = some (.d (.int (x % c))) := bin_mod (of_decide_eq_true h)
theorem bin_divC {x c : Int} (h : (decide (0 < c) && Nat.blt c.natAbs W64) = true) : bin .FloorDiv (.int x) (.int c) = some (.d (.int (x / c))) := by
  rw [Bool.and_eq_true] at h
  have := Nat.le_of_ble_eq_true h.2
  refine bin_div (of_decide_eq_true h.1) (Nat.lt_trans this ?_)
  unfold W64 W4
  exact Nat.pow_lt_pow_right (by decide) (by decide)
abbrev imax (x y : Int) : Int := if y > x then y else x
abbrev imin (x y : Int) : Int := if y < x then y else x
abbrev sortI (xs : List Int) : List Int := xs.mergeSort fun a b => decide (a ≤ b)
/-! ### more steps -/
theorem tr_brnT {o : Option Bool} {fa fb : S → O} (e : o = some true) (k : Tr G Γ m fa) : Tr G Γ m (fun s => brn o (fa s) (fb s)) := by
  subst e
  exact k
theorem tr_brnF {o : Option Bool} {fa fb : S → O} (e : o = some false) (k : Tr G Γ m fb) : Tr G Γ m (fun s => brn o (fa s) (fb s)) := by
  subst e
  exact k
/-- `a and b`, `a or b` of truth values, where b is more than a value -/
theorem tr_andB {x : Bool} {b : T} {G : τ → OD} {mb me : M τ} (hb : x = true → Tr G Γ mb (fun s => (oE Φ b s).toO .rt)) (hf : Tr G Γ me (.rt (.d (.bl false)))) : Tr G Γ (if x then mb else me) (fun s => brn (tru (.bl x)) ((oE Φ b s).toO .rt) (.rt (.d (.bl x)) s)) := by
  cases x with
  | true => exact hb rfl
  | false => exact hf
theorem tr_orB {x : Bool} {b : T} {G : τ → OD} {mb me : M τ} (hb : x = false → Tr G Γ mb (fun s => (oE Φ b s).toO .rt)) (hf : Tr G Γ me (.rt (.d (.bl true)))) : Tr G Γ (if x then me else mb) (fun s => brn (tru (.bl x)) (.rt (.d (.bl x)) s) ((oE Φ b s).toO .rt)) := by
  cases x with
  | true => exact hf
  | false => exact hb rfl
/-! repr -/
namespace M
def repr (d : D) : M Str := match bf1 .repr [d] with
  | some (.d (.str s)) => .ok s
  | _ => .no
end M
theorem tr_repr {d : D} {k : Str → M α} (h : ∀ z, Tr G Γ (k z) (f (.d (.str z)))) : Tr G Γ ((M.repr d).bind k) (opO (bf1 .repr [d]) f) := by
  unfold M.repr
  cases q : bf1 .repr [d] with
  | none => exact Tr.no
  | some v =>
    cases v with
    | d y => cases y with
      | str z => exact h z
      | _ => exact Tr.no
    | _ => exact Tr.no
/-! ### starts -/
theorem st_nil : St [] [] := ⟨rfl, fun i d e => by simp at e⟩
theorem st_cons {d : SD} {o : Option Vl} {s : S} (h : d.Ok o) (t : St Γ s) : St (d :: Γ) (o :: s) := by
  refine ⟨by simp [t.len], fun i d' e => ?_⟩
  cases i with
  | zero => cases e; exact ⟨o, rfl, h⟩
  | succ i => exact t.ok i d' (by simpa using e)
theorem st_dat {u : Vl} {x : D} {s : S} (h : u.dat = x) (t : St Γ s) : St (.dat x :: Γ) (some u :: s) := st_cons (d := .dat x) ⟨u, rfl, h⟩ t
theorem st_prm {u : Vl} {s : S} (t : St Γ s) : St (.prm u :: Γ) (some u :: s) := st_cons (d := .prm u) (.inl rfl) t
theorem st_own {tg : Bool} {xs : List D} {s : S} (t : St Γ s) : St (.own tg xs :: Γ) (some (.own tg xs) :: s) := st_cons (d := .own tg xs) rfl t
theorem st_any {s : S} (t : St Γ s) : St (.any :: Γ) (none :: s) := st_cons (d := .any) trivial t
theorem args0 {us : List Vl} (h : Args [] us) : us = [] := by cases h; rfl
theorem argsC {a : AD} {r : List AD} {us : List Vl} (h : Args (a :: r) us) : ∃ u v, us = u :: v ∧ a.Ok u ∧ Args r v := by cases h with | cons h t => exact ⟨_, _, rfl, h, t⟩
theorem args1 {a : AD} {us : List Vl} (h : Args [a] us) : ∃ u, us = [u] ∧ a.Ok u := by
  obtain ⟨u, v, rfl, h1, h2⟩ := argsC h
  cases args0 h2
  exact ⟨u, rfl, h1⟩
theorem args2 {a b : AD} {us : List Vl} (h : Args [a, b] us) : ∃ u v, us = [u, v] ∧ a.Ok u ∧ b.Ok v := by
  obtain ⟨u, w, rfl, h1, h2⟩ := argsC h
  obtain ⟨v, rfl, h3⟩ := args1 h2
  exact ⟨u, v, rfl, h1, h3⟩
theorem args3 {a b c : AD} {us : List Vl} (h : Args [a, b, c] us) : ∃ u v w, us = [u, v, w] ∧ a.Ok u ∧ b.Ok v ∧ c.Ok w := by
  obtain ⟨u, z, rfl, h1, h2⟩ := argsC h
  obtain ⟨v, w, rfl, h3, h4⟩ := args2 h2
  exact ⟨u, v, w, rfl, h1, h3, h4⟩
theorem args4 {a b c d : AD} {us : List Vl} (h : Args [a, b, c, d] us) : ∃ u v w x, us = [u, v, w, x] ∧ a.Ok u ∧ b.Ok v ∧ c.Ok w ∧ d.Ok x := by
  obtain ⟨u, z, rfl, h1, h2⟩ := argsC h
  obtain ⟨v, w, x, rfl, h3, h4, h5⟩ := args3 h2
  exact ⟨u, v, w, x, rfl, h1, h3, h4, h5⟩
theorem args5 {a b c d e : AD} {us : List Vl} (h : Args [a, b, c, d, e] us) : ∃ u v w x y, us = [u, v, w, x, y] ∧ a.Ok u ∧ b.Ok v ∧ c.Ok w ∧ d.Ok x ∧ e.Ok y := by
  obtain ⟨u, z, rfl, h1, h2⟩ := argsC h
  obtain ⟨v, w, x, y, rfl, h3, h4, h5, h6⟩ := args4 h2
  exact ⟨u, v, w, x, y, rfl, h1, h3, h4, h5, h6⟩
theorem args6 {a b c d e f : AD} {us : List Vl} (h : Args [a, b, c, d, e, f] us) : ∃ u v w x y z, us = [u, v, w, x, y, z] ∧ a.Ok u ∧ b.Ok v ∧ c.Ok w ∧ d.Ok x ∧ e.Ok y ∧ f.Ok z := by
  obtain ⟨u, q, rfl, h1, h2⟩ := argsC h
  obtain ⟨v, w, x, y, z, rfl, h3, h4, h5, h6, h7⟩ := args5 h2
  exact ⟨u, v, w, x, y, z, rfl, h1, h3, h4, h5, h6, h7⟩
end
end MK

set_option Elab.async false
set_option linter.all false
set_option maxRecDepth 100000
set_option maxHeartbeats 4000000
/-! More constructs read by types: xs[::-1], in, xs.pop(), x += e, stars, range with a step. -/
namespace MK
open MI PySem
namespace M
variable {α β : Type}
def range3 (i j c : Int) : M (List Int) := if rg3Ok i j c then .ok (rngS i c (PySem.Builtin.Range.rangeSize i j c).toNat) else .no
end M
section
variable {α β γ ρ τ : Type} {Φ : Call} {Γ Γ' : List SD} {G : α → OD} {m : M α} {f : Vl → S → O} {κ : S → O}
/-! ### xs[::-1] -/
theorem e_sl1 (a : T) (s : S) : oE Φ (.sl1 a) s = (oE Φ a s).bind fun x s => R.ofO (revD x.dat) s := by
  simp only [oE_eq]
  rfl
theorem rev_L {e : β → D} (xs : List β) : revD (eL e xs) = some (.own false (xs.reverse.map e)) := by
  show some (Vl.own false (xs.map e).reverse) = _
  rw [List.map_reverse]
theorem rev_T {e : β → D} (xs : List β) : revD (eT e xs) = some (.d (eT e xs.reverse)) := by
  show some (Vl.d (.tup (xs.map e).reverse)) = some (Vl.d (.tup (xs.reverse.map e)))
  rw [List.map_reverse]
theorem pf_rev {e : β → D} {a : T} {xs : List β} (ha : PV Φ Γ a (eL e xs)) : PF Φ Γ (.sl1 a) (xs.reverse.map e) := fun s hs => by
  obtain ⟨v, s1, e1, ev, h1⟩ := ha s hs
  exact ⟨s1, by rw [e_sl1, e1, bind_ok', ev, rev_L]; rfl, h1⟩
theorem pe_rev {e : β → D} {a : T} {xs : List β} (ha : PV Φ Γ a (eT e xs)) : PE Φ Γ (.sl1 a) (eT e xs.reverse) := fun s hs => by
  obtain ⟨v, s1, e1, ev, h1⟩ := ha s hs
  exact ⟨s1, by rw [e_sl1, e1, bind_ok', ev, rev_T]; rfl, h1⟩
theorem tr_sl1 {a : T} (k : Tr G Γ m (fun s => (oE Φ a s).toO fun x s => opO (revD x.dat) f s)) : Tr G Γ m (fun s => (oE Φ (.sl1 a) s).toO f) :=
  tr_eq (fun s => by simp only [e_sl1, toO_bind, toO_ofO]) k
theorem tr_revL {e : β → D} {xs : List β} (k : Tr G Γ m (f (.own false (xs.reverse.map e)))) : Tr G Γ m (opO (revD (eL e xs)) f) := tr_o (rev_L xs) k
theorem tr_revT {e : β → D} {xs : List β} (k : Tr G Γ m (f (.d (eT e xs.reverse)))) : Tr G Γ m (opO (revD (eT e xs)) f) := tr_o (rev_T xs) k
/-! ### in -/
theorem e_memV {n : Bool} (a : T) (i : Nat) (s : S) : oE Φ (.mem n a (.var i)) s = (oE Φ a s).bind fun x s => match peek i s with
    | some y => R.ofO (memV n x.dat y) s
    | none => .no := by
  simp only [oE_eq]
  rfl
theorem e_mem {n : Bool} (a b : T) (h : isVar b = false) (s : S) : oE Φ (.mem n a b) s = (oE Φ a s).bind fun x s => (oE Φ b s).bind fun y s => R.ofO (memV n x.dat y.dat) s := by
  simp only [oE_eq]
  cases b <;> first | rfl | cases h
theorem mem_py {e : α → D} {n : Nat} (h : EqP e n) (hn : Nat.ble (n + 1) 64 = true) [DecidableEq α] (x : α) (ys : List α) : ∃ p ps, toPy (e x) = some p ∧ toPys (ys.map e) = some ps ∧ SeqAt.shaped p = true ∧ SeqAt.shaped (.list ps) = true ∧ SeqAt.shaped (.tuple ps) = true ∧ (ps.any fun z => PyData.eqv z p) = decide (x ∈ ys) := by
  obtain ⟨py, h1, h2, h3, h4⟩ := h.ex
  have hn := Nat.le_of_ble_eq_true hn
  have a1 : ∀ ys : List α, toPys (ys.map e) = some (ys.map py) := fun ys => by
    induction ys with
    | nil => rfl
    | cons y r ih =>
      show (match toPy (e y), toPys (r.map e) with
        | some d, some ds => some (d :: ds)
        | _, _ => none) = _
      rw [ih, h1]
      rfl
  have a2 : ∀ ys : List α, PyData.canLayAll0 (ys.map py) = true := fun ys => by
    induction ys with
    | nil => rfl
    | cons y r ih =>
      show (PyData.canLay0 (py y) && PyData.canLayAll0 (r.map py)) = true
      rw [ih, h2]
      rfl
  have a3 : ∀ ys : List α, PyData.depthAll (ys.map py) ≤ n := fun ys => by
    induction ys with
    | nil => exact Nat.zero_le _
    | cons y r ih =>
      show max (PyData.depth (py y)) (PyData.depthAll (r.map py)) ≤ n
      have := h3 y
      omega
  refine ⟨py x, ys.map py, h1 x, a1 ys, ?_, ?_, ?_, ?_⟩
  · show (PyData.canLay0 (py x) && decide (PyData.depth (py x) ≤ 64)) = true
    rw [h2, Bool.true_and]
    exact decide_eq_true (by have := h3 x; omega)
  · show (PyData.canLayAll0 (ys.map py) && decide (PyData.depthAll (ys.map py) + 1 ≤ 64)) = true
    rw [a2, Bool.true_and]
    exact decide_eq_true (by have := a3 ys; omega)
  · show (PyData.canLayAll0 (ys.map py) && decide (PyData.depthAll (ys.map py) + 1 ≤ 64)) = true
    rw [a2, Bool.true_and]
    exact decide_eq_true (by have := a3 ys; omega)
  · rw [List.any_map]
    by_cases hx : x ∈ ys
    · rw [decide_eq_true hx, List.any_eq_true]
      exact ⟨x, hx, (h4 x x).mpr rfl⟩
    · rw [decide_eq_false hx, List.any_eq_false]
      intro y hy q
      exact hx ((h4 y x).mp q ▸ hy)
theorem mem_L {e : α → D} {n : Nat} (h : EqP e n) (hn : Nat.ble (n + 1) 64 = true) [DecidableEq α] (x : α) (ys : List α) : memV false (e x) (eL e ys) = some (.d (.bl (decide (x ∈ ys)))) := by
  obtain ⟨p, ps, h1, h2, h3, h4, _, h6⟩ := mem_py h hn x ys
  unfold memV memD
  dsimp only
  rw [h1, h2]
  dsimp only
  rw [h3, h4, h6]
  simp
theorem mem_Ln {e : α → D} {n : Nat} (h : EqP e n) (hn : Nat.ble (n + 1) 64 = true) [DecidableEq α] (x : α) (ys : List α) : memV true (e x) (eL e ys) = some (.d (.bl (!decide (x ∈ ys)))) := by
  obtain ⟨p, ps, h1, h2, h3, h4, _, h6⟩ := mem_py h hn x ys
  unfold memV memD
  dsimp only
  rw [h1, h2]
  dsimp only
  rw [h3, h4, h6]
  simp
theorem mem_T {e : α → D} {n : Nat} (h : EqP e n) (hn : Nat.ble (n + 1) 64 = true) [DecidableEq α] (x : α) (ys : List α) : memV false (e x) (eT e ys) = some (.d (.bl (decide (x ∈ ys)))) := by
  obtain ⟨p, ps, h1, h2, h3, _, h4, h6⟩ := mem_py h hn x ys
  unfold memV memD
  dsimp only
  rw [h1, h2]
  dsimp only
  rw [h3, h4, h6]
  simp
theorem mem_Tn {e : α → D} {n : Nat} (h : EqP e n) (hn : Nat.ble (n + 1) 64 = true) [DecidableEq α] (x : α) (ys : List α) : memV true (e x) (eT e ys) = some (.d (.bl (!decide (x ∈ ys)))) := by
  obtain ⟨p, ps, h1, h2, h3, _, h4, h6⟩ := mem_py h hn x ys
  unfold memV memD
  dsimp only
  rw [h1, h2]
  dsimp only
  rw [h3, h4, h6]
  simp
theorem pe_mem {n : Bool} {a b : T} {x y z : D} (nv : isVar b = false) (ha : PV Φ Γ a x) (hb : PV Φ Γ b y) (ez : memV n x y = some (.d z)) : PE Φ Γ (.mem n a b) z := fun s hs => by
  obtain ⟨u, s0, e0, rfl, h0⟩ := ha s hs
  obtain ⟨v, s1, e1, rfl, h1⟩ := hb s0 h0
  exact ⟨s1, by rw [e_mem _ _ nv, e0, bind_ok', e1, bind_ok', ez]; rfl, h1⟩
theorem pe_memV {n : Bool} {a : T} {i : Nat} {d : SD} {x y z : D} (e : Γ[i]? = some d) (h : d.Has y) (ha : PV Φ Γ a x) (ez : memV n x y = some (.d z)) : PE Φ Γ (.mem n a (.var i)) z := fun s hs => by
  obtain ⟨u, s0, e0, rfl, h0⟩ := ha s hs
  refine ⟨s0, ?_, h0⟩
  rw [e_memV, e0, bind_ok', h0.peek e h]
  dsimp only
  rw [ez]
  rfl
theorem tr_mem {n : Bool} {a b : T} (nv : isVar b = false) (k : Tr G Γ m (fun s => (oE Φ a s).toO fun x s => (oE Φ b s).toO fun y s => opO (memV n x.dat y.dat) f s)) : Tr G Γ m (fun s => (oE Φ (.mem n a b) s).toO f) :=
  tr_eq (fun s => by simp only [e_mem _ _ nv, toO_bind, toO_ofO]) k
theorem tr_memV {n : Bool} {a : T} {i : Nat} (k : Tr G Γ m (fun s => (oE Φ a s).toO fun x s => opO ((peek i s).bind fun y => memV n x.dat y) f s)) : Tr G Γ m (fun s => (oE Φ (.mem n a (.var i)) s).toO f) :=
  tr_eq (fun s => by
    rw [e_memV, toO_bind]
    congr 1
    funext x s
    cases peek i s with
    | none => rfl
    | some y => exact toO_ofO _ _ _) k
theorem tr_memE {n : Bool} {i : Nat} {d : SD} {x y : D} (e : Γ[i]? = some d) (h : d.Has y) (k : Tr G Γ m (opO (memV n x y) f)) : Tr G Γ m (fun s => opO ((peek i s).bind fun y => memV n x y) f s) := .mk fun s hs => by
  have q := k s hs
  show OutOk G m (opO ((peek i s).bind fun y => memV n x y) f s)
  rw [hs.peek e h]
  exact q
/-! ### xs.pop() -/
theorem x_pop (i : Nat) (s : S) : oX Φ (.pop i) s = match s[i]? with
    | some (some (.own tag xs)) => if xs.isEmpty then .no else .nx (s.set i (some (.own tag xs.dropLast)))
    | _ => .no := by
  simp only [oX_eq]
  rfl
theorem tr_pop {i : Nat} {t : Bool} {e : β → D} {xs : List β} {k : List β → M α} (h : Γ[i]? = some (.own t (xs.map e))) (hk : ∀ zs, Tr G (Γ.set i (.own t (zs.map e))) (k zs) κ) : Tr G Γ ((M.pop xs).bind k) (fun s => sq κ (oX Φ (.pop i) s)) := .mk fun s hs => by
  obtain ⟨o, es, ok⟩ := hs.get h
  have ok : o = some (.own t (xs.map e)) := ok
  subst ok
  show OutOk G ((M.pop xs).bind k) (sq κ (oX Φ (.pop i) s))
  rw [x_pop, es]
  dsimp only
  unfold M.pop
  cases xs with
  | nil => trivial
  | cons y r =>
    have := hk (y :: r).dropLast (s.set i (some (.own t ((y :: r).dropLast.map e)))) (hs.set i rfl)
    rw [List.map_dropLast] at this
    exact this
/-! ### x += e -/
def augK (i : Nat) (op : Operator) (x : D) (κ : S → O) (v : Vl) (s : S) : O := match augD op x v.dat with
  | some y => κ (s.set i (some (.d y)))
  | none => .no
theorem x_aug (i : Nat) (op : Operator) (e : T) (s : S) : oX Φ (.aug i op e) s = match s[i]? with
    | some (some (.d x)) => (match oE Φ e s with
      | .ok v s => (match augD op x v.dat with
        | some y => .nx (s.set i (some (.d y)))
        | none => .no)
      | .ex c fs s => .ex c fs s
      | .no => .no)
    | _ => .no := by
  simp only [oX_eq, oE_eq]
  rfl
theorem tr_aug {i : Nat} {op : Operator} {e : T} {d : SD} {x : Int} (h : Γ[i]? = some d) (hd : d.Has (.int x)) (k : Tr G Γ m (fun s => (oE Φ e s).toO (augK i op (.int x) κ))) : Tr G Γ m (fun s => sq κ (oX Φ (.aug i op e) s)) := .mk fun s hs => by
  obtain ⟨o, es, ok⟩ := hs.get h
  obtain ⟨v, rfl, hv⟩ := hd.peek ok
  have ev : v = .d (.int x) := by
    cases v with
    | d y => cases hv; rfl
    | fz y => cases hv
    | own t y => cases hv
  subst ev
  have q : OutOk G m ((oE Φ e s).toO (augK i op (.int x) κ)) := k s hs
  show OutOk G m (sq κ (oX Φ (.aug i op e) s))
  rw [x_aug, es]
  refine cast ?_ q
  congr 1
  show _ = sq κ (match oE Φ e s with
      | .ok v s => (match augD op (.int x) v.dat with
        | some y => .nx (s.set i (some (.d y)))
        | none => .no)
      | .ex c fs s => .ex c fs s
      | .no => .no)
  cases oE Φ e s with
  | ok v s1 =>
    show augK i op (.int x) κ v s1 = sq κ (match augD op (.int x) v.dat with
        | some y => .nx (s1.set i (some (.d y)))
        | none => .no)
    unfold augK
    cases augD op (.int x) v.dat <;> rfl
  | ex c fs s1 => rfl
  | no => rfl
theorem tr_augA {i : Nat} {x y : Int} {km : Int → M α} (k : ∀ a, Tr G (Γ.set i (.dat (.int a))) (km a) κ) : Tr G Γ (M.lt (x + y) km) (augK i .Add (.int x) κ (.d (.int y))) := .mk fun s hs => k (x + y) _ (hs.set i ⟨_, rfl, rfl⟩)
theorem tr_augS {i : Nat} {x y : Int} {km : Int → M α} (k : ∀ a, Tr G (Γ.set i (.dat (.int a))) (km a) κ) : Tr G Γ (M.lt (x - y) km) (augK i .Sub (.int x) κ (.d (.int y))) := .mk fun s hs => k (x - y) _ (hs.set i ⟨_, rfl, rfl⟩)
/-! ### stars in displays -/
theorem l_star' (a r : T) (h : isVar a = false) (s : S) : oL Φ (.star a r) s = (oE Φ a s).bind fun x s => match items x.dat with
    | some ys => (oL Φ r s).bind fun xs s => .ok (ys ++ xs) s
    | none => .no := by
  simp only [oL_eq, oE_eq]
  cases a <;> first | rfl | cases h
theorem l_starV' (i : Nat) (r : T) (s : S) : oL Φ (.star (.var i) r) s = match (peek i s).bind items with
    | some ys => (oL Φ r s).bind fun xs s => .ok (ys ++ xs) s
    | none => .no := by
  simp only [oL_eq]
  rfl
theorem tl_star {a r : T} {f : List D → S → O} (nv : isVar a = false) (k : Tr G Γ m (fun s => (oE Φ a s).toO fun v s => itO v.dat (fun ys s => (oL Φ r s).toO fun xs s => f (ys ++ xs) s) s)) : Tr G Γ m (fun s => (oL Φ (.star a r) s).toO f) :=
  tr_eq (fun s => by
    rw [l_star' _ _ nv, toO_bind]
    congr 1
    funext v s
    cases v.dat with
    | lst xs => simp only [items, itO, toO_bind]; rfl
    | tup xs => simp only [items, itO, toO_bind]; rfl
    | _ => rfl) k
theorem tl_starV {i : Nat} {d : SD} {x : D} {r : T} {f : List D → S → O} (e : Γ[i]? = some d) (h : d.Has x) (k : Tr G Γ m (itO x (fun ys s => (oL Φ r s).toO fun xs s => f (ys ++ xs) s))) : Tr G Γ m (fun s => (oL Φ (.star (.var i) r) s).toO f) := .mk fun s hs => by
  have q := k s hs
  show OutOk G m ((oL Φ (.star (.var i) r) s).toO f)
  rw [l_starV', hs.peek e h]
  cases x with
  | lst xs =>
    have q : OutOk G m ((oL Φ r s).toO fun zs s => f (xs ++ zs) s) := q
    show OutOk G m (((oL Φ r s).bind fun zs s => .ok (xs ++ zs) s).toO f)
    rw [toO_bind]
    exact q
  | tup xs =>
    have q : OutOk G m ((oL Φ r s).toO fun zs s => f (xs ++ zs) s) := q
    show OutOk G m (((oL Φ r s).bind fun zs s => .ok (xs ++ zs) s).toO f)
    rw [toO_bind]
    exact q
  | _ => exact q
theorem sm_nil {e : β → D} : ([] : List D) = ([] : List β).map e := rfl
theorem sm_cons {e : β → D} {a : β} {xs : List D} {L : List β} (h : xs = L.map e) : e a :: xs = (a :: L).map e := by rw [h]; rfl
theorem sm_app {e : β → D} {ys : List β} {xs : List D} {L : List β} (h : xs = L.map e) : ys.map e ++ xs = (ys ++ L).map e := by rw [h, List.map_append]
theorem tr_fitT {e : β → D} {xs : List D} {L : List β} {k : List β → M α} (h : xs = L.map e) (hk : ∀ zs, Tr G Γ (k zs) (f (.d (eT e zs)))) : Tr G Γ ((M.fit L).bind k) (opO (if fitsL xs.length then some (.d (.tup xs)) else none) f) := by
  subst h
  unfold M.fit
  rw [List.length_map]
  split
  · exact hk L
  · exact Tr.no
theorem tr_fitL {e : β → D} {xs : List D} {L : List β} {k : List β → M α} (h : xs = L.map e) (hk : ∀ zs, Tr G Γ (k zs) (f (.own false (zs.map e)))) : Tr G Γ ((M.fit L).bind k) (opO (if fitsL xs.length then some (.own false xs) else none) f) := by
  subst h
  unfold M.fit
  rw [List.length_map]
  split
  · exact hk L
  · exact Tr.no
/-! ### range(i, j, c) -/
def rg3O (x y z : Vl) (f : List D → S → O) (s : S) : O := match x, y, z with
  | .d (.int i), .d (.int j), .d (.int k) => if rg3Ok i j k then f (rangeL3 i k (PySem.Builtin.Range.rangeSize i j k).toNat) s else .no
  | _, _, _ => .no
theorem i_rng3' (a b c : T) (s : S) : oI Φ (.rng (.cons a (.cons b (.cons c .nil)))) s = (oE Φ a s).bind fun x s => (oE Φ b s).bind fun y s => (oE Φ c s).bind fun z s => match x, y, z with
    | .d (.int i), .d (.int j), .d (.int k) => if rg3Ok i j k then .ok (rangeL3 i k (PySem.Builtin.Range.rangeSize i j k).toNat) s else .no
    | _, _, _ => .no := by
  simp only [oI_eq, oE_eq]
  rfl
theorem ti_rng3 {a b c : T} {fI : List D → S → O} (k : Tr G Γ m (fun s => (oE Φ a s).toO fun u s => (oE Φ b s).toO fun v s => (oE Φ c s).toO fun w s => rg3O u v w fI s)) : Tr G Γ m (fun s => (oI Φ (.rng (.cons a (.cons b (.cons c .nil)))) s).toO fI) :=
  tr_eq (fun s => by
    rw [i_rng3', toO_bind]
    congr 1
    funext u s
    rw [toO_bind]
    congr 1
    funext v s
    rw [toO_bind]
    congr 1
    funext w s
    unfold rg3O
    split
    · split <;> rfl
    · rfl) k
theorem rangeL3_map (i c : Int) (n : Nat) : rangeL3 i c n = (rngS i c n).map eI := by
  unfold rangeL3 rngS
  rw [List.map_map]
  rfl
theorem tr_range3 {i j c : Int} {fI : List D → S → O} {k : List Int → M α} (h : ∀ ns, Tr G Γ (k ns) (fI (ns.map eI))) : Tr G Γ ((M.range3 i j c).bind k) (rg3O (.d (.int i)) (.d (.int j)) (.d (.int c)) fI) := by
  show Tr G Γ ((M.range3 i j c).bind k) (fun s => if rg3Ok i j c then fI (rangeL3 i c (PySem.Builtin.Range.rangeSize i j c).toNat) s else .no)
  unfold M.range3
  split
  · rw [rangeL3_map]; exact h _
  · exact Tr.no
/-! ### t * k -/
theorem tr_repT {e : β → D} {xs : List β} {y : Int} {k : List β → M α} (h : ∀ zs, Tr G Γ (k zs) (f (.d (eT e zs)))) : Tr G Γ ((M.rep xs y).bind k) (opO (bin .Mult (eT e xs) (.int y)) f) :=
  tr_if' fun q => ⟨by
    show (if decide (-(2 ^ 63) ≤ y) && decide (y < 2 ^ 63) && fitsL ((xs.map e).length * y.toNat) then some (Vl.d (.tup (List.replicate y.toNat (xs.map e)).flatten)) else none) = some (Vl.d (.tup ((List.replicate y.toNat xs).flatten.map e)))
    rw [List.length_map, if_pos q, List.map_flatten, List.map_replicate], h _⟩
/-! ### parts of slices -/
def ptO (x : Vl) (f : Option Int → S → O) (s : S) : O := match x with
  | .d (.int i) => f (some i) s
  | _ => .no
theorem tp_none {f : Option Int → S → O} (k : Tr G Γ m (f none)) : Tr G Γ m (fun s => (oP Φ .nil s).toO f) := tr_pp pp_none k
theorem tp_part {a : T} {f : Option Int → S → O} (k : Tr G Γ m (fun s => (oE Φ a s).toO fun x s => ptO x f s)) : Tr G Γ m (fun s => (oP Φ (.part a) s).toO f) :=
  tr_eq (fun s => by
    rw [p_part', toO_bind]
    congr 1
    funext x s
    cases x with
    | d y => cases y <;> rfl
    | _ => rfl) k
theorem tp_int {i : Int} {f : Option Int → S → O} (k : Tr G Γ m (f (some i))) : Tr G Γ m (ptO (.d (.int i)) f) := k
/-! ### more equalities -/
theorem eqp_4 {δ : Type} {e : α → D} {g : β → D} {h : γ → D} {l : δ → D} {n k m o : Nat} (he : EqP e n) (hg : EqP g k) (hh : EqP h m) (hl : EqP l o) : EqP (e4 e g h l) (max n (max k (max m o)) + 1) := by
  obtain ⟨py, h1, h2, h3, h4⟩ := he.ex
  obtain ⟨qy, g1, g2, g3, g4⟩ := hg.ex
  obtain ⟨ry, k1, k2, k3, k4⟩ := hh.ex
  obtain ⟨sy, l1, l2, l3, l4⟩ := hl.ex
  refine ⟨fun p => .tuple [py p.1, qy p.2.1, ry p.2.2.1, sy p.2.2.2], fun x => ?_, fun x => ?_, fun x => ?_, fun x y => ?_⟩
  · show (toPys [e x.1, g x.2.1, h x.2.2.1, l x.2.2.2]).map PyData.tuple = _
    unfold toPys toPys toPys toPys toPys
    rw [h1, g1, k1, l1]
    rfl
  · show (PyData.canLay0 (py x.1) && (PyData.canLay0 (qy x.2.1) && (PyData.canLay0 (ry x.2.2.1) && (PyData.canLay0 (sy x.2.2.2) && true)))) = true
    rw [h2, g2, k2, l2]; rfl
  · show max (PyData.depth (py x.1)) (max (PyData.depth (qy x.2.1)) (max (PyData.depth (ry x.2.2.1)) (max (PyData.depth (sy x.2.2.2)) 0))) + 1 ≤ _
    have := h3 x.1
    have := g3 x.2.1
    have := k3 x.2.2.1
    have := l3 x.2.2.2
    omega
  · show (PyData.eqv (py x.1) (py y.1) && (PyData.eqv (qy x.2.1) (qy y.2.1) && (PyData.eqv (ry x.2.2.1) (ry y.2.2.1) && (PyData.eqv (sy x.2.2.2) (sy y.2.2.2) && true)))) = true ↔ _
    rw [Bool.and_true, Bool.and_eq_true, Bool.and_eq_true, Bool.and_eq_true, h4, g4, k4, l4]
    constructor
    · rintro ⟨a, b, c, d⟩; exact Prod.ext a (Prod.ext b (Prod.ext c d))
    · rintro rfl; exact ⟨rfl, rfl, rfl, rfl⟩
end
end MK
namespace MK
open MI
namespace M
variable {α β : Type}
/-- a value that may be None -/
def opt (r : Option α) (a : M β) (f : α → M β) : M β := match r with
  | none => a
  | some x => f x
@[simp] theorem opt_none (a : M β) (f : α → M β) : opt none a f = a := rfl
@[simp] theorem opt_some (x : α) (a : M β) (f : α → M β) : opt (some x) a f = f x := rfl
end M
/-- a slot that may be unset -/
def mayD {α : Type} (e : α → D) : Option α → SD
  | none => .any
  | some a => .dat (e a)
theorem sf_no {Φ : Call} {k : Nat} {A : List AD} {ρ : Type} {v : ρ → Vl} {outs : ρ → List OO} : SF Φ k A (.no : M ρ) v outs := ⟨fun _ _ => trivial⟩
end MK

set_option Elab.async false
set_option linter.all false
set_option maxRecDepth 100000
set_option maxHeartbeats 4000000
/-! The typed reading of: xs.pop(k) and xs.pop() as values, list(range(..)), xs.extend(e), xs[k] op= e. -/
namespace MK
open MI PySem
namespace M
variable {α β : Type}
def popL (xs : List α) : M (α × List α) := match xs.getLast? with
  | some y => .ok (y, xs.dropLast)
  | none => .no
def popAt (xs : List α) (k : Int) : M (α × List α) := if decide (0 ≤ k) && decide (k < 2 ^ 62) then (match xs[k.toNat]? with
  | some y => .ok (y, xs.eraseIdx k.toNat)
  | none => .no) else .no
def lrg (i j : Int) : M (List Int) := if in62 i && in62 j && fitsL (j - i).toNat then .ok (rngL i (j - i).toNat) else .no
def at0 (xs : List α) (k : Int) : M α := if decide (0 ≤ k) then .ofO xs[k.toNat]? else .no
end M
section
variable {α β σ ρ : Type} {Φ : Call} {Γ Γ' : List SD} {G : α → OD} {m : M α} {f : Vl → S → O} {κ : S → O}
theorem map_erase {e : β → D} : ∀ (xs : List β) (k : Nat), (xs.eraseIdx k).map e = (xs.map e).eraseIdx k
  | [], _ => rfl
  | _ :: _, 0 => rfl
  | x :: xs, k + 1 => by
    show e x :: (xs.eraseIdx k).map e = e x :: (xs.map e).eraseIdx k
    rw [map_erase xs k]
theorem e_popL (i : Nat) (s : S) : oE Φ (.popE i .nil) s = match s[i]? with
    | some (some (.own tag xs)) => (match xs.getLast? with
      | some y => .ok (.d y) (s.set i (some (.own tag xs.dropLast)))
      | none => .no)
    | _ => .no := by
  simp only [oE_eq]
  rfl
theorem tr_popL {i : Nat} {t : Bool} {e : β → D} {xs : List β} {km : β × List β → M α} (h : Γ[i]? = some (.own t (xs.map e))) (hk : ∀ y zs, Tr G (Γ.set i (.own t (zs.map e))) (km (y, zs)) (f (.d (e y)))) : Tr G Γ ((M.popL xs).bind km) (fun s => (oE Φ (.popE i .nil) s).toO f) := .mk fun s hs => by
  obtain ⟨o, es, ok⟩ := hs.get h
  have ok : o = some (.own t (xs.map e)) := ok
  subst ok
  show OutOk G ((M.popL xs).bind km) ((oE Φ (.popE i .nil) s).toO f)
  rw [e_popL, es]
  dsimp only
  unfold M.popL
  rw [List.getLast?_map]
  cases xs.getLast? with
  | none => trivial
  | some y =>
    have := hk y xs.dropLast (s.set i (some (.own t (xs.dropLast.map e)))) (hs.set i rfl)
    rw [List.map_dropLast] at this
    exact this
def popK (i : Nat) (f : Vl → S → O) (v : Vl) (s : S) : O := (popR i v s).toO f
theorem e_popE (i : Nat) (ix : T) (nn : isNil ix = false) (s : S) : oE Φ (.popE i ix) s = match s[i]? with
    | some (some (.own _ _)) => (oE Φ ix s).bind fun v s => popR i v s
    | _ => .no := by
  simp only [oE_eq]
  cases ix <;> first | rfl | cases nn
theorem tr_popE {i : Nat} {t : Bool} {xs : List D} {ix : T} (h : Γ[i]? = some (.own t xs)) (nn : isNil ix = false) (k : Tr G Γ m (fun s => (oE Φ ix s).toO (popK i f))) : Tr G Γ m (fun s => (oE Φ (.popE i ix) s).toO f) := .mk fun s hs => by
  obtain ⟨o, es, ok⟩ := hs.get h
  have ok : o = some (.own t xs) := ok
  subst ok
  show OutOk G m ((oE Φ (.popE i ix) s).toO f)
  rw [e_popE _ _ nn, es]
  dsimp only
  rw [toO_bind]
  exact k s hs
theorem tr_popK {i : Nat} {t : Bool} {e : β → D} {xs : List β} {k : Int} {km : β × List β → M α} (h : Γ[i]? = some (.own t (xs.map e))) (hk : ∀ y zs, Tr G (Γ.set i (.own t (zs.map e))) (km (y, zs)) (f (.d (e y)))) : Tr G Γ ((M.popAt xs k).bind km) (popK i f (.d (.int k))) := .mk fun s hs => by
  obtain ⟨o, es, ok⟩ := hs.get h
  have ok : o = some (.own t (xs.map e)) := ok
  subst ok
  unfold popK popR
  rw [es]
  dsimp only
  unfold M.popAt
  by_cases q : (decide (0 ≤ k) && decide (k < 2 ^ 62)) = true
  · rw [if_pos q, if_pos q, List.getElem?_map]
    cases xs[k.toNat]? with
    | none => trivial
    | some y =>
      have := hk y (xs.eraseIdx k.toNat) (s.set i (some (.own t ((xs.eraseIdx k.toNat).map e)))) (hs.set i rfl)
      rw [map_erase] at this
      exact this
  · rw [if_neg q]
    trivial
theorem e_lrg (t : Bool) (ts : T) (s : S) : oE Φ (.lrg t ts) s = (oL Φ ts s).bind fun xs s => R.ofO (lrgO t xs) s := by
  simp only [oE_eq, oL_eq]
  rfl
theorem tr_lrg {t : Bool} {ts : T} (k : Tr G Γ m (fun s => (oL Φ ts s).toO fun xs s => opO (lrgO t xs) f s)) : Tr G Γ m (fun s => (oE Φ (.lrg t ts) s).toO f) :=
  tr_eq (fun s => by
    rw [e_lrg, toO_bind]
    congr 1
    funext xs s
    exact toO_ofO _ _ _) k
theorem tr_lrgV {i j : Int} {km : List Int → M α} (hk : ∀ ns, Tr G Γ (km ns) (f (.own false (ns.map eI)))) : Tr G Γ ((M.lrg i j).bind km) (opO (lrgV false i j) f) := .mk fun s hs => by
  unfold M.lrg lrgV
  by_cases q : (in62 i && in62 j && fitsL (j - i).toNat) = true
  · rw [if_pos q, if_pos q, if_neg (by decide), rangeL_map]
    exact hk _ s hs
  · rw [if_neg q]
    trivial
theorem tr_lrgT {i j : Int} {km : List Int → M α} (hk : ∀ ns, Tr G Γ (km ns) (f (.d (eT eI ns)))) : Tr G Γ ((M.lrg i j).bind km) (opO (lrgV true i j) f) := .mk fun s hs => by
  unfold M.lrg lrgV
  by_cases q : (in62 i && in62 j && fitsL (j - i).toNat) = true
  · rw [if_pos q, if_pos q, if_pos rfl, rangeL_map]
    exact hk _ s hs
  · rw [if_neg q]
    trivial
def extK (i : Nat) (κ : S → O) (v : Vl) (s : S) : O := sq κ (extO i v s)
theorem x_ext (i : Nat) (e : T) (s : S) : oX Φ (.ext i e) s = match s[i]? with
    | some (some (.own _ _)) => (match oE Φ e s with
      | .ok v s => extO i v s
      | .ex c fs s => .ex c fs s
      | .no => .no)
    | _ => .no := by
  simp only [oX_eq, oE_eq]
  rfl
theorem tr_ext {i : Nat} {t : Bool} {xs : List D} {e : T} (h : Γ[i]? = some (.own t xs)) (k : Tr G Γ m (fun s => (oE Φ e s).toO (extK i κ))) : Tr G Γ m (fun s => sq κ (oX Φ (.ext i e) s)) := .mk fun s hs => by
  obtain ⟨o, es, ok⟩ := hs.get h
  have ok : o = some (.own t xs) := ok
  subst ok
  show OutOk G m (sq κ (oX Φ (.ext i e) s))
  have q : OutOk G m ((oE Φ e s).toO (extK i κ)) := k s hs
  rw [x_ext, es]
  refine cast ?_ q
  congr 1
  cases oE Φ e s <;> rfl
theorem tr_extE {i : Nat} {t : Bool} {e : β → D} {xs ys : List β} {v : Vl} {k : List β → M α} (h : Γ[i]? = some (.own t (xs.map e))) (hv : v.dat = .lst (ys.map e)) (hk : ∀ zs, Tr G (Γ.set i (.own t (zs.map e))) (k zs) κ) : Tr G Γ ((M.cat xs ys).bind k) (extK i κ v) := .mk fun s hs => by
  obtain ⟨o, es, ok⟩ := hs.get h
  have ok : o = some (.own t (xs.map e)) := ok
  subst ok
  unfold extK extO
  rw [es, hv]
  dsimp only
  unfold M.cat
  rw [List.length_map, List.length_map]
  by_cases q : fitsL (xs.length + ys.length) = true
  · rw [if_pos q, if_pos q]
    have := hk (xs ++ ys) (s.set i (some (.own t ((xs ++ ys).map e)))) (hs.set i rfl)
    rw [List.map_append] at this
    exact this
  · rw [if_neg q]
    trivial
def augsF (i : Nat) (op : Operator) (k x : Int) (κ : S → O) (v : Vl) (s : S) : O := sq κ (augO i op k (.int x) v s)
noncomputable def augsK (Φ : Call) (i : Nat) (op : Operator) (e : T) (κ : S → O) (v : Vl) (s : S) : O := match v with
  | .d (.int k) => (match itemAt i k s with
    | some x => (oE Φ e s).toO fun v s => sq κ (augO i op k x v s)
    | none => .no)
  | _ => .no
theorem x_augs (i : Nat) (ix : T) (op : Operator) (e : T) (s : S) : oX Φ (.augs i ix op e) s = match s[i]? with
    | some (some (.own _ _)) => (match oE Φ ix s with
      | .ok (.d (.int k)) s => (match itemAt i k s with
        | some x => (match oE Φ e s with
          | .ok v s => augO i op k x v s
          | .ex c fs s => .ex c fs s
          | .no => .no)
        | none => .no)
      | .ex c fs s => .ex c fs s
      | _ => .no)
    | _ => .no := by
  simp only [oX_eq, oE_eq]
  rfl
theorem tr_augs {i : Nat} {t : Bool} {xs : List D} {ix e : T} {op : Operator} (h : Γ[i]? = some (.own t xs)) (k : Tr G Γ m (fun s => (oE Φ ix s).toO (augsK Φ i op e κ))) : Tr G Γ m (fun s => sq κ (oX Φ (.augs i ix op e) s)) := .mk fun s hs => by
  obtain ⟨o, es, ok⟩ := hs.get h
  have ok : o = some (.own t xs) := ok
  subst ok
  show OutOk G m (sq κ (oX Φ (.augs i ix op e) s))
  have q : OutOk G m ((oE Φ ix s).toO (augsK Φ i op e κ)) := k s hs
  rw [x_augs, es]
  refine cast ?_ q
  congr 1
  dsimp only
  cases oE Φ ix s with
  | no => rfl
  | ex c fs s1 => rfl
  | ok v s1 =>
    show augsK Φ i op e κ v s1 = _
    unfold augsK
    split
    · dsimp only
      cases itemAt i _ s1 with
      | none => rfl
      | some x =>
        dsimp only
        cases oE Φ e s1 <;> rfl
    · rename_i nv
      cases v with
      | d y => cases y <;> first | rfl | exact absurd rfl (nv _)
      | own _ _ => rfl
      | fz _ => rfl
theorem tr_augsI {i : Nat} {t : Bool} {xs : List Int} {k : Int} {e : T} {op : Operator} {km : Int → M α} (h : Γ[i]? = some (.own t (xs.map eI))) (hk : ∀ x, Tr G Γ (km x) (fun s => (oE Φ e s).toO (augsF i op k x κ))) : Tr G Γ ((M.at0 xs k).bind km) (augsK Φ i op e κ (.d (.int k))) := .mk fun s hs => by
  obtain ⟨o, es, ok⟩ := hs.get h
  have ok : o = some (.own t (xs.map eI)) := ok
  subst ok
  unfold augsK itemAt
  dsimp only
  rw [es]
  dsimp only
  unfold M.at0
  by_cases q : decide (0 ≤ k) = true
  · rw [if_pos q, if_pos q, List.getElem?_map]
    cases xs[k.toNat]? with
    | none => trivial
    | some x => exact hk x s hs
  · rw [if_neg q]
    trivial
theorem augs_end {i : Nat} {t : Bool} {xs : List Int} {k z : Int} {km : List Int → M α} {op : Operator} {x y : Int} (ha : augD op (.int x) (.int y) = some (.int z)) (h : Γ[i]? = some (.own t (xs.map eI))) (hk : ∀ zs, Tr G (Γ.set i (.own t (zs.map eI))) (km zs) κ) : Tr G Γ ((M.setAt xs k z).bind km) (augsF i op k x κ (.d (.int y))) := .mk fun s hs => by
  obtain ⟨o, es, ok⟩ := hs.get h
  have ok : o = some (.own t (xs.map eI)) := ok
  subst ok
  unfold augsF augO
  have hd : (Vl.d (.int y)).dat = .int y := rfl
  rw [hd, ha, es]
  dsimp only
  unfold M.setAt
  rw [List.length_map]
  by_cases q : (decide (0 ≤ k) && decide (k.toNat < xs.length)) = true
  · rw [if_pos q, if_pos q]
    have := hk (xs.set k.toNat z) (s.set i (some (.own t ((xs.set k.toNat z).map eI)))) (hs.set i rfl)
    rw [List.map_set] at this
    exact this
  · rw [if_neg q, if_neg q]
    trivial
theorem tr_augsA {i : Nat} {t : Bool} {xs : List Int} {k x y : Int} {km : List Int → M α} (h : Γ[i]? = some (.own t (xs.map eI))) (hk : ∀ zs, Tr G (Γ.set i (.own t (zs.map eI))) (km zs) κ) : Tr G Γ ((M.setAt xs k (x + y)).bind km) (augsF i .Add k x κ (.d (.int y))) := augs_end rfl h hk
theorem tr_augsS {i : Nat} {t : Bool} {xs : List Int} {k x y : Int} {km : List Int → M α} (h : Γ[i]? = some (.own t (xs.map eI))) (hk : ∀ zs, Tr G (Γ.set i (.own t (zs.map eI))) (km zs) κ) : Tr G Γ ((M.setAt xs k (x - y)).bind km) (augsF i .Sub k x κ (.d (.int y))) := augs_end rfl h hk
end
end MK

set_option Elab.async false
set_option linter.all false
set_option maxRecDepth 100000
set_option maxHeartbeats 4000000
/-! List displays of unlike items, compared. -/
namespace MK
open MI PySem
section
variable {α β γ δ : Type}
abbrev eH2 (e : α → D) (g : β → D) (p : α × β) : D := .lst [e (p.1), g (p.2)]
theorem eqp_H2 {e : α → D} {g : β → D} {n k : Nat} (He : EqP e n) (Hg : EqP g k) : EqP (eH2 e g) (max n (k) + 1) := by
  obtain ⟨py, h1, h2, h3, h4⟩ := He.ex
  obtain ⟨qy, g1, g2, g3, g4⟩ := Hg.ex
  refine ⟨fun p => .list [py (p.1), qy (p.2)], fun x => ?_, fun x => ?_, fun x => ?_, fun x y => ?_⟩
  · show (toPys [e (x.1), g (x.2)]).map PyData.list = _
    unfold toPys toPys toPys
    rw [h1, g1]
    rfl
  · show (PyData.canLay0 (py (x.1)) && (PyData.canLay0 (qy (x.2)) && true)) = true
    rw [h2, g2]; rfl
  · show (max (PyData.depth (py (x.1))) (max (PyData.depth (qy (x.2))) 0)) + 1 ≤ _
    have := h3 (x.1)
    have := g3 (x.2)
    omega
  · show (PyData.eqv (py (x.1)) (py (y.1)) && (PyData.eqv (qy (x.2)) (qy (y.2)) && true)) = true ↔ _
    rw [Bool.and_true, Bool.and_eq_true, h4, g4]
    constructor
    · rintro ⟨a, b⟩; exact Prod.ext a (b)
    · rintro rfl; exact ⟨rfl, rfl⟩
abbrev eH3 (e : α → D) (g : β → D) (h : γ → D) (p : α × β × γ) : D := .lst [e (p.1), g (p.2.1), h (p.2.2)]
theorem eqp_H3 {e : α → D} {g : β → D} {h : γ → D} {n k m : Nat} (He : EqP e n) (Hg : EqP g k) (Hh : EqP h m) : EqP (eH3 e g h) (max n (max k (m)) + 1) := by
  obtain ⟨py, h1, h2, h3, h4⟩ := He.ex
  obtain ⟨qy, g1, g2, g3, g4⟩ := Hg.ex
  obtain ⟨ry, k1, k2, k3, k4⟩ := Hh.ex
  refine ⟨fun p => .list [py (p.1), qy (p.2.1), ry (p.2.2)], fun x => ?_, fun x => ?_, fun x => ?_, fun x y => ?_⟩
  · show (toPys [e (x.1), g (x.2.1), h (x.2.2)]).map PyData.list = _
    unfold toPys toPys toPys toPys
    rw [h1, g1, k1]
    rfl
  · show (PyData.canLay0 (py (x.1)) && (PyData.canLay0 (qy (x.2.1)) && (PyData.canLay0 (ry (x.2.2)) && true))) = true
    rw [h2, g2, k2]; rfl
  · show (max (PyData.depth (py (x.1))) (max (PyData.depth (qy (x.2.1))) (max (PyData.depth (ry (x.2.2))) 0))) + 1 ≤ _
    have := h3 (x.1)
    have := g3 (x.2.1)
    have := k3 (x.2.2)
    omega
  · show (PyData.eqv (py (x.1)) (py (y.1)) && (PyData.eqv (qy (x.2.1)) (qy (y.2.1)) && (PyData.eqv (ry (x.2.2)) (ry (y.2.2)) && true))) = true ↔ _
    rw [Bool.and_true, Bool.and_eq_true, Bool.and_eq_true, h4, g4, k4]
    constructor
    · rintro ⟨a, b, c⟩; exact Prod.ext a (Prod.ext b (c))
    · rintro rfl; exact ⟨rfl, rfl, rfl⟩
abbrev eH4 (e : α → D) (g : β → D) (h : γ → D) (l : δ → D) (p : α × β × γ × δ) : D := .lst [e (p.1), g (p.2.1), h (p.2.2.1), l (p.2.2.2)]
theorem eqp_H4 {e : α → D} {g : β → D} {h : γ → D} {l : δ → D} {n k m o : Nat} (He : EqP e n) (Hg : EqP g k) (Hh : EqP h m) (Hl : EqP l o) : EqP (eH4 e g h l) (max n (max k (max m (o))) + 1) := by
  obtain ⟨py, h1, h2, h3, h4⟩ := He.ex
  obtain ⟨qy, g1, g2, g3, g4⟩ := Hg.ex
  obtain ⟨ry, k1, k2, k3, k4⟩ := Hh.ex
  obtain ⟨sy, l1, l2, l3, l4⟩ := Hl.ex
  refine ⟨fun p => .list [py (p.1), qy (p.2.1), ry (p.2.2.1), sy (p.2.2.2)], fun x => ?_, fun x => ?_, fun x => ?_, fun x y => ?_⟩
  · show (toPys [e (x.1), g (x.2.1), h (x.2.2.1), l (x.2.2.2)]).map PyData.list = _
    unfold toPys toPys toPys toPys toPys
    rw [h1, g1, k1, l1]
    rfl
  · show (PyData.canLay0 (py (x.1)) && (PyData.canLay0 (qy (x.2.1)) && (PyData.canLay0 (ry (x.2.2.1)) && (PyData.canLay0 (sy (x.2.2.2)) && true)))) = true
    rw [h2, g2, k2, l2]; rfl
  · show (max (PyData.depth (py (x.1))) (max (PyData.depth (qy (x.2.1))) (max (PyData.depth (ry (x.2.2.1))) (max (PyData.depth (sy (x.2.2.2))) 0)))) + 1 ≤ _
    have := h3 (x.1)
    have := g3 (x.2.1)
    have := k3 (x.2.2.1)
    have := l3 (x.2.2.2)
    omega
  · show (PyData.eqv (py (x.1)) (py (y.1)) && (PyData.eqv (qy (x.2.1)) (qy (y.2.1)) && (PyData.eqv (ry (x.2.2.1)) (ry (y.2.2.1)) && (PyData.eqv (sy (x.2.2.2)) (sy (y.2.2.2)) && true)))) = true ↔ _
    rw [Bool.and_true, Bool.and_eq_true, Bool.and_eq_true, Bool.and_eq_true, h4, g4, k4, l4]
    constructor
    · rintro ⟨a, b, c, d⟩; exact Prod.ext a (Prod.ext b (Prod.ext c (d)))
    · rintro rfl; exact ⟨rfl, rfl, rfl, rfl⟩
end
end MK

set_option Elab.async false
set_option linter.all false
set_option maxRecDepth 100000
set_option maxHeartbeats 4000000
/-! What a plain reading gives: Sat m P (m ends with a value, of which P holds). -/
namespace MK
open MI
inductive F2 {α β : Type} (R : α → β → Prop) : List α → List β → Prop where
  | nil : F2 R [] []
  | cons {x : α} {y : β} {xs : List α} {ys : List β} (h : R x y) (t : F2 R xs ys) : F2 R (x :: xs) (y :: ys)
def Sat {α : Type} (m : M α) (P : α → Prop) : Prop := ∃ a, m = .ok a ∧ P a
namespace Sat
variable {α β σ ρ : Type} {m : M α} {P Q : α → Prop}
theorem ok {a : α} (h : P a) : Sat (.ok a) P := ⟨a, rfl, h⟩
theorem of {a : α} (e : m = .ok a) (h : P a) : Sat m P := ⟨a, e, h⟩
theorem eq {a : α} (e : m = .ok a) : Sat m (· = a) := ⟨a, e, rfl⟩
theorem toEq {a : α} (h : Sat m (· = a)) : m = .ok a := by
  obtain ⟨b, e, rfl⟩ := h
  exact e
theorem mono (h : Sat m P) (k : ∀ a, P a → Q a) : Sat m Q := by
  obtain ⟨a, e, p⟩ := h
  exact ⟨a, e, k a p⟩
theorem bind {k : α → M β} {R : β → Prop} (h : Sat m P) (hk : ∀ a, P a → Sat (k a) R) : Sat (m.bind k) R := by
  obtain ⟨a, rfl, p⟩ := h
  exact hk a p
theorem bindEq {k : α → M β} {R : β → Prop} {a : α} (e : m = .ok a) (hk : Sat (k a) R) : Sat (m.bind k) R := by
  subst e
  exact hk
theorem lt {x : α} {k : α → M β} {R : β → Prop} (h : Sat (k x) R) : Sat (M.lt x k) R := h
theorem ite {c : Prop} [Decidable c] {a b : M α} (ha : c → Sat a P) (hb : ¬ c → Sat b P) : Sat (if c then a else b) P := by
  by_cases h : c
  · rw [if_pos h]; exact ha h
  · rw [if_neg h]; exact hb h
theorem iteT {c : Prop} [Decidable c] {a b : M α} (h : c) (ha : Sat a P) : Sat (if c then a else b) P := by rw [if_pos h]; exact ha
theorem iteF {c : Prop} [Decidable c] {a b : M α} (h : ¬ c) (hb : Sat b P) : Sat (if c then a else b) P := by rw [if_neg h]; exact hb

/-! operations -/
theorem mulL {x y : Int} (h : x.natAbs < 18446744073709551616) : M.mul x y = .ok (x * y) := by
  unfold M.mul mulOk
  rw [decide_eq_true (p := x.natAbs < W64) (by rw [W64_eq]; exact h)]
  rfl
theorem mulR {x y : Int} (h : y.natAbs < 18446744073709551616) : M.mul x y = .ok (x * y) := by
  unfold M.mul mulOk
  rw [decide_eq_true (p := y.natAbs < W64) (by rw [W64_eq]; exact h), Bool.or_true]
  rfl
theorem w64_w4 : W64 ≤ W4 := by
  unfold W64 W4
  exact Nat.pow_le_pow_right (by decide) (by decide)
theorem div {x y : Int} (h : 0 < y) (h2 : y < 18446744073709551616) : M.div x y = .ok (x / y) := by
  unfold M.div divOk
  have a : y.natAbs < W4 := Nat.lt_of_lt_of_le (by rw [W64_eq]; omega) w64_w4
  rw [decide_eq_true (p := y ≠ 0) (by omega), decide_eq_true (p := y.natAbs < W4) a, pdiv_pos h]
  rfl
theorem mod {x y : Int} (h : 0 < y) : M.mod x y = .ok (x % y) := by
  unfold M.mod
  rw [if_neg (by omega), pmod_pos h]
theorem divmod {x y : Int} (h : 0 < y) (h2 : y < 18446744073709551616) : M.divmod x y = .ok (x / y, x % y) := by
  unfold M.divmod
  have a : y.natAbs < W4 := Nat.lt_of_lt_of_le (by rw [W64_eq]; omega) w64_w4
  rw [decide_eq_true h, decide_eq_true a]
  rfl
theorem fits {n : Nat} (h : n ≤ 16777216) : fitsL n = true := decide_eq_true h
theorem cat {xs ys : List α} (h : xs.length + ys.length ≤ 16777216) : M.cat xs ys = .ok (xs ++ ys) := if_pos (fits h)
theorem app {xs : List α} {x : α} (h : xs.length < 16777216) : M.app xs x = .ok (xs ++ [x]) := if_pos (fits h)
theorem fit {xs : List α} (h : xs.length ≤ 16777216) : M.fit xs = .ok xs := if_pos (fits h)
theorem rep {xs : List α} {k : Int} (h0 : -9223372036854775808 ≤ k) (h1 : k < 9223372036854775808) (h : xs.length * k.toNat ≤ 16777216) : M.rep xs k = .ok (List.replicate k.toNat xs).flatten := by
  unfold M.rep
  rw [decide_eq_true (p := -(2 ^ 63) ≤ k) (by omega), decide_eq_true (p := k < 2 ^ 63) (by omega), fits h]
  rfl
theorem idx {xs : List α} {i : Int} {x : α} (h : 0 ≤ i) (e : xs[i.toNat]? = some x) : M.idx xs i = .ok x := by
  unfold M.idx M.atO
  rw [if_pos h, e]
  rfl
theorem idxN {xs : List α} {i : Nat} {x : α} (e : xs[i]? = some x) : M.idx xs (i : Int) = .ok x := idx (by omega) (by simpa using e)
theorem idx0 {xs : List α} {i : Int} (h : 0 ≤ i) (h2 : i.toNat < xs.length) : M.idx xs i = .ok (xs[i.toNat]'h2) := idx h (List.getElem?_eq_getElem h2)
/-- xs[-1] -/
theorem last {xs : List α} {x : α} (e : xs.getLast? = some x) : M.idx xs (-1) = .ok x := by
  unfold M.idx M.atO
  have hl : 0 < xs.length := by
    cases xs with
    | nil => cases e
    | cons a r => exact Nat.zero_lt_succ _
  rw [if_neg (by omega), if_pos (by omega)]
  have : ((-1 : Int) + xs.length).toNat = xs.length - 1 := by omega
  rw [this, ← List.getLast?_eq_getElem?, e]
  rfl
theorem setAt {xs : List α} {i : Int} {x : α} (h : 0 ≤ i) (h2 : i.toNat < xs.length) : M.setAt xs i x = .ok (xs.set i.toNat x) := by
  unfold M.setAt
  rw [decide_eq_true h, decide_eq_true h2]
  rfl
theorem pop {xs : List α} (h : xs ≠ []) : M.pop xs = .ok xs.dropLast := by
  unfold M.pop
  cases xs with
  | nil => exact absurd rfl h
  | cons a r => rfl
theorem range1 {j : Int} (h : -4611686018427387904 ≤ j) (h2 : j < 4611686018427387904) : M.range1 j = .ok (rngL 0 j.toNat) := by
  unfold M.range1
  have : in62 j = true := by
    unfold in62
    rw [decide_eq_true (p := -(2 ^ 62) ≤ j) (by omega), decide_eq_true (p := j < 2 ^ 62) (by omega)]
    rfl
  rw [if_pos this]
theorem range {i j : Int} (h : -4611686018427387904 ≤ i) (h2 : i < 4611686018427387904) (h3 : -4611686018427387904 ≤ j) (h4 : j < 4611686018427387904) : M.range i j = .ok (rngL i (j - i).toNat) := by
  unfold M.range
  have a : in62 i = true := by
    unfold in62
    rw [decide_eq_true (p := -(2 ^ 62) ≤ i) (by omega), decide_eq_true (p := i < 2 ^ 62) (by omega)]
    rfl
  have b : in62 j = true := by
    unfold in62
    rw [decide_eq_true (p := -(2 ^ 62) ≤ j) (by omega), decide_eq_true (p := j < 2 ^ 62) (by omega)]
    rfl
  rw [a, b]
  rfl
/-- n - 1, n - 2, .., 0 -/
theorem rangeDown {n : Nat} (h : n < 4611686018427387904) : M.range3 ((n : Int) - 1) (-1) (-1) = .ok ((List.range n).reverse.map fun (k : Nat) => (k : Int)) := by
  unfold M.range3 rg3Ok
  have s : PySem.Builtin.Range.small ((n : Int) - 1) (-1) (-1) = true := PySem.W.small_down (by omega) (by omega) (by omega) (by omega)
  have z : PySem.Builtin.Range.rangeSize ((n : Int) - 1) (-1) (-1) = (n : Int) := by
    rw [PySem.W.rangeSize_downNat]
    omega
  rw [s, z, decide_eq_true (p := (-1 : Int) ≠ 0) (by decide), decide_eq_true (p := (-1 : Int).natAbs < 1073741824) (by decide), decide_eq_true (p := (0 : Int) ≤ n) (by omega)]
  show M.ok (rngS ((n : Int) - 1) (-1) (n : Int).toNat) = _
  congr 1
  unfold rngS
  rw [Int.toNat_natCast]
  refine List.ext_getElem (by simp) fun i h1 h2 => ?_
  simp only [List.length_map, List.length_range] at h1
  rw [List.getElem_map, List.getElem_map, List.getElem_reverse, List.getElem_range, List.getElem_range, List.length_range]
  omega

/-! loops -/
/-- a loop that a plain function describes -/
theorem foldEq {f : σ → α → M σ} {g : σ → α → σ} {I : σ → Prop} : ∀ {xs : List α} {s : σ}, I s → (∀ s x, x ∈ xs → I s → f s x = .ok (g s x) ∧ I (g s x)) → M.fold f s xs = .ok (xs.foldl g s)
  | [], s, _, _ => rfl
  | x :: r, s, i, h => by
    obtain ⟨e, i'⟩ := h s x List.mem_cons_self i
    show (f s x).bind (fun s => M.fold f s r) = .ok (r.foldl g (g s x))
    rw [e]
    exact foldEq i' fun s y hy => h s y (List.mem_cons_of_mem _ hy)
/-- by what has been walked and what is left -/
theorem fold {f : σ → α → M σ} {I : List α → List α → σ → Prop} : ∀ {xs done : List α} {s : σ}, I done xs s → (∀ d x r s, done ++ xs = d ++ x :: r → I d (x :: r) s → Sat (f s x) (I (d ++ [x]) r)) → Sat (M.fold f s xs) (I (done ++ xs) [])
  | [], done, s, i, _ => ⟨s, rfl, by rw [List.append_nil]; exact i⟩
  | x :: r, done, s, i, h => by
    have e : done ++ x :: r = (done ++ [x]) ++ r := by simp
    show Sat ((f s x).bind fun s => M.fold f s r) _
    refine bind (h done x r s rfl i) fun s' i' => ?_
    rw [e]
    exact fold i' fun d y q s e2 => h d y q s (by rw [e]; exact e2)
theorem foldI {f : σ → α → M σ} {I : σ → Prop} : ∀ {xs : List α} {s : σ}, I s → (∀ s x, x ∈ xs → I s → Sat (f s x) I) → Sat (M.fold f s xs) I
  | [], s, i, _ => ⟨s, rfl, i⟩
  | x :: r, s, i, h => bind (h s x List.mem_cons_self i) fun s' i' => foldI i' fun s y hy => h s y (List.mem_cons_of_mem _ hy)
/-- a loop that may return, and does not -/
theorem loopI {f : σ → α → M (Ct σ ρ)} {I : σ → Prop} : ∀ {xs : List α} {s : σ}, I s → (∀ s x, x ∈ xs → I s → Sat (f s x) fun c => ∃ s', c = .nx s' ∧ I s') → Sat (M.loop f s xs) fun c => ∃ s', c = .nx s' ∧ I s'
  | [], s, i, _ => ⟨_, rfl, s, rfl, i⟩
  | x :: r, s, i, h => by
    show Sat ((f s x).bind _) _
    refine bind (h s x List.mem_cons_self i) fun c hc => ?_
    obtain ⟨s', rfl, i'⟩ := hc
    exact loopI i' fun s y hy => h s y (List.mem_cons_of_mem _ hy)
theorem whl {c : σ → M Bool} {f : σ → M σ} {I : σ → Prop} {P : σ → Prop} {μ : σ → Nat} (hc : ∀ s, I s → Sat (c s) fun b => if b then Sat (f s) (fun s' => I s' ∧ μ s' < μ s) else P s) : ∀ {n : Nat} {s : σ}, I s → μ s < n → Sat (M.whl c f n s) P
  | 0, s, _, h => absurd h (Nat.not_lt_zero _)
  | n + 1, s, i, h => by
    show Sat ((c s).bind fun b => if b then (f s).bind fun s => M.whl c f n s else .ok s) P
    refine bind (hc s i) fun b hb => ?_
    cases b with
    | false => exact ok (by simpa using hb)
    | true =>
      have hb : Sat (f s) (fun s' => I s' ∧ μ s' < μ s) := by simpa using hb
      exact bind hb fun s' i' => whl hc i'.1 (by omega)
theorem fuel {n : Nat} (h : n < 1000000000000) : n < FUEL := h
/-! comprehensions -/
theorem compL {f : σ → α → M (Option β × σ)} {I : σ → Prop} {R : α → Option β → Prop} : ∀ {xs : List α} {s : σ}, I s → (∀ s x, x ∈ xs → I s → Sat (f s x) fun p => I p.2 ∧ R x p.1) → Sat (M.compL f s xs) fun p => I p.2 ∧ ∃ os : List (Option β), F2 R xs os ∧ p.1 = os.filterMap id
  | [], s, i, _ => ⟨_, rfl, i, [], .nil, rfl⟩
  | x :: r, s, i, h => by
    show Sat (((f s x).nox).bind _) _
    obtain ⟨p, e, i', hr⟩ := h s x List.mem_cons_self i
    rw [e]
    show Sat ((M.compL f p.2 r).bind _) _
    refine bind (compL i' fun s y hy => h s y (List.mem_cons_of_mem _ hy)) fun q hq => ok ?_
    obtain ⟨i2, os, h1, h2⟩ := hq
    refine ⟨i2, p.1 :: os, .cons hr h1, ?_⟩
    cases p.1 with
    | none => exact h2
    | some y => show y :: q.1 = y :: _; rw [h2]
theorem mapL_eq {f : α → M β} {g : α → β} : ∀ {xs : List α}, (∀ x ∈ xs, f x = .ok (g x)) → M.compL (fun (_ : Unit) x => (f x).bind fun y => .ok (some y, ())) () xs = .ok (xs.map g, ())
  | [], _ => rfl
  | x :: r, h => by
    show ((((f x).bind fun y => .ok (some y, ())) : M (Option β × Unit)).nox).bind _ = _
    rw [h x List.mem_cons_self]
    show (M.compL _ () r).bind _ = _
    rw [mapL_eq fun y hy => h y (List.mem_cons_of_mem _ hy)]
    rfl
theorem mapC {f : α → M β} {g : α → β} {xs : List α} (h : ∀ x ∈ xs, f x = .ok (g x)) (hl : xs.length ≤ 16777216) : M.mapC f xs = .ok (xs.map g) := by
  unfold M.mapC M.comp
  rw [mapL_eq h]
  show ((if fitsL (xs.map g).length then .ok (xs.map g, ()) else .no : M (List β × Unit)).bind fun p => .ok p.1) = _
  rw [if_pos (fits (by simpa using hl))]
  rfl
theorem optL_eq {f : α → M (Option β)} {g : α → Option β} : ∀ {xs : List α}, (∀ x ∈ xs, f x = .ok (g x)) → M.compL (fun (_ : Unit) x => (f x).bind fun y => .ok (y, ())) () xs = .ok (xs.filterMap g, ())
  | [], _ => rfl
  | x :: r, h => by
    show ((((f x).bind fun y => .ok (y, ())) : M (Option β × Unit)).nox).bind _ = _
    rw [h x List.mem_cons_self]
    show (M.compL _ () r).bind _ = _
    rw [optL_eq fun y hy => h y (List.mem_cons_of_mem _ hy), List.filterMap_cons]
    show M.ok _ = _
    cases g x <;> rfl
theorem optC {f : α → M (Option β)} {g : α → Option β} {xs : List α} (h : ∀ x ∈ xs, f x = .ok (g x)) (hl : xs.length ≤ 16777216) : M.optC f xs = .ok (xs.filterMap g) := by
  unfold M.optC M.comp
  rw [optL_eq h]
  show ((if fitsL (xs.filterMap g).length then .ok (xs.filterMap g, ()) else .no : M (List β × Unit)).bind fun p => .ok p.1) = _
  rw [if_pos (fits (Nat.le_trans (List.length_filterMap_le _ _) hl))]
  rfl
theorem f2_len {R : α → β → Prop} {xs : List α} {ys : List β} (h : F2 R xs ys) : xs.length = ys.length := by
  induction h with
  | nil => rfl
  | cons _ _ ih => simp [ih]
/-- each item by a relation, the state by an invariant -/
theorem compS {f : σ → α → M (β × σ)} {I : σ → Prop} {R : α → β → Prop} {xs : List α} {s : σ} (i : I s) (h : ∀ s x, x ∈ xs → I s → Sat (f s x) fun p => I p.2 ∧ R x p.1) (hl : xs.length ≤ 16777216) : Sat (M.compS f s xs) fun p => I p.2 ∧ F2 R xs p.1 := by
  unfold M.compS M.comp
  refine bind (compL (I := I) (R := fun x o => ∃ y, o = some y ∧ R x y) i fun s x hx hi => bind (h s x hx hi) fun p hp => ok ⟨hp.1, p.1, rfl, hp.2⟩) fun p hp => ?_
  obtain ⟨h1, os, h2, h3⟩ := hp
  have key : ∀ {xs : List α} {os : List (Option β)}, F2 (fun x o => ∃ y, o = some y ∧ R x y) xs os → F2 R xs (os.filterMap id) := fun {xs os} h => by
    induction h with
    | nil => exact .nil
    | cons hr _ ih =>
      obtain ⟨y, rfl, r⟩ := hr
      exact .cons r ih
  have k := key h2
  rw [← h3] at k
  refine iteT (fits (by rw [← f2_len k]; exact hl)) (ok ⟨h1, k⟩)
theorem cut_last (xs : List α) : M.cutO xs none (some (-1)) = xs.dropLast := by
  unfold M.cutO clip
  dsimp only
  rw [if_pos (by decide), List.dropLast_eq_take, List.drop_zero]
  congr 1
  omega
theorem cut_none (xs : List α) (n : Nat) : M.cutO xs none (some (n : Int)) = xs.take n := by
  unfold M.cutO clip
  dsimp only
  rw [if_neg (by omega), List.drop_zero, Int.toNat_natCast]
  by_cases h : n ≤ xs.length
  · rw [Nat.min_eq_left h]; rfl
  · rw [Nat.min_eq_right (by omega), List.take_of_length_le (by omega), List.take_of_length_le (by omega)]
theorem cut_from (xs : List α) (n : Nat) : M.cutO xs (some (n : Int)) none = xs.drop n := by
  unfold M.cutO clip
  dsimp only
  rw [if_neg (by omega), Int.toNat_natCast]
  by_cases h : n ≤ xs.length
  · rw [Nat.min_eq_left h, List.take_of_length_le (by rw [List.length_drop]; omega)]
  · rw [Nat.min_eq_right (by omega), List.drop_of_length_le (by omega), List.drop_of_length_le (by omega), List.take_nil]
end Sat
end MK

set_option Elab.async false
set_option linter.all false
set_option maxRecDepth 100000
set_option maxHeartbeats 4000000
/-! repr of what is not too long -/
namespace MK
open MI PySem
def Ps (p : PyData) (w k : Nat) : Prop := p.showable = true ∧ p.hasDict = false ∧ p.depth ≤ k ∧ p.weight ≤ w ∧ p.leavesShort 1901 = true
def Shw (x : D) (w k : Nat) : Prop := ∃ p, toPy x = some p ∧ Ps p w k
def Psl (p : List PyData) (w k : Nat) : Prop := PyData.showableAll p = true ∧ PyData.hasDictAll p = false ∧ PyData.depthAll p ≤ k ∧ PyData.weightAll p ≤ w ∧ PyData.leavesShortAll 1901 p = true
theorem shw_none : Shw .non 0 0 := ⟨.none, rfl, rfl, rfl, Nat.le_refl _, Nat.le_refl _, by decide⟩
theorem shw_bl (b : Bool) : Shw (.bl b) 0 0 := ⟨.bool b, rfl, rfl, rfl, Nat.le_refl _, Nat.le_refl _, by cases b <;> decide⟩
theorem shw_int {n : Int} (h : n.natAbs < 2 ^ 1900) : Shw (.int n) 1901 0 := by
  have l := PySem.Flt.log2_lt_of (by decide) h
  refine ⟨.int n, rfl, decide_eq_true (Nat.lt_trans l (by decide)), rfl, Nat.le_refl _, ?_, ?_⟩
  · show (if n == 0 then 0 else n.natAbs.log2 + 1) ≤ 1901
    split <;> omega
  · refine decide_eq_true ?_
    have e := int_text_length_le (a := n) (k := 1900) (by decide) l
    show (Str.ofString (toString n)).length ≤ 1901
    rw [ofString_length]
    exact e
theorem Shw.mono {x : D} {w k w' k' : Nat} (h : Shw x w k) (hw : w ≤ w') (hk : k ≤ k') : Shw x w' k' := by
  obtain ⟨p, a, b, c, d, e, f⟩ := h
  exact ⟨p, a, b, c, Nat.le_trans d hk, Nat.le_trans e hw, f⟩
theorem shw_all {w k : Nat} : ∀ xs : List D, (∀ x ∈ xs, Shw x w k) → ∃ ps, toPys xs = some ps ∧ Psl ps (xs.length * (w + 1)) k
  | [], _ => ⟨[], rfl, rfl, rfl, Nat.zero_le _, Nat.zero_le _, rfl⟩
  | x :: xs, h => by
    obtain ⟨p, e, a, b, c, d, f⟩ := h x List.mem_cons_self
    obtain ⟨ps, es, as, bs, cs, ds, fs⟩ := shw_all xs fun y hy => h y (List.mem_cons_of_mem _ hy)
    refine ⟨p :: ps, ?_, ?_, ?_, ?_, ?_, ?_⟩
    · show (match toPy x, toPys xs with
        | some d, some ds => some (d :: ds)
        | _, _ => none) = _
      rw [e, es]
    · show (PyData.showable p && PyData.showableAll ps) = true
      rw [a, as]; rfl
    · show (PyData.hasDict p || PyData.hasDictAll ps) = false
      rw [b, bs]; rfl
    · show max (PyData.depth p) (PyData.depthAll ps) ≤ k
      omega
    · show p.weight + 1 + PyData.weightAll ps ≤ (xs.length + 1) * (w + 1)
      rw [Nat.add_mul]
      omega
    · show (PyData.leavesShort 1901 p && PyData.leavesShortAll 1901 ps) = true
      rw [f, fs]; rfl
theorem shw_lst {xs : List D} {w k : Nat} (h : ∀ x ∈ xs, Shw x w k) : Shw (.lst xs) (xs.length * (w + 1)) (k + 1) := by
  obtain ⟨ps, es, as, bs, cs, ds, fs⟩ := shw_all xs h
  refine ⟨.list ps, ?_, as, bs, ?_, ds, fs⟩
  · show (toPys xs).map PyData.list = _
    rw [es]; rfl
  · show PyData.depthAll ps + 1 ≤ k + 1
    omega
theorem shw_tup {xs : List D} {w k : Nat} (h : ∀ x ∈ xs, Shw x w k) : Shw (.tup xs) (xs.length * (w + 1)) (k + 1) := by
  obtain ⟨ps, es, as, bs, cs, ds, fs⟩ := shw_all xs h
  refine ⟨.tuple ps, ?_, as, bs, ?_, ds, fs⟩
  · show (toPys xs).map PyData.tuple = _
    rw [es]; rfl
  · show PyData.depthAll ps + 1 ≤ k + 1
    omega
theorem shw_opt {o : Option Int} (h : ∀ n, o = some n → n.natAbs < 2 ^ 1900) : Shw (eO eI o) 1901 0 := by
  cases o with
  | none => exact shw_none.mono (by decide) (Nat.le_refl _)
  | some n => exact shw_int (h n rfl)
theorem shw_ints {l : List Int} (h : ∀ n ∈ l, n.natAbs < 2 ^ 1900) : ∀ x ∈ l.map eI, Shw x 1901 0 := fun x hx => by
  obtain ⟨n, hn, rfl⟩ := List.mem_map.mp hx
  exact shw_int (h n hn)
theorem repr_ok {x : D} {w k : Nat} (h : Shw x w k) (hw : w ≤ 8000) (hk : k ≤ 64) : ∃ s, M.repr x = .ok s := by
  obtain ⟨p, e, a, b, c, d, f⟩ := h
  have sl := PyData.shown_le 1901 (by decide) p f
  have g : (p.showable && !p.hasDict && decide (p.depth ≤ 64) && fitsL p.shown.length) = true := by
    rw [a, b, decide_eq_true (Nat.le_trans c hk)]
    refine decide_eq_true ?_
    have : (1901 + 2) * p.weight ≤ 1903 * 8000 := Nat.mul_le_mul (by decide) (by omega)
    omega
  refine ⟨p.shown, ?_⟩
  unfold M.repr
  have : bf1 .repr [x] = some (.d (.str p.shown)) := by
    show (match toPy x with
      | some d => if d.showable && !d.hasDict && decide (d.depth ≤ 64) && fitsL d.shown.length then some (Vl.d (.str d.shown)) else none
      | none => none) = _
    rw [e]
    dsimp only
    rw [g]
    rfl
  rw [this]
end MK

set_option Elab.async false
set_option linter.all false
set_option maxRecDepth 100000
namespace LB
open MI MK
def f_is_integer (value : Int) : M Bool := .ok true
def f_is_between (value : Int) (least : Int) (most : Int) : M Bool := ((f_is_integer value).bind fun r => if r then .ok ((decide (least ≤ value)) && (decide (value ≤ most))) else .ok false : M Bool).bind fun v => .ok v
def f_is_fact (value : (Int × Int)) : M Bool := (((f_is_between value.2 (1 : Int) (1000000000000000000000000000000 : Int)).bind fun r => .ok (!r) : M Bool).bind fun v1 => .ok v1 : M Bool).bind fun v => if v then .ok false else (f_is_between value.1 (0 : Int) (value.2 - 1)).bind fun r1 => .ok r1
def f_facts_fault (value : (List (Int × Int))) (most : Int) : M Int := (M.loop (fun (_ : Unit) ((index, fact) : (Int × (Int × Int))) => ((if (decide (index = most)) then .ok true else (f_is_fact fact).bind fun r => .ok (!r) : M Bool).bind fun v => if v then .ok (.rt index) else .ok (.nx ()) : M (Ct Unit Int))) (() : Unit) (enumI 0 value)).bind (M.fl (fun (_ : Unit) => .ok (-1)) (fun r => .ok r))
def f_check_lamps (value : (List (Int × Int))) : M Unit := (f_facts_fault value (12 : Int)).bind fun r => if (!decide (r = (-1))) then M.no else .ok ()
def f_check_between (value : Int) (least : Int) (most : Int) : M Unit := (f_is_between value least most).bind fun r => if (!r) then M.no else .ok ()
def f_common_of (one : Int) (other : Int) : M Int := (M.whl (fun ((one1, other1) : (Int × Int)) => .ok (decide (0 < other1))) (fun ((one1, other1) : (Int × Int)) => (M.mod one1 other1).bind fun z => .ok (other1, z)) FUEL (((one.natAbs : Int), (other.natAbs : Int)) : (Int × Int))).bind fun (one2, other2) => .ok one2
def f_multiple_of (one : Int) (other : Int) : M Int := (if ((!decide (one = 0)) && (!decide (other = 0))) then (M.mul one other).bind fun z => (f_common_of one other).bind fun r => (M.div (z.natAbs : Int) r).bind fun z1 => .ok z1 else .ok 0 : M Int).bind fun v => .ok v
def f_whole_base (lamps : (List (Int × Int))) : M Int := (M.fold (fun (found : Int) ((rest, base) : (Int × Int)) => (f_multiple_of found base).bind fun r => .ok r) (1 : Int) lamps).bind fun found1 => .ok found1
def f_do_quarrel (one : (Int × Int)) (other : (Int × Int)) : M Bool := (f_common_of one.2 other.2).bind fun r => (M.mod (one.1 - other.1) r).bind fun z => .ok (!decide (z = 0))
def f_combined_of (one : Int) (other : Int) : M (Int × Int) := (M.whl (fun ((left, right, first, second) : (Int × Int × (Int × Int) × (Int × Int))) => .ok (!decide (right = 0))) (fun ((left, right, first, second) : (Int × Int × (Int × Int) × (Int × Int))) => (M.div left right).bind fun z => (M.mul z right).bind fun z1 => (M.mul z second.1).bind fun z2 => (M.mul z second.2).bind fun z3 => .ok (right, (left - z1), second, ((first.1 - z2), (first.2 - z3)))) FUEL ((one, other, (1, 0), (0, 1)) : (Int × Int × (Int × Int) × (Int × Int)))).bind fun (left1, right1, first1, second1) => .ok (if (decide (0 ≤ left1)) then first1 else ((-first1.1), (-first1.2)))
def f_back_of (number : Int) (base : Int) : M Int := (M.mod number base).bind fun z => (f_combined_of z base).bind fun r => (M.mod r.1 base).bind fun z1 => .ok z1
def f_put_together (one : (Int × Int)) (other : (Int × Int)) : M (Int × Int) := (f_common_of one.2 other.2).bind fun r => (M.div (other.1 - one.1) r).bind fun z => (M.div one.2 r).bind fun z1 => (M.div other.2 r).bind fun z2 => (f_back_of z1 z2).bind fun r1 => (M.mul z r1).bind fun z3 => (M.div other.2 r).bind fun z4 => (M.mod z3 z4).bind fun z5 => (M.div one.2 r).bind fun z6 => (M.mul z6 other.2).bind fun z7 => (M.mul one.2 z5).bind fun z8 => (M.mod (one.1 + z8) z7).bind fun z9 => .ok (z9, z7)
def f_terms_of (lamps : (List (Int × Int))) : M (List (Int × (Int × Int))) := M.lt ([(0, (0, 1))] : (List (Int × (Int × Int)))) fun found => (M.fold (fun (found1 : (List (Int × (Int × Int)))) (lamp : (Int × Int)) => (M.optC (fun ((many, fact) : (Int × (Int × Int))) => ((f_do_quarrel fact lamp).bind fun r => if (!r) then (f_put_together fact lamp).bind fun r1 => .ok (some ((many + 1), r1)) else .ok none : M (Option (Int × (Int × Int))))) found1).bind fun ys => (M.cat found1 ys).bind fun zs => .ok zs) (found : (List (Int × (Int × Int)))) lamps).bind fun found2 => .ok found2
def f_sign_of (many : Int) : M Int := .ok (1 - (2 * (many % 2)))
def f_chosen (many : Int) (some : Int) : M Int := (M.range1 some).bind fun ns => (M.fold (fun (found : Int) (step : Int) => (M.mul found (many - step)).bind fun z => (M.div z (step + 1)).bind fun z1 => .ok z1) (1 : Int) ns).bind fun found1 => .ok found1
def f_lowest (top : Int) (bottom : Int) : M (Int × Int) := (f_common_of top bottom).bind fun r => (M.div top r).bind fun z => (M.div bottom r).bind fun z1 => .ok (z, z1)
def f_share_lit (lamps : (List (Int × Int))) (many : Int) : M (Int × Int) := (f_check_lamps lamps).bind fun r => (f_check_between many (0 : Int) (12 : Int)).bind fun r1 => (f_whole_base lamps).bind fun r2 => (f_terms_of lamps).bind fun r3 => (M.fold (fun (found : Int) ((size, fact) : (Int × (Int × Int))) => if (decide (many ≤ size)) then (f_sign_of (size - many)).bind fun r4 => (f_chosen size many).bind fun r5 => (M.mul r4 r5).bind fun z => (M.div r2 fact.2).bind fun z1 => (M.mul z z1).bind fun z2 => M.lt (found + z2) fun found2 => .ok found2 else .ok found) (0 : Int) r3).bind fun found1 => (f_lowest found1 r2).bind fun r6 => .ok r6
def f_count_of (fact : (Int × Int)) (low : Int) (high : Int) : M Int := (M.div (high - fact.1) fact.2).bind fun z => (M.div ((low - 1) - fact.1) fact.2).bind fun z1 => .ok (z - z1)
def f_dark_between (terms : (List (Int × (Int × Int)))) (low : Int) (high : Int) : M Int := (M.mapC (fun ((many, fact) : (Int × (Int × Int))) => ((f_sign_of many).bind fun r => (f_count_of fact low high).bind fun r1 => (M.mul r r1).bind fun z => .ok z : M Int)) terms).bind fun ys => .ok ys.sum
def f_dark_share (lamps : (List (Int × Int))) : M (Int × Int) := (f_check_lamps lamps).bind fun r => (f_whole_base lamps).bind fun r1 => (f_terms_of lamps).bind fun r2 => (f_dark_between r2 (0 : Int) (r1 - 1)).bind fun r3 => (f_lowest r3 r1).bind fun r4 => .ok r4
def f_check_facts (value : (List (Int × Int))) : M Unit := (f_facts_fault value (40 : Int)).bind fun r => if (!decide (r = (-1))) then M.no else .ok ()
def f_check_number (value : Int) : M Unit := (f_check_between value ((-10000000000000000000000000000000000000000) : Int) (10000000000000000000000000000000000000000 : Int)).bind fun r => .ok ()
def f_check_span (low : Int) (high : Int) : M Unit := (f_check_number low).bind fun r => (f_check_between high low (10000000000000000000000000000000000000000 : Int)).bind fun r1 => .ok ()
def f_joined_of (facts : (List (Int × Int))) : M (Option (Int × Int)) := M.lt (0, 1) fun found => (M.loop (fun (found1 : (Int × Int)) (fact : (Int × Int)) => ((f_do_quarrel found1 fact).bind fun r => if r then .ok (.rt none) else (f_put_together found1 fact).bind fun r1 => .ok (.nx r1) : M (Ct (Int × Int) (Option (Int × Int))))) (found : (Int × Int)) facts).bind (M.fl (fun (found2 : (Int × Int)) => .ok (some found2)) (fun r => .ok r))
def f_check_index (value : Int) : M Unit := (f_is_between value (0 : Int) (10000000000000000000000000000000000000000 : Int)).bind fun r => if (!r) then M.no else .ok ()
def f_first_from (fact : (Int × Int)) (number : Int) : M Int := (M.mod (fact.1 - number) fact.2).bind fun z => .ok (number + z)
def f_does_fit (fact : (Int × Int)) (number : Int) : M Bool := (M.mod (number - fact.1) fact.2).bind fun z => .ok (decide (z = 0))
def f_fits (facts : (List (Int × Int))) (number : Int) : M Bool := (f_check_facts facts).bind fun r => (f_check_number number).bind fun r1 => (M.mapC (fun (fact : (Int × Int)) => ((f_does_fit fact number).bind fun r2 => .ok r2 : M Bool)) facts).bind fun ys => .ok (ys.all id)
end LB

set_option Elab.async false
set_option linter.all false
set_option maxRecDepth 100000
set_option maxHeartbeats 4000000
/-! Whole numbers: the greatest common divisor, what leads back, facts put together. -/
namespace LB
open MK MI
/-- bounds by bits -/
theorem two_pow_le {a b : Nat} (h : a ≤ b) : 2 ^ a ≤ 2 ^ b := Nat.pow_le_pow_right (by decide) h
/-- how many turns Euclid takes -/
def es (a b : Nat) : Nat := if h : b = 0 then 0 else es b (a % b) + 1
termination_by b
decreasing_by exact Nat.mod_lt _ (by omega)
theorem es_zero (a : Nat) : es a 0 = 0 := by rw [es]; simp
theorem es_pos {a b : Nat} (h : b ≠ 0) : es a b = es b (a % b) + 1 := by rw [es]; simp [h]
theorem es_le : ∀ (k a b : Nat), b < 2 ^ k → es a b ≤ 2 * k
  | 0, a, b, h => by
    have : b = 0 := by simpa using h
    rw [this, es_zero]
    omega
  | k + 1, a, b, h => by
    by_cases h0 : b = 0
    · rw [h0, es_zero]; omega
    · rw [es_pos h0]
      by_cases h1 : a % b = 0
      · rw [h1, es_zero]; omega
      · rw [es_pos h1]
        have hr : a % b < b := Nat.mod_lt _ (by omega)
        have h2 : b % (a % b) < 2 ^ k := by
          have e : b % (a % b) < a % b := Nat.mod_lt _ (by omega)
          have d := Nat.div_add_mod b (a % b)
          have q : 1 ≤ b / (a % b) := (Nat.one_le_div_iff (by omega)).mpr (by omega)
          have p : a % b * 1 ≤ a % b * (b / (a % b)) := Nat.mul_le_mul_left _ q
          rw [Nat.pow_succ] at h
          omega
        have := es_le k (a % b) (b % (a % b)) h2
        omega
theorem natAbs_emod {x y : Int} (hx : 0 ≤ x) (hy : 0 < y) : (x % y).natAbs = x.natAbs % y.natAbs := by
  obtain ⟨a, rfl⟩ := Int.eq_ofNat_of_zero_le hx
  obtain ⟨b, rfl⟩ := Int.eq_ofNat_of_zero_le (Int.le_of_lt hy)
  rfl
theorem common_of {a b : Int} (h : b.natAbs < WM) : f_common_of a b = .ok (Int.gcd a b : Int) := by
  unfold f_common_of
  refine Sat.toEq (Sat.bind (P := fun s => s.1 = (Int.gcd a b : Int)) (Sat.whl (I := fun s => 0 ≤ s.1 ∧ 0 ≤ s.2 ∧ Nat.gcd s.1.natAbs s.2.natAbs = Int.gcd a b) (μ := fun s => es s.1.natAbs s.2.natAbs) (fun s hs => ?_) ⟨by dsimp only; omega, by dsimp only; omega, rfl⟩ (Sat.fuel ?_)) fun s hs => ?_)
  · obtain ⟨x, y⟩ := s
    obtain ⟨hx, hy, hg⟩ := hs
    dsimp only at hx hy hg
    refine Sat.ok ?_
    by_cases h0 : 0 < y
    · rw [decide_eq_true h0, if_pos rfl]
      refine Sat.bindEq (Sat.mod h0) (Sat.ok ⟨⟨hy, Int.emod_nonneg _ (by omega), ?_⟩, ?_⟩)
      · dsimp only
        rw [natAbs_emod hx h0, ← hg, Nat.gcd_comm y.natAbs, ← Nat.gcd_rec, Nat.gcd_comm]
      · dsimp only
        rw [natAbs_emod hx h0, es_pos (a := x.natAbs) (b := y.natAbs) (by omega)]
        omega
    · rw [decide_eq_false h0, if_neg (by decide)]
      have : y = 0 := by omega
      subst this
      dsimp only
      have : x.natAbs = Int.gcd a b := by simpa using hg
      omega
  · have := es_le 100000 (a.natAbs : Int).natAbs (b.natAbs : Int).natAbs (by rw [Int.natAbs_natCast]; exact h)
    dsimp only
    omega
  · obtain ⟨x, y⟩ := s
    exact Sat.ok hs
theorem div' {x y : Int} (h : 0 < y) (h2 : y < (W4 : Int)) : M.div x y = .ok (x / y) := by
  unfold M.div divOk
  have a : y.natAbs < W4 := by omega
  rw [decide_eq_true (p := y ≠ 0) (by omega), decide_eq_true (p := y.natAbs < W4) a, pdiv_pos h]
  rfl
theorem mul' {x y : Int} (hx : x.natAbs < WM) (hy : y.natAbs < WM) : M.mul x y = .ok (x * y) := by
  unfold M.mul mulOk
  rw [decide_eq_true (p := x.natAbs < WM) hx, decide_eq_true (p := y.natAbs < WM) hy, Bool.true_and, Bool.or_true]
  rfl
theorem w4_wm : W4 < WM := Nat.pow_lt_pow_right (by decide) (by decide)
theorem w4_sq : (W4 + 2) * (W4 + 2) ≤ WM := by
  have h : W4 + 2 ≤ 2 ^ 4001 := by
    rw [Nat.pow_succ]
    have : 2 ≤ W4 := by
      have : (2 : Nat) ^ 1 ≤ 2 ^ 4000 := two_pow_le (by decide)
      exact this
    have e : (2 : Nat) ^ 4000 = W4 := rfl
    omega
  have := Nat.mul_le_mul h h
  rw [← Nat.pow_add] at this
  exact Nat.le_trans this (two_pow_le (by decide))
/-! what leads back -/
structure Cb (a b : Int) (s : Int × Int × (Int × Int) × (Int × Int)) : Prop where
  l0 : 0 ≤ s.1
  r0 : 0 ≤ s.2.1
  g : Nat.gcd s.1.natAbs s.2.1.natAbs = Int.gcd a b
  c : ∃ e u v p q : Int, (e = 1 ∨ e = -1) ∧ 0 ≤ u ∧ 0 ≤ v ∧ 0 ≤ p ∧ 0 ≤ q ∧ v ≤ b + 1 ∧ q ≤ a + 1 ∧ u ≤ b + 1 ∧ p ≤ a + 1 ∧ s.2.2.1 = (e * u, -e * p) ∧ s.2.2.2 = (-e * v, e * q) ∧ v * s.1 + u * s.2.1 = b ∧ q * s.1 + p * s.2.1 = a
  d : s.2.2.1.1 * a + s.2.2.1.2 * b = s.1
  d2 : s.2.2.2.1 * a + s.2.2.2.2 * b = s.2.1
  lb : s.1 < W4
  rb : s.2.1 < W4
theorem combined_of {a b : Int} (ha : 0 ≤ a) (hb : 0 ≤ b) (ha2 : a < W4) (hb2 : b < W4) : Sat (f_combined_of a b) fun p => p.1 * a + p.2 * b = (Int.gcd a b : Int) := by
  unfold f_combined_of
  have wm := w4_wm
  refine Sat.bind (P := fun s => s.2.2.1.1 * a + s.2.2.1.2 * b = (Int.gcd a b : Int) ∧ 0 ≤ s.1) (Sat.whl (I := Cb a b) (μ := fun s => es s.1.natAbs s.2.1.natAbs) (fun s hs => ?_) ⟨ha, hb, rfl, ⟨1, 1, 0, 0, 1, .inl rfl, by decide, by decide, by decide, by decide, by omega, by omega, by omega, by omega, rfl, rfl, by simp, by simp⟩, by simp, by simp, ha2, hb2⟩ (Sat.fuel ?_)) fun s hs => ?_
  · obtain ⟨l, r, f, s⟩ := s
    obtain ⟨l0, r0, g, ⟨e, u, v, p, q, he, u0, v0, p0, q0, vb, qa, ub, pa, ef, es', e1, e2⟩, d, d2, lb, rb⟩ := hs
    dsimp only at l0 r0 g e1 e2 d d2 lb rb ef es' ⊢
    refine Sat.ok ?_
    by_cases h0 : r = 0
    · subst h0
      rw [decide_eq_true rfl, Bool.not_true, if_neg (by decide)]
      refine ⟨?_, l0⟩
      rw [d]
      have : l.natAbs = Int.gcd a b := by simpa using g
      omega
    · rw [decide_eq_false h0, Bool.not_false, if_pos rfl]
      have rp : 0 < r := by omega
      have z0 : 0 ≤ l / r := Int.ediv_nonneg l0 r0
      have zl : l / r ≤ l := Int.ediv_le_self _ l0
      have dm : r * (l / r) + l % r = l := Int.mul_ediv_add_emod l r
      have m0 : 0 ≤ l % r := Int.emod_nonneg _ (by omega)
      have m1 : l % r < r := Int.emod_lt_of_pos _ rp
      have lr : l - l / r * r = l % r := by rw [Int.mul_comm]; omega
      obtain ⟨z, hz⟩ : ∃ z, z = l / r := ⟨_, rfl⟩
      obtain ⟨m, hm⟩ : ∃ m, m = l % r := ⟨_, rfl⟩
      rw [← hz] at z0 zl dm lr
      rw [← hm] at dm m0 m1 lr
      have sv : s.1.natAbs = v.natAbs := by
        rcases he with rfl | rfl <;> rw [es'] <;> simp
      have sq : s.2.natAbs = q.natAbs := by
        rcases he with rfl | rfl <;> rw [es'] <;> simp
      refine Sat.bindEq (div' rp rb) ?_
      rw [← hz]
      refine Sat.bindEq (mul' (by omega) (by omega)) (Sat.bindEq (mul' (by omega) (by omega)) (Sat.bindEq (mul' (by omega) (by omega)) (Sat.ok ⟨?_, ?_⟩)))
      · rw [lr]
        have v1 : (u + z * v) * r + v * m = b := by
          rw [← e1, ← dm]
          grind
        have q1 : (p + z * q) * r + q * m = a := by
          rw [← e2, ← dm]
          grind
        have zv : 0 ≤ z * v := Int.mul_nonneg z0 v0
        have zq : 0 ≤ z * q := Int.mul_nonneg z0 q0
        have vm : 0 ≤ v * m := Int.mul_nonneg v0 m0
        have qm : 0 ≤ q * m := Int.mul_nonneg q0 m0
        have v2 : (u + z * v) * 1 ≤ (u + z * v) * r := Int.mul_le_mul_of_nonneg_left (by omega) (by omega)
        have q2 : (p + z * q) * 1 ≤ (p + z * q) * r := Int.mul_le_mul_of_nonneg_left (by omega) (by omega)
        refine ⟨r0, m0, ?_, ⟨-e, v, u + z * v, q, p + z * q, by omega, v0, by omega, q0, by omega, by omega, by omega, vb, qa, ?_, ?_, v1, q1⟩, d2, ?_, rb, by show m < (W4 : Int); omega⟩
        · dsimp only
          rw [hm, natAbs_emod l0 rp, ← g, Nat.gcd_comm r.natAbs, ← Nat.gcd_rec, Nat.gcd_comm]
        · dsimp only
          rw [es']
          ext <;> simp
        · dsimp only
          rw [es', ef]
          ext <;> simp <;> grind
        · dsimp only
          have : (f.1 - z * s.1) * a + (f.2 - z * s.2) * b = l - z * r := by
            rw [← d, ← d2]
            grind
          rw [this]
          exact lr
      · dsimp only
        rw [lr, hm, natAbs_emod l0 rp, es_pos (a := l.natAbs) (b := r.natAbs) (by omega)]
        omega
  · have := es_le 4000 a.natAbs b.natAbs (by
      have : b.natAbs < W4 := by omega
      exact this)
    dsimp only
    omega
  · obtain ⟨l, r, f, s⟩ := s
    dsimp only at hs ⊢
    rw [decide_eq_true hs.2, if_pos rfl]
    exact Sat.ok hs.1
end LB

set_option Elab.async false
set_option linter.all false
set_option maxRecDepth 100000
set_option maxHeartbeats 4000000
/-! Facts: what fits, put together, joined, counted. -/
namespace LB
open MK MI
structure Fa (f : Int × Int) : Prop where
  n1 : 1 ≤ f.2
  r0 : 0 ≤ f.1
  rn : f.1 < f.2
def Fit (f : Int × Int) (x : Int) : Prop := f.2 ∣ x - f.1
instance (f : Int × Int) (x : Int) : Decidable (Fit f x) := inferInstanceAs (Decidable (f.2 ∣ x - f.1))
theorem gcd_mod (n b : Int) : Int.gcd (n % b) b = Int.gcd n b := by
  refine Nat.dvd_antisymm ?_ ?_
  · refine Int.dvd_gcd ?_ (Int.gcd_dvd_right ..)
    have h1 : (Int.gcd (n % b) b : Int) ∣ n % b := Int.gcd_dvd_left ..
    have h2 : (Int.gcd (n % b) b : Int) ∣ b := Int.gcd_dvd_right ..
    have := Int.dvd_add (Int.dvd_mul_of_dvd_left (c := n / b) h2) h1
    rwa [Int.mul_ediv_add_emod n b] at this
  · refine Int.dvd_gcd ?_ (Int.gcd_dvd_right ..)
    have h1 : (Int.gcd n b : Int) ∣ n := Int.gcd_dvd_left ..
    have h2 : (Int.gcd n b : Int) ∣ b := Int.gcd_dvd_right ..
    rw [Int.emod_def]
    exact Int.dvd_sub h1 (Int.dvd_mul_of_dvd_left h2)
theorem back_of {n b : Int} (hb : 0 < b) (hb2 : b < W4) : Sat (f_back_of n b) fun r => 0 ≤ r ∧ r < b ∧ b ∣ r * n - (Int.gcd n b : Int) := by
  unfold f_back_of
  have m0 : 0 ≤ n % b := Int.emod_nonneg _ (by omega)
  have m1 : n % b < b := Int.emod_lt_of_pos _ hb
  refine Sat.bindEq (Sat.mod hb) (Sat.bind (combined_of m0 (by omega) (by omega) hb2) fun p hp => Sat.bindEq (Sat.mod hb) (Sat.ok ⟨Int.emod_nonneg _ (by omega), Int.emod_lt_of_pos _ hb, ?_⟩))
  rw [gcd_mod] at hp
  have e1 : n = b * (n / b) + n % b := (Int.mul_ediv_add_emod n b).symm
  have e2 : p.1 = b * (p.1 / b) + p.1 % b := (Int.mul_ediv_add_emod p.1 b).symm
  refine ⟨p.1 * (n / b) - p.2 - p.1 / b * n, ?_⟩
  have e3 : p.1 % b = p.1 - b * (p.1 / b) := by omega
  rw [e3]
  have e4 : p.1 * n = p.1 * (b * (n / b)) + p.1 * (n % b) := by rw [← Int.mul_add, ← e1]
  grind
theorem do_quarrel {f g : Int × Int} (hf : Fa f) (hg : Fa g) (h : g.2 < W4) : f_do_quarrel f g = .ok (!decide ((Int.gcd f.2 g.2 : Int) ∣ f.1 - g.1)) := by
  unfold f_do_quarrel
  have wm := w4_wm
  have g1 := hg.n1
  have gp : 0 < Int.gcd f.2 g.2 := Int.gcd_pos_of_ne_zero_right _ (by omega)
  rw [common_of (by omega), M.ok_bind, Sat.mod (by omega), M.ok_bind]
  congr 2
  exact decide_eq_decide.mpr Int.dvd_iff_emod_eq_zero.symm
/-- facts that quarrel: nothing fits both -/
theorem quarrel_fit {f g : Int × Int} {x : Int} (h1 : Fit f x) (h2 : Fit g x) : (Int.gcd f.2 g.2 : Int) ∣ f.1 - g.1 := by
  have a : (Int.gcd f.2 g.2 : Int) ∣ x - f.1 := Int.dvd_trans (Int.gcd_dvd_left ..) h1
  have b : (Int.gcd f.2 g.2 : Int) ∣ x - g.1 := Int.dvd_trans (Int.gcd_dvd_right ..) h2
  have := Int.dvd_sub b a
  rwa [show x - g.1 - (x - f.1) = f.1 - g.1 by omega] at this
theorem put_together {f g : Int × Int} (hf : Fa f) (hg : Fa g) (h1 : f.2 < W4) (h2 : g.2 < W4) (q : (Int.gcd f.2 g.2 : Int) ∣ f.1 - g.1) :
    Sat (f_put_together f g) fun w => Fa w ∧ w.2 = (Int.lcm f.2 g.2 : Int) ∧ ∀ x, Fit w x ↔ Fit f x ∧ Fit g x := by
  unfold f_put_together
  have wm := w4_wm
  have f1 := hf.n1
  have f2 := hf.r0
  have f3 := hf.rn
  have g1 := hg.n1
  have g2 := hg.r0
  have g3 := hg.rn
  have gp : 0 < Int.gcd f.2 g.2 := Int.gcd_pos_of_ne_zero_right _ (by omega)
  obtain ⟨d, hd⟩ : ∃ d : Int, d = Int.gcd f.2 g.2 := ⟨_, rfl⟩
  have df : d ∣ f.2 := by rw [hd]; exact Int.gcd_dvd_left ..
  have dg : d ∣ g.2 := by rw [hd]; exact Int.gcd_dvd_right ..
  have dp : 0 < d := by omega
  have dl : d ≤ f.2 := Int.le_of_dvd (by omega) df
  obtain ⟨m, hm⟩ := df
  obtain ⟨n, hn⟩ := dg
  have dq : d ∣ g.1 - f.1 := by
    rw [← hd] at q
    have := Int.dvd_neg.mpr q
    rwa [Int.neg_sub] at this
  obtain ⟨t, ht⟩ := dq
  have mp : 0 < m := by
    rcases Int.lt_or_le 0 m with h | h
    · exact h
    · have : d * m ≤ d * 0 := Int.mul_le_mul_of_nonneg_left h (by omega)
      omega
  have np : 0 < n := by
    rcases Int.lt_or_le 0 n with h | h
    · exact h
    · have : d * n ≤ d * 0 := Int.mul_le_mul_of_nonneg_left h (by omega)
      omega
  have ml : m ≤ f.2 := by
    have : 1 * m ≤ d * m := Int.mul_le_mul_of_nonneg_right (by omega) (by omega)
    omega
  have nl : n ≤ g.2 := by
    have : 1 * n ≤ d * n := Int.mul_le_mul_of_nonneg_right (by omega) (by omega)
    omega
  have cop : Int.gcd m n = 1 := by
    have e : Int.gcd (d * m) (d * n) = d.natAbs * Int.gcd m n := Int.gcd_mul_left ..
    rw [← hm, ← hn] at e
    have : d.natAbs * Int.gcd m n = d.natAbs * 1 := by omega
    exact Nat.eq_of_mul_eq_mul_left (by omega) this
  have tb : t.natAbs < W4 := by
    have : (g.1 - f.1).natAbs = d.natAbs * t.natAbs := by rw [ht, Int.natAbs_mul]
    have : 1 * t.natAbs ≤ d.natAbs * t.natAbs := Nat.mul_le_mul_right _ (by omega)
    omega
  have q1 : (g.1 - f.1) / d = t := by rw [ht]; exact Int.mul_ediv_cancel_left _ (by omega)
  have q2 : f.2 / d = m := by rw [hm]; exact Int.mul_ediv_cancel_left _ (by omega)
  have q3 : g.2 / d = n := by rw [hn]; exact Int.mul_ediv_cancel_left _ (by omega)
  have k : f_common_of f.2 g.2 = .ok d := by rw [hd]; exact common_of (by omega)
  refine Sat.bindEq k (Sat.bindEq (div' dp (by omega)) (Sat.bindEq (div' dp (by omega)) (Sat.bindEq (div' dp (by omega)) ?_)))
  rw [q1, q2, q3]
  refine Sat.bind (back_of np (by omega)) fun r hr => ?_
  obtain ⟨r0, rn, rd⟩ := hr
  rw [cop] at rd
  refine Sat.bindEq (mul' (by omega) (by omega)) (Sat.bindEq (div' dp (by omega)) ?_)
  rw [q3]
  refine Sat.bindEq (Sat.mod np) (Sat.bindEq (div' dp (by omega)) ?_)
  rw [q2]
  have s0 : 0 ≤ t * r % n := Int.emod_nonneg _ (by omega)
  have s1 : t * r % n < n := Int.emod_lt_of_pos _ np
  have wp : 0 < m * g.2 := Int.mul_pos mp (by omega)
  refine Sat.bindEq (mul' (by omega) (by omega)) (Sat.bindEq (mul' (by omega) (by omega)) (Sat.bindEq (Sat.mod wp) (Sat.ok ?_)))
  have lcm : m * g.2 = (Int.lcm f.2 g.2 : Int) := by
    have e : Int.gcd f.2 g.2 * Int.lcm f.2 g.2 = (f.2 * g.2).natAbs := by rw [Int.natAbs_mul]; exact Int.gcd_mul_lcm ..
    have e2 : (d : Int) * (Int.lcm f.2 g.2 : Int) = f.2 * g.2 := by
      have : 0 ≤ f.2 * g.2 := Int.mul_nonneg (by omega) (by omega)
      have e3 : ((Int.gcd f.2 g.2 * Int.lcm f.2 g.2 : Nat) : Int) = f.2 * g.2 := by rw [e]; omega
      rw [hd]
      rw [← e3]
      exact (Int.natCast_mul ..).symm
    have e4 : d * (m * g.2) = d * (Int.lcm f.2 g.2 : Int) := by rw [e2, hm, Int.mul_assoc]
    exact Int.eq_of_mul_eq_mul_left (by omega) e4
  have df : f.2 ∣ m * g.2 := ⟨n, by rw [hm, hn]; grind⟩
  have dg : g.2 ∣ m * g.2 := ⟨m, by rw [Int.mul_comm]⟩
  obtain ⟨X, hX⟩ : ∃ X, X = f.1 + f.2 * (t * r % n) := ⟨_, rfl⟩
  rw [← hX]
  have xf : f.2 ∣ X - f.1 := ⟨t * r % n, by rw [hX]; omega⟩
  have xg : g.2 ∣ X - g.1 := by
    obtain ⟨k, hk⟩ := rd
    have e : t * r = n * (t * r / n) + t * r % n := (Int.mul_ediv_add_emod _ _).symm
    refine ⟨t * k - m * (t * r / n), ?_⟩
    have e5 : t * r % n = t * r - n * (t * r / n) := by omega
    rw [hX, e5, hn, hm]
    have e6 : g.1 = f.1 + d * t := by omega
    have e7 : r * m = 1 + n * k := by omega
    rw [e6]
    have e8 : d * m * (t * r) = d * t * (r * m) := by grind
    have e9 : f.1 + d * m * (t * r - n * (t * r / n)) - (f.1 + d * t) = d * m * (t * r) - d * m * n * (t * r / n) - d * t := by grind
    rw [e9, e8, e7]
    grind
  have lm : ∀ z : Int, f.2 ∣ z → g.2 ∣ z → m * g.2 ∣ z := fun z h1 h2 => by rw [lcm]; exact Int.coe_lcm_dvd h1 h2
  have xm : m * g.2 ∣ X - X % (m * g.2) := ⟨X / (m * g.2), by have := Int.mul_ediv_add_emod X (m * g.2); omega⟩
  refine ⟨⟨by omega, Int.emod_nonneg _ (by omega), Int.emod_lt_of_pos _ wp⟩, lcm, fun x => ⟨fun h => ?_, fun h => ?_⟩⟩
  · have h : m * g.2 ∣ x - X % (m * g.2) := h
    have h' : m * g.2 ∣ x - X := by
      have := Int.dvd_sub h xm
      rwa [show x - X % (m * g.2) - (X - X % (m * g.2)) = x - X by omega] at this
    constructor
    · have := Int.dvd_add (Int.dvd_trans df h') xf
      rwa [show x - X + (X - f.1) = x - f.1 by omega] at this
    · have := Int.dvd_add (Int.dvd_trans dg h') xg
      rwa [show x - X + (X - g.1) = x - g.1 by omega] at this
  · have h1 : f.2 ∣ x - X := by
      have := Int.dvd_sub h.1 xf
      rwa [show x - f.1 - (X - f.1) = x - X by omega] at this
    have h2 : g.2 ∣ x - X := by
      have := Int.dvd_sub h.2 xg
      rwa [show x - g.1 - (X - g.1) = x - X by omega] at this
    have := Int.dvd_add (lm _ h1 h2) xm
    rwa [show x - X + (X - X % (m * g.2)) = x - X % (m * g.2) by omega] at this
end LB

set_option Elab.async false
set_option linter.all false
set_option maxRecDepth 100000
set_option maxHeartbeats 4000000
/-! Checks of facts; comprehensions by relations; counting; the terms of lamps. -/
namespace MK.Sat
open MI MK
variable {α β σ ρ : Type}
theorem optR {f : α → M (Option β)} {R : α → Option β → Prop} {xs : List α} (h : ∀ x ∈ xs, Sat (f x) (R x)) (hl : xs.length ≤ 16777216) : Sat (M.optC f xs) fun ys => ∃ os, F2 R xs os ∧ ys = os.filterMap id := by
  unfold M.optC M.comp
  refine bind (P := fun p : List β × Unit => ∃ os, F2 R xs os ∧ p.1 = os.filterMap id) ?_ fun p hp => ok hp
  refine bind (compL (I := fun _ => True) (R := R) trivial fun s x hx _ => bind (h x hx) fun y hy => ok ⟨trivial, hy⟩) fun p hp => ?_
  obtain ⟨_, os, h1, h2⟩ := hp
  refine iteT (fits ?_) (ok ⟨os, h1, h2⟩)
  have l := f2_len h1
  have := List.length_filterMap_le id os
  rw [h2]
  omega
theorem mapR {f : α → M β} {R : α → β → Prop} {xs : List α} (h : ∀ x ∈ xs, Sat (f x) (R x)) (hl : xs.length ≤ 16777216) : Sat (M.mapC f xs) (F2 R xs) := by
  unfold M.mapC M.comp
  refine bind (P := fun p : List β × Unit => F2 R xs p.1) ?_ fun p hp => ok hp
  refine bind (compL (I := fun _ => True) (R := fun x o => ∃ y, o = some y ∧ R x y) trivial fun s x hx _ => bind (h x hx) fun y hy => ok ⟨trivial, y, rfl, hy⟩) fun p hp => ?_
  obtain ⟨_, os, h1, h2⟩ := hp
  have key : ∀ {xs : List α} {os : List (Option β)}, F2 (fun x o => ∃ y, o = some y ∧ R x y) xs os → F2 R xs (os.filterMap id) := fun {xs os} h => by
    induction h with
    | nil => exact .nil
    | cons hr _ ih =>
      obtain ⟨y, rfl, r⟩ := hr
      exact .cons r ih
  have k := key h1
  rw [← h2] at k
  exact iteT (fits (by rw [← f2_len k]; exact hl)) (ok k)
/-- a loop that never leaves -/
theorem loopK {f : σ → α → M (Ct σ ρ)} {I : σ → Prop} {xs : List α} {s : σ} {kn : σ → M β} {kr : ρ → M β} {P : β → Prop} (i : I s) (h : ∀ s x, x ∈ xs → I s → Sat (f s x) fun c => ∃ s', c = .nx s' ∧ I s') (hk : ∀ s, I s → Sat (kn s) P) : Sat ((M.loop f s xs).bind (M.fl kn kr)) P := by
  obtain ⟨c, e, s', rfl, i'⟩ := loopI (xs := xs) i h
  rw [e]
  exact hk s' i'
end MK.Sat
namespace LB
open MK MI
/-! ### checks -/
theorem between (v a b : Int) : f_is_between v a b = .ok (decide (a ≤ v) && decide (v ≤ b)) := rfl
theorem between_t {v a b : Int} (h : a ≤ v) (h2 : v ≤ b) : f_is_between v a b = .ok true := by
  rw [between, decide_eq_true h, decide_eq_true h2]
  rfl
theorem check_between {v a b : Int} (h : a ≤ v) (h2 : v ≤ b) : f_check_between v a b = .ok () := by
  unfold f_check_between
  rw [between_t h h2]
  rfl
theorem check_number {x : Int} (h1 : -10000000000000000000000000000000000000000 ≤ x) (h2 : x ≤ 10000000000000000000000000000000000000000) : f_check_number x = .ok () := by
  unfold f_check_number
  rw [check_between h1 h2]
  rfl
theorem check_span {x y : Int} (h1 : -10000000000000000000000000000000000000000 ≤ x) (h2 : x ≤ y) (h3 : y ≤ 10000000000000000000000000000000000000000) : f_check_span x y = .ok () := by
  unfold f_check_span
  rw [check_number h1 (by omega), M.ok_bind, check_between h2 h3]
  rfl
/-- a fact that the checks let -/
structure Fb (f : Int × Int) : Prop where
  a : Fa f
  le : f.2 ≤ 1000000000000000000000000000000
theorem is_fact {f : Int × Int} (h : Fb f) : f_is_fact f = .ok true := by
  unfold f_is_fact
  have a := h.a.n1
  have b := h.a.r0
  have c := h.a.rn
  rw [between_t (by omega) h.le, M.ok_bind, M.ok_bind, M.ok_bind, if_neg (by decide), between_t b (by omega)]
  rfl
theorem enum_lt {α : Type} : ∀ (k : Nat) (l : List α) (p : Int × α), p ∈ enumI k l → (k : Int) ≤ p.1 ∧ p.1 < (k : Int) + l.length ∧ p.2 ∈ l
  | k, [], p, h => by cases h
  | k, a :: r, p, h => by
    rcases List.mem_cons.mp (show p ∈ ((k : Int), a) :: enumI (k + 1) r from h) with rfl | h
    · exact ⟨by simp, by simp; omega, List.mem_cons_self⟩
    · obtain ⟨h1, h2, h3⟩ := enum_lt (k + 1) r p h
      simp only [List.length_cons]
      exact ⟨by omega, by omega, List.mem_cons_of_mem _ h3⟩
theorem facts_fault {l : List (Int × Int)} {m : Int} (h : ∀ f ∈ l, Fb f) (hl : (l.length : Int) ≤ m) : f_facts_fault l m = .ok (-1) := by
  unfold f_facts_fault
  refine Sat.toEq (Sat.loopK (I := fun _ => True) trivial (fun s x hx _ => ?_) fun _ _ => Sat.ok rfl)
  obtain ⟨h1, h2, h3⟩ := enum_lt 0 l x hx
  obtain ⟨i, f⟩ := x
  dsimp only at h1 h2 h3 ⊢
  rw [decide_eq_false (by omega), if_neg (by decide), is_fact (h f h3), M.ok_bind, M.ok_bind, if_neg (by decide)]
  exact Sat.ok ⟨_, rfl, trivial⟩
theorem check_lamps {l : List (Int × Int)} (h : ∀ f ∈ l, Fb f) (hl : l.length ≤ 12) : f_check_lamps l = .ok () := by
  unfold f_check_lamps
  rw [facts_fault h (by omega), M.ok_bind]
  rfl
theorem check_facts {l : List (Int × Int)} (h : ∀ f ∈ l, Fb f) (hl : l.length ≤ 40) : f_check_facts l = .ok () := by
  unfold f_check_facts
  rw [facts_fault h (by omega), M.ok_bind]
  rfl
/-! ### the common base -/
def lcmb (l : List (Int × Int)) : Nat := l.foldl (fun n f => Int.lcm n f.2) 1
theorem lcmb_snoc (l : List (Int × Int)) (f : Int × Int) : lcmb (l ++ [f]) = Int.lcm (lcmb l) f.2 := by
  unfold lcmb
  rw [List.foldl_append]
  rfl
theorem big40 : (1000000000000000000000000000000 : Nat) ^ 40 < W4 := by
  unfold W4
  decide +kernel
theorem lcm_le_mul {a b : Int} (ha : 0 < a) (hb : 0 < b) : Int.lcm a b ≤ a.natAbs * b.natAbs := by
  have e : Int.gcd a b * Int.lcm a b = a.natAbs * b.natAbs := Int.gcd_mul_lcm ..
  have g : 0 < Int.gcd a b := Int.gcd_pos_of_ne_zero_left _ (by omega)
  have : 1 * Int.lcm a b ≤ Int.gcd a b * Int.lcm a b := Nat.mul_le_mul_right _ g
  omega
theorem lcm_pos' {a b : Int} (ha : 0 < a) (hb : 0 < b) : 0 < Int.lcm a b := Int.lcm_pos (by omega) (by omega)
theorem lcmb_bd : ∀ (r : List (Int × Int)), (∀ f ∈ r, Fb f) → 0 < lcmb r.reverse ∧ lcmb r.reverse ≤ 1000000000000000000000000000000 ^ r.length
  | [], _ => ⟨Nat.one_pos, Nat.le_refl _⟩
  | f :: r, h => by
    obtain ⟨h1, h2⟩ := lcmb_bd r fun g hg => h g (List.mem_cons_of_mem _ hg)
    have hf := h f List.mem_cons_self
    have n1 := hf.a.n1
    have n2 := hf.le
    rw [List.reverse_cons, lcmb_snoc]
    have p := lcm_pos' (a := (lcmb r.reverse : Int)) (b := f.2) (by omega) (by omega)
    have q := lcm_le_mul (a := (lcmb r.reverse : Int)) (b := f.2) (by omega) (by omega)
    refine ⟨p, Nat.le_trans q ?_⟩
    rw [List.length_cons, Nat.pow_succ, Int.natAbs_natCast]
    exact Nat.mul_le_mul h2 (by omega)
theorem lcmb_lt {l : List (Int × Int)} (h : ∀ f ∈ l, Fb f) (hl : l.length ≤ 40) : 0 < lcmb l ∧ lcmb l < W4 := by
  have := lcmb_bd l.reverse fun f hf => h f (List.mem_reverse.mp hf)
  rw [List.reverse_reverse, List.length_reverse] at this
  refine ⟨this.1, Nat.lt_of_le_of_lt this.2 (Nat.lt_of_le_of_lt (Nat.pow_le_pow_right (by decide) hl) big40)⟩
theorem multiple_of {a b : Int} (ha : 0 < a) (hb : 0 < b) (h1 : a < W4) (h2 : b < W4) : f_multiple_of a b = .ok (Int.lcm a b : Int) := by
  unfold f_multiple_of
  have wm := w4_wm
  have e : Int.gcd a b * Int.lcm a b = a.natAbs * b.natAbs := Int.gcd_mul_lcm ..
  have g : 0 < Int.gcd a b := Int.gcd_pos_of_ne_zero_left _ (by omega)
  have gl : Int.gcd a b ≤ a.natAbs := Int.gcd_le_natAbs_left _ (by omega)
  rw [decide_eq_false (p := a = 0) (by omega), decide_eq_false (p := b = 0) (by omega), if_pos (by decide), mul' (by omega) (by omega), M.ok_bind, common_of (by omega), M.ok_bind, div' (by omega) (by omega), M.ok_bind, M.ok_bind]
  congr 1
  have p : 0 ≤ a * b := Int.mul_nonneg (by omega) (by omega)
  have e2 : ((a * b).natAbs : Int) = (Int.gcd a b : Int) * (Int.lcm a b : Int) := by
    rw [Int.natAbs_mul, ← e]
    exact Int.natCast_mul ..
  rw [e2]
  exact Int.mul_ediv_cancel_left _ (by omega)
theorem whole_base {l : List (Int × Int)} (h : ∀ f ∈ l, Fb f) (hl : l.length ≤ 40) : f_whole_base l = .ok (lcmb l : Int) := by
  unfold f_whole_base
  have := Sat.fold (f := fun (found : Int) ((rest, base) : (Int × Int)) => (f_multiple_of found base).bind fun r => .ok r) (I := fun d _ s => s = (lcmb d : Int)) (xs := l) (done := []) (s := 1) rfl fun d x r s e hs => by
    obtain ⟨x1, x2⟩ := x
    have e : l = d ++ (x1, x2) :: r := by rw [← e]; rfl
    have hx := h (x1, x2) (by rw [e]; simp)
    have hd := lcmb_lt (l := d) (fun f hf => h f (by rw [e]; simp [hf])) (by have := congrArg List.length e; simp at this; omega)
    have n1 := hx.a.n1
    have n2 := hx.le
    have b := big40
    have : (1000000000000000000000000000000 : Nat) ^ 1 ≤ 1000000000000000000000000000000 ^ 40 := Nat.pow_le_pow_right (by decide) (by decide)
    subst hs
    dsimp only at n1 n2 ⊢
    rw [multiple_of (by omega) (by omega) (by omega) (by omega), M.ok_bind]
    refine Sat.ok ?_
    rw [lcmb_snoc]
  rw [List.nil_append] at this
  obtain ⟨s, e, rfl⟩ := this
  rw [e]
  rfl
/-! ### sums over a stretch -/
def sm (g : Int → Int) (lo : Int) : Nat → Int
  | 0 => 0
  | n + 1 => sm g lo n + g (lo + n)
theorem sm_add (g h : Int → Int) (lo : Int) : ∀ n, sm (fun x => g x + h x) lo n = sm g lo n + sm h lo n
  | 0 => rfl
  | n + 1 => by
    show sm (fun x => g x + h x) lo n + (g (lo + n) + h (lo + n)) = (sm g lo n + g (lo + n)) + (sm h lo n + h (lo + n))
    rw [sm_add g h lo n]
    omega
theorem sm_zero (lo : Int) : ∀ n, sm (fun _ => 0) lo n = 0
  | 0 => rfl
  | n + 1 => by
    show sm (fun _ => 0) lo n + 0 = 0
    rw [sm_zero lo n]
    rfl
theorem sm_scale (c : Int) (g : Int → Int) (lo : Int) : ∀ n, sm (fun x => c * g x) lo n = c * sm g lo n
  | 0 => (Int.mul_zero c).symm
  | n + 1 => by
    show sm (fun x => c * g x) lo n + c * g (lo + n) = c * (sm g lo n + g (lo + n))
    rw [sm_scale c g lo n, Int.mul_add]
theorem sm_congr {g h : Int → Int} {lo : Int} : ∀ {n : Nat}, (∀ x, lo ≤ x → x < lo + n → g x = h x) → sm g lo n = sm h lo n
  | 0, _ => rfl
  | n + 1, e => by
    show sm g lo n + g (lo + n) = sm h lo n + h (lo + n)
    rw [sm_congr fun x a b => e x a (by omega), e _ (by omega) (by omega)]
def ind (p : Prop) [Decidable p] : Int := if p then 1 else 0
/-- how many numbers of a stretch fit -/
theorem fit_step {r n x : Int} (hn : 0 < n) : (x - r) / n = (x - 1 - r) / n + ind (n ∣ x - r) := by
  unfold ind
  by_cases h : n ∣ x - r
  · rw [if_pos h]
    obtain ⟨k, hk⟩ := h
    rw [hk, Int.mul_ediv_cancel_left _ (by omega), show x - 1 - r = n * k + (-1) by omega, Int.mul_add_ediv_left _ _ (by omega)]
    have : (-1 : Int) / n = -1 := by rw [Int.neg_one_ediv, Int.sign_eq_one_of_pos hn]
    omega
  · rw [if_neg h]
    have e := Int.mul_ediv_add_emod (x - r) n
    have m0 := Int.emod_nonneg (x - r) (b := n) (by omega)
    have m1 := Int.emod_lt_of_pos (x - r) hn
    have m2 : (x - r) % n ≠ 0 := fun z => h (Int.dvd_of_emod_eq_zero z)
    rw [show x - 1 - r = n * ((x - r) / n) + ((x - r) % n - 1) by rw [← Int.add_sub_assoc, e]; omega, Int.mul_add_ediv_left _ _ (by omega)]
    have z : ((x - r) % n - 1) / n = 0 := Int.ediv_eq_zero_of_lt (by omega) (by omega)
    omega
theorem sm_fit {f : Int × Int} (hf : Fa f) (lo : Int) : ∀ n : Nat, sm (fun x => ind (Fit f x)) lo n = (lo + n - 1 - f.1) / f.2 - (lo - 1 - f.1) / f.2
  | 0 => by
    show (0 : Int) = _
    rw [show lo + ((0 : Nat) : Int) - 1 - f.1 = lo - 1 - f.1 by omega]
    omega
  | n + 1 => by
    show sm (fun x => ind (Fit f x)) lo n + ind (Fit f (lo + n)) = _
    have k := fit_step (r := f.1) (n := f.2) (x := lo + n) (by have := hf.n1; omega)
    rw [sm_fit hf lo n, show lo + ((n + 1 : Nat) : Int) - 1 - f.1 = lo + n - f.1 by omega, k]
    have : ind (Fit f (lo + n)) = ind (f.2 ∣ lo + n - f.1) := rfl
    omega
theorem sm_period {f : Int × Int} (hf : Fa f) (lo : Int) {W : Nat} (h : f.2 ∣ (W : Int)) : sm (fun x => ind (Fit f x)) lo W = (W : Int) / f.2 := by
  have := hf.n1
  rw [sm_fit hf]
  obtain ⟨k, hk⟩ := h
  rw [hk, Int.mul_ediv_cancel_left _ (by omega), show lo + f.2 * k - 1 - f.1 = f.2 * k + (lo - 1 - f.1) by omega, Int.mul_add_ediv_left _ _ (by omega)]
  omega
theorem count_of {f : Int × Int} (hf : Fa f) (h : f.2 < W4) (lo hi : Int) : f_count_of f lo hi = .ok ((hi - f.1) / f.2 - (lo - 1 - f.1) / f.2) := by
  unfold f_count_of
  have := hf.n1
  rw [div' (by omega) h, M.ok_bind, div' (by omega) h, M.ok_bind]
theorem count_sm {f : Int × Int} (hf : Fa f) (h : f.2 < W4) {lo hi : Int} (hlo : lo ≤ hi + 1) : f_count_of f lo hi = .ok (sm (fun x => ind (Fit f x)) lo (hi + 1 - lo).toNat) := by
  rw [count_of hf h, sm_fit hf]
  congr 3
  omega
end LB

set_option Elab.async false
set_option linter.all false
set_option maxRecDepth 100000
set_option maxHeartbeats 4000000
/-! The terms of lamps: adding and taking away over all lots that are lit together. -/
namespace LB
open MK MI
/-- what lots of n things make: g is told how many are chosen -/
def Bn (g : Nat → Int) : Nat → Int
  | 0 => g 0
  | n + 1 => Bn g n + Bn (fun k => g (k + 1)) n
theorem Bn_congr : ∀ (n : Nat) {g h : Nat → Int}, (∀ k, g k = h k) → Bn g n = Bn h n
  | 0, g, h, e => e 0
  | n + 1, g, h, e => by
    show Bn g n + Bn (fun k => g (k + 1)) n = Bn h n + Bn (fun k => h (k + 1)) n
    rw [Bn_congr n e, Bn_congr n fun k => e (k + 1)]
theorem Bn_sub : ∀ (n : Nat) (g h : Nat → Int), Bn (fun k => g k - h k) n = Bn g n - Bn h n
  | 0, g, h => rfl
  | n + 1, g, h => by
    show Bn (fun k => g k - h k) n + Bn (fun k => g (k + 1) - h (k + 1)) n = (Bn g n + Bn (fun k => g (k + 1)) n) - (Bn h n + Bn (fun k => h (k + 1)) n)
    rw [Bn_sub n, Bn_sub n (fun k => g (k + 1))]
    omega
theorem Bn_zero : ∀ n : Nat, Bn (fun _ => 0) n = 0
  | 0 => rfl
  | n + 1 => by
    show Bn (fun _ => 0) n + Bn (fun _ => 0) n = 0
    rw [Bn_zero n]
    rfl
/-- how many lamps are lit -/
def lit (l : List (Int × Int)) (x : Int) : Nat := l.countP fun f => decide (Fit f x)
theorem lit_snoc (l : List (Int × Int)) (f : Int × Int) (x : Int) : lit (l ++ [f]) x = lit l x + if Fit f x then 1 else 0 := by
  unfold lit
  rw [List.countP_append]
  by_cases h : Fit f x <;> simp [h]
/-- the sum over the terms that x fits -/
def Tx (g : Nat → Int) (ts : List (Int × (Int × Int))) (x : Int) : Int := (ts.map fun p => g p.1.toNat * ind (Fit p.2 x)).sum
theorem Tx_app (g : Nat → Int) (s t : List (Int × (Int × Int))) (x : Int) : Tx g (s ++ t) x = Tx g s x + Tx g t x := by
  unfold Tx
  rw [List.map_append, List.sum_append]
/-- the sum over the terms of what they are of a round -/
def Qs (g : Nat → Int) (ts : List (Int × (Int × Int))) (W : Int) : Int := (ts.map fun p => g p.1.toNat * (W / p.2.2)).sum
theorem Qs_app (g : Nat → Int) (s t : List (Int × (Int × Int))) (W : Int) : Qs g (s ++ t) W = Qs g s W + Qs g t W := by
  unfold Qs
  rw [List.map_append, List.sum_append]
/-- the lamps' bases have no common divisors -/
inductive Cop : List (Int × Int) → Prop where
  | nil : Cop []
  | snoc {l : List (Int × Int)} {f : Int × Int} (h : Cop l) (g : Int.gcd (lcmb l) f.2 = 1) : Cop (l ++ [f])
def pw (l : List (Int × Int)) : Int := (l.map fun f => f.2).foldl (· * ·) 1
def sgn (n : Nat) : Int := 1 - 2 * ((n : Int) % 2)
theorem sgn_succ (n : Nat) : sgn (n + 1) = -sgn n := by
  unfold sgn
  omega
structure Tm (d : List (Int × Int)) (ts : List (Int × (Int × Int))) : Prop where
  f : ∀ p ∈ ts, Fa p.2 ∧ p.2.2 ∣ (lcmb d : Int) ∧ 0 ≤ p.1 ∧ p.1 ≤ d.length
  t : ∀ (g : Nat → Int) x, Tx g ts x = Bn g (lit d x)
  len : ts.length ≤ 2 ^ d.length
/-- one lamp more: what a term becomes -/
def Rt (lamp : Int × Int) (p : Int × (Int × Int)) (o : Option (Int × (Int × Int))) : Prop :=
  (¬ (Int.gcd p.2.2 lamp.2 : Int) ∣ p.2.1 - lamp.1 ∧ o = none) ∨ ((Int.gcd p.2.2 lamp.2 : Int) ∣ p.2.1 - lamp.1 ∧ ∃ w, o = some (p.1 + 1, w) ∧ Fa w ∧ w.2 = (Int.lcm p.2.2 lamp.2 : Int) ∧ ∀ x, Fit w x ↔ Fit p.2 x ∧ Fit lamp x)
theorem rt_sum {lamp : Int × Int} (g : Nat → Int) (x : Int) : ∀ {ts : List (Int × (Int × Int))} {os : List (Option (Int × (Int × Int)))}, F2 (Rt lamp) ts os → (∀ p ∈ ts, 0 ≤ p.1) → Tx g (os.filterMap id) x = ind (Fit lamp x) * Tx (fun k => g (k + 1)) ts x := fun {ts os} h => by
  induction h with
  | nil => intro _; simp [Tx]
  | @cons p o ts os hr _ ih =>
    intro hp
    have ih := ih fun q hq => hp q (List.mem_cons_of_mem _ hq)
    have p0 := hp p List.mem_cons_self
    have e : Tx (fun k => g (k + 1)) (p :: ts) x = g (p.1.toNat + 1) * ind (Fit p.2 x) + Tx (fun k => g (k + 1)) ts x := by
      unfold Tx
      rw [List.map_cons, List.sum_cons]
    rw [e, Int.mul_add, ← ih]
    rcases hr with ⟨q, rfl⟩ | ⟨q, w, rfl, _, _, hw⟩
    · have : ind (Fit lamp x) * (g (p.1.toNat + 1) * ind (Fit p.2 x)) = 0 := by
        unfold ind
        by_cases h1 : Fit lamp x
        · by_cases h2 : Fit p.2 x
          · exact absurd (quarrel_fit h2 h1) q
          · rw [if_neg h2]; simp
        · rw [if_neg h1]; simp
      rw [this, Int.zero_add]
      rfl
    · have e2 : Tx g (((some (p.1 + 1, w)) :: os).filterMap id) x = g (p.1 + 1).toNat * ind (Fit w x) + Tx g (os.filterMap id) x := by
        unfold Tx
        rw [List.filterMap_cons]
        dsimp only [id]
        rw [List.map_cons, List.sum_cons]
      rw [e2]
      congr 1
      have : (p.1 + 1).toNat = p.1.toNat + 1 := by omega
      rw [this]
      unfold ind
      by_cases h1 : Fit lamp x <;> by_cases h2 : Fit p.2 x <;> simp [hw, h1, h2]
theorem rt_len {lamp : Int × Int} {ts : List (Int × (Int × Int))} {os : List (Option (Int × (Int × Int)))} (h : F2 (Rt lamp) ts os) : (os.filterMap id).length ≤ ts.length := by
  rw [Sat.f2_len h]
  exact List.length_filterMap_le _ _
theorem rt_mem {lamp : Int × Int} : ∀ {ts : List (Int × (Int × Int))} {os : List (Option (Int × (Int × Int)))}, F2 (Rt lamp) ts os → ∀ q ∈ os.filterMap id, ∃ p ∈ ts, q.1 = p.1 + 1 ∧ Fa q.2 ∧ q.2.2 = (Int.lcm p.2.2 lamp.2 : Int) := fun {ts os} h => by
  induction h with
  | nil => intro q hq; simp at hq
  | @cons p o ts os hr _ ih =>
    intro q hq
    rcases hr with ⟨_, rfl⟩ | ⟨_, w, rfl, h1, h2, _⟩
    · obtain ⟨p', h1, h2⟩ := ih q (by simpa using hq)
      exact ⟨p', List.mem_cons_of_mem _ h1, h2⟩
    · rw [List.filterMap_cons] at hq
      dsimp only [id] at hq
      rcases List.mem_cons.mp hq with rfl | hq
      · exact ⟨p, List.mem_cons_self, rfl, h1, h2⟩
      · obtain ⟨p', h1, h2⟩ := ih q hq
        exact ⟨p', List.mem_cons_of_mem _ h1, h2⟩
theorem fit_all (x : Int) : Fit (0, 1) x := ⟨x - 0, by show x - 0 = 1 * (x - 0); omega⟩
theorem terms_of {l : List (Int × Int)} (h : ∀ f ∈ l, Fb f) (hl : l.length ≤ 12) : Sat (f_terms_of l) (Tm l) := by
  unfold f_terms_of
  refine Sat.lt (Sat.bind (P := Tm l) ?_ fun r hr => Sat.ok hr)
  have := Sat.fold (f := fun (found1 : (List (Int × (Int × Int)))) (lamp : (Int × Int)) => (M.optC (fun ((many, fact) : (Int × (Int × Int))) => ((f_do_quarrel fact lamp).bind fun r => if (!r) then (f_put_together fact lamp).bind fun r1 => .ok (some ((many + 1), r1)) else .ok none : M (Option (Int × (Int × Int))))) found1).bind fun ys => (M.cat found1 ys).bind fun zs => .ok zs) (I := fun d _ s => Tm d s) (xs := l) (done := []) (s := [(0, (0, 1))]) ⟨fun p hp => by
      have : p = (0, (0, 1)) := by simpa using hp
      subst this
      exact ⟨⟨by decide, by decide, by decide⟩, ⟨(lcmb [] : Int), by simp⟩, by decide, by decide⟩, fun g x => by
      unfold Tx
      simp [lit, Bn, ind, fit_all], by decide⟩ fun d lamp r ts e hs => by
    have e : l = d ++ lamp :: r := by rw [← e]; rfl
    have dl : d.length < 12 := by have := congrArg List.length e; simp at this; omega
    have hlamp := h lamp (by rw [e]; simp)
    have hd := lcmb_lt (l := d) (fun f hf => h f (by rw [e]; simp [hf])) (by omega)
    have n1 := hlamp.a.n1
    have n2 := hlamp.le
    have b := big40
    have : (1000000000000000000000000000000 : Nat) ^ 1 ≤ 1000000000000000000000000000000 ^ 40 := Nat.pow_le_pow_right (by decide) (by decide)
    have tl : ts.length ≤ 2048 := Nat.le_trans hs.len (Nat.pow_le_pow_right (i := d.length) (j := 11) (by decide) (by omega))
    refine Sat.bind (Sat.optR (R := Rt lamp) (fun p hp => ?_) (by omega)) fun ys hys => ?_
    · obtain ⟨many, fact⟩ := p
      obtain ⟨h1, h2, h3, h4⟩ := hs.f _ hp
      dsimp only at h1 h2 h3 h4 ⊢
      have fw : fact.2 < W4 := by
        have := Int.le_of_dvd (by omega) h2
        omega
      refine Sat.bindEq (do_quarrel h1 hlamp.a (by omega)) ?_
      by_cases q : (Int.gcd fact.2 lamp.2 : Int) ∣ fact.1 - lamp.1
      · rw [decide_eq_true q, Bool.not_true, Bool.not_false, if_pos rfl]
        exact Sat.bind (put_together h1 hlamp.a fw (by omega) q) fun w hw => Sat.ok (.inr ⟨q, w, rfl, hw⟩)
      · rw [decide_eq_false q, Bool.not_false, Bool.not_true, if_neg (by decide)]
        exact Sat.ok (.inl ⟨q, rfl⟩)
    · obtain ⟨os, h1, rfl⟩ := hys
      have l2 := rt_len h1
      refine Sat.bindEq (Sat.cat (by omega)) (Sat.ok ⟨fun p hp => ?_, fun g x => ?_, ?_⟩)
      · rw [lcmb_snoc, List.length_append, List.length_singleton]
        rcases List.mem_append.mp hp with hp | hp
        · obtain ⟨a1, a2, a3, a4⟩ := hs.f p hp
          exact ⟨a1, Int.dvd_trans a2 (Int.dvd_lcm_left ..), a3, by omega⟩
        · obtain ⟨p', hp', e1, e2, e3⟩ := rt_mem h1 p hp
          obtain ⟨a1, a2, a3, a4⟩ := hs.f p' hp'
          refine ⟨e2, ?_, by omega, by omega⟩
          rw [e3]
          exact Int.coe_lcm_dvd (Int.dvd_trans a2 (Int.dvd_lcm_left ..)) (Int.dvd_lcm_right ..)
      · rw [Tx_app, rt_sum g x h1 fun q hq => (hs.f q hq).2.2.1, hs.t, hs.t, lit_snoc]
        unfold ind
        by_cases hf : Fit lamp x
        · rw [if_pos hf, if_pos hf, Int.one_mul]
          rfl
        · rw [if_neg hf, if_neg hf, Int.zero_mul, Int.add_zero, Nat.add_zero]
      · rw [List.length_append, List.length_append, List.length_singleton, Nat.pow_succ]
        have := hs.len
        omega
  rw [List.nil_append] at this
  exact this
/-- over a round -/
theorem sm_Tx (g : Nat → Int) (lo : Int) {W : Nat} : ∀ {ts : List (Int × (Int × Int))}, (∀ p ∈ ts, Fa p.2 ∧ p.2.2 ∣ (W : Int)) → sm (Tx g ts) lo W = Qs g ts W
  | [], _ => sm_zero lo W
  | p :: ts, h => by
    have ih := sm_Tx g lo (W := W) (ts := ts) fun q hq => h q (List.mem_cons_of_mem _ hq)
    obtain ⟨h1, h2⟩ := h p List.mem_cons_self
    have e : Tx g (p :: ts) = fun x => g p.1.toNat * ind (Fit p.2 x) + Tx g ts x := by
      funext x
      unfold Tx
      rw [List.map_cons, List.sum_cons]
    have e2 : Qs g (p :: ts) W = g p.1.toNat * ((W : Int) / p.2.2) + Qs g ts W := by
      unfold Qs
      rw [List.map_cons, List.sum_cons]
    rw [e, sm_add, sm_scale, sm_period h1 lo h2, ih, e2]
theorem Tm.round {l : List (Int × Int)} {ts : List (Int × (Int × Int))} (h : Tm l ts) (g : Nat → Int) (lo : Int) {W : Nat} (hW : lcmb l ∣ W) : sm (fun x => Bn g (lit l x)) lo W = Qs g ts W := by
  rw [← sm_Tx g lo fun p hp => ⟨(h.f p hp).1, Int.dvd_trans (h.f p hp).2.1 (Int.natCast_dvd_natCast.mpr hW)⟩]
  exact sm_congr fun x _ _ => (h.t g x).symm
end LB

set_option Elab.async false
set_option linter.all false
set_option maxRecDepth 100000
set_option maxHeartbeats 4000000
/-! Shares of lamps. -/
namespace LB
open MK MI
theorem Bn_neg (n : Nat) (g : Nat → Int) : Bn (fun k => -g k) n = -Bn g n := by
  have := Bn_sub n (fun _ => 0) g
  rw [Bn_zero] at this
  rw [← Int.zero_sub, ← this]
  exact Bn_congr n fun k => by omega
theorem Bn_sgn : ∀ n : Nat, Bn sgn n = ind (n = 0)
  | 0 => rfl
  | n + 1 => by
    show Bn sgn n + Bn (fun k => sgn (k + 1)) n = _
    rw [Bn_congr n sgn_succ, Bn_neg]
    unfold ind
    rw [if_neg (by omega)]
    omega
def ch : Nat → Nat → Nat
  | _, 0 => 1
  | 0, _ + 1 => 0
  | n + 1, k + 1 => ch n k + ch n (k + 1)
theorem ch_le : ∀ n k : Nat, ch n k ≤ 2 ^ n
  | 0, 0 => Nat.le_refl _
  | 0, _ + 1 => Nat.zero_le _
  | n + 1, 0 => by
    show 1 ≤ _
    exact Nat.one_le_two_pow
  | n + 1, k + 1 => by
    have := ch_le n k
    have := ch_le n (k + 1)
    rw [Nat.pow_succ]
    show ch n k + ch n (k + 1) ≤ _
    omega
theorem ch_step : ∀ n k : Nat, ((k : Int) + 1) * (ch n (k + 1) : Int) = ((n : Int) - k) * (ch n k : Int)
  | 0, 0 => by decide
  | 0, k + 1 => by
    show ((k + 1 : Nat) + 1 : Int) * ((0 : Nat) : Int) = _ * ((0 : Nat) : Int)
    simp
  | n + 1, 0 => by
    have h := ch_step n 0
    show ((0 : Nat) + 1 : Int) * ((ch n 0 + ch n 1 : Nat) : Int) = (((n + 1 : Nat) : Int) - (0 : Nat)) * ((1 : Nat) : Int)
    have e : ch n 0 = 1 := by cases n <;> rfl
    rw [e] at h ⊢
    simp at h ⊢
    omega
  | n + 1, k + 1 => by
    have h1 := ch_step n k
    have h2 := ch_step n (k + 1)
    show (((k + 1 : Nat) : Int) + 1) * ((ch n (k + 1) + ch n (k + 1 + 1) : Nat) : Int) = (((n + 1 : Nat) : Int) - ((k + 1 : Nat) : Int)) * ((ch n k + ch n (k + 1) : Nat) : Int)
    rw [Int.natCast_add, Int.natCast_add, Int.natCast_add, Int.natCast_add] at *
    grind
theorem chosen {n s : Nat} (hn : n ≤ 12) (hs : s ≤ 12) : f_chosen n s = .ok (ch n s : Int) := by
  unfold f_chosen
  rw [Sat.range1 (by omega) (by omega), M.ok_bind]
  have key : ∀ m : Nat, m ≤ 12 → M.fold (fun (found : Int) (step : Int) => (M.mul found (n - step)).bind fun z => (M.div z (step + 1)).bind fun z1 => .ok z1) (1 : Int) (rngL 0 m) = .ok (ch n m : Int) := by
    intro m
    induction m with
    | zero =>
      intro _
      have : ch n 0 = 1 := by cases n <;> rfl
      rw [this]
      rfl
    | succ m ih =>
      intro hm
      have e : rngL 0 (m + 1) = rngL 0 m ++ [(m : Int)] := by
        unfold rngL
        rw [List.range_succ, List.map_append]
        simp
      have fa : ∀ (xs ys : List Int) (s : Int), M.fold (fun (found : Int) (step : Int) => (M.mul found (n - step)).bind fun z => (M.div z (step + 1)).bind fun z1 => .ok z1) s (xs ++ ys) = (M.fold (fun (found : Int) (step : Int) => (M.mul found (n - step)).bind fun z => (M.div z (step + 1)).bind fun z1 => .ok z1) s xs).bind fun s => M.fold (fun (found : Int) (step : Int) => (M.mul found (n - step)).bind fun z => (M.div z (step + 1)).bind fun z1 => .ok z1) s ys := by
        intro xs
        induction xs with
        | nil => intro ys s; rfl
        | cons x xs ih2 =>
          intro ys s
          show ((M.mul s (n - x)).bind _).bind _ = (((M.mul s (n - x)).bind _).bind _).bind _
          rw [MK.M.bind_assoc (((M.mul s (n - x)).bind fun z => (M.div z (x + 1)).bind fun z1 => .ok z1))]
          congr 1
          funext t
          exact ih2 ys t
      rw [e, fa, ih (by omega), M.ok_bind]
      show (((M.mul (ch n m : Int) (n - m)).bind _) : M Int).bind _ = _
      rw [Sat.mulR (by omega), M.ok_bind, Sat.div (by omega) (by omega), M.ok_bind, M.ok_bind]
      show M.ok _ = M.ok _
      congr 1
      rw [Int.mul_comm, ← ch_step]
      exact Int.mul_ediv_cancel_left _ (by omega)
  rw [Int.toNat_natCast, key s hs]
  rfl
def gk (k m : Nat) : Int := if k ≤ m then sgn (m - k) * (ch m k : Int) else 0
theorem gk_succ0 (m : Nat) : gk 0 (m + 1) = -gk 0 m := by
  unfold gk
  rw [if_pos (Nat.zero_le _), if_pos (Nat.zero_le _)]
  have e1 : ch (m + 1) 0 = 1 := rfl
  have e2 : ch m 0 = 1 := by cases m <;> rfl
  rw [e1, e2, Nat.sub_zero, Nat.sub_zero, sgn_succ]
  omega
theorem ch_over : ∀ n k : Nat, n < k → ch n k = 0
  | 0, k + 1, _ => rfl
  | n + 1, k + 1, h => by
    show ch n k + ch n (k + 1) = 0
    rw [ch_over n k (by omega), ch_over n (k + 1) (by omega)]
theorem gk_succ (k m : Nat) : gk (k + 1) (m + 1) = gk k m - gk (k + 1) m := by
  unfold gk
  by_cases h : k ≤ m
  · rw [if_pos (by omega), if_pos h]
    have e : ((ch (m + 1) (k + 1) : Nat) : Int) = (ch m k : Int) + (ch m (k + 1) : Int) := Int.natCast_add ..
    rw [e, show m + 1 - (k + 1) = m - k by omega]
    by_cases h2 : k + 1 ≤ m
    · rw [if_pos h2, show m - k = (m - (k + 1)) + 1 by omega, sgn_succ]
      grind
    · rw [if_neg h2, ch_over m (k + 1) (by omega)]
      grind
  · rw [if_neg (by omega), if_neg h, if_neg (by omega)]
    rfl
theorem Bn_gk : ∀ n k : Nat, Bn (gk k) n = ind (n = k)
  | 0, 0 => by decide
  | 0, k + 1 => by
    show gk (k + 1) 0 = _
    unfold gk ind
    rw [if_neg (by omega), if_neg (by omega)]
  | n + 1, 0 => by
    show Bn (gk 0) n + Bn (fun m => gk 0 (m + 1)) n = _
    rw [Bn_congr n gk_succ0, Bn_neg]
    unfold ind
    rw [if_neg (by omega)]
    omega
  | n + 1, k + 1 => by
    show Bn (gk (k + 1)) n + Bn (fun m => gk (k + 1) (m + 1)) n = _
    rw [Bn_congr n (gk_succ k), Bn_sub, Bn_gk n k]
    unfold ind
    by_cases h : n = k
    · rw [if_pos h, if_pos (by omega)]; omega
    · rw [if_neg h, if_neg (by omega)]; omega
/-- lowest terms -/
def low (a b : Int) : Int × Int := (a / (Int.gcd a b : Int), b / (Int.gcd a b : Int))
theorem lowest {a b : Int} (hb : 0 < b) (h : b < W4) : f_lowest a b = .ok (low a b) := by
  unfold f_lowest
  have wm := w4_wm
  have g : 0 < Int.gcd a b := Int.gcd_pos_of_ne_zero_right _ (by omega)
  have gl : Int.gcd a b ≤ b.natAbs := Int.gcd_le_natAbs_right _ (by omega)
  rw [common_of (by omega), M.ok_bind, div' (by omega) (by omega), M.ok_bind, div' (by omega) (by omega), M.ok_bind]
  rfl
theorem sign_of {m : Int} (h : 0 ≤ m) : f_sign_of m = .ok (sgn m.toNat) := by
  unfold f_sign_of sgn
  rw [Int.toNat_of_nonneg h]
theorem sgn_abs (n : Nat) : (sgn n).natAbs = 1 := by
  unfold sgn
  omega
theorem f2_sum {ts : List (Int × (Int × Int))} {ys : List Int} {g : Int × (Int × Int) → Int} (h : F2 (fun p y => y = g p) ts ys) : ys = ts.map g := by
  induction h with
  | nil => rfl
  | cons h _ ih => rw [List.map_cons, ← h, ← ih]
theorem lens {ts : List (Int × (Int × Int))} {l : List (Int × Int)} (h : Tm l ts) (hl : l.length ≤ 12) : ts.length ≤ 4096 := Nat.le_trans h.len (Nat.pow_le_pow_right (i := l.length) (j := 12) (by decide) hl)
theorem Tm.w {ts : List (Int × (Int × Int))} {l : List (Int × Int)} (h : Tm l ts) (hb : ∀ f ∈ l, Fb f) (hl : l.length ≤ 12) {p : Int × (Int × Int)} (hp : p ∈ ts) : p.2.2 < W4 := by
  obtain ⟨a1, a2, a3, a4⟩ := h.f p hp
  have hd := lcmb_lt hb (by omega)
  have := Int.le_of_dvd (by omega) a2
  omega
/-- how many are dark -/
theorem dark_between {ts : List (Int × (Int × Int))} {l : List (Int × Int)} (h : Tm l ts) (hb : ∀ f ∈ l, Fb f) (hl : l.length ≤ 12) {lo hi : Int} (hlo : lo ≤ hi + 1) : f_dark_between ts lo hi = .ok (sm (fun x => ind (lit l x = 0)) lo (hi + 1 - lo).toNat) := by
  unfold f_dark_between
  have ln := lens h hl
  refine Sat.toEq (Sat.bind (Sat.mapR (R := fun p y => y = sm (fun x => sgn p.1.toNat * ind (Fit p.2 x)) lo (hi + 1 - lo).toNat) (fun p hp => ?_) (by omega)) fun ys hys => Sat.ok ?_)
  · obtain ⟨m, f⟩ := p
    obtain ⟨a1, a2, a3, a4⟩ := h.f _ hp
    have w := h.w hb hl hp
    dsimp only at a1 a2 a3 a4 w ⊢
    refine Sat.bindEq (sign_of a3) (Sat.bindEq (count_sm a1 w hlo) (Sat.bindEq (Sat.mulL (by rw [sgn_abs]; decide)) (Sat.ok ?_)))
    rw [sm_scale]
  · rw [f2_sum hys]
    have key : ∀ ts : List (Int × (Int × Int)), (ts.map fun p => sm (fun x => sgn p.1.toNat * ind (Fit p.2 x)) lo (hi + 1 - lo).toNat).sum = sm (Tx sgn ts) lo (hi + 1 - lo).toNat := by
      intro ts
      induction ts with
      | nil => exact (sm_zero _ _).symm
      | cons p ts ih =>
        rw [List.map_cons, List.sum_cons, ih]
        have e : Tx sgn (p :: ts) = fun x => sgn p.1.toNat * ind (Fit p.2 x) + Tx sgn ts x := by
          funext x
          unfold Tx
          rw [List.map_cons, List.sum_cons]
        rw [e, sm_add]
    rw [key]
    exact sm_congr fun x _ _ => by rw [h.t, Bn_sgn]
theorem sm_ind0 (g : Int → Int) (hg : ∀ x, 0 ≤ g x) (lo : Int) : ∀ n, 0 ≤ sm g lo n
  | 0 => Int.le_refl _
  | n + 1 => by
    have := sm_ind0 g hg lo n
    have := hg (lo + n)
    show 0 ≤ sm g lo n + g (lo + n)
    omega
theorem dark_share {l : List (Int × Int)} (hb : ∀ f ∈ l, Fb f) (hl : l.length ≤ 12) : f_dark_share l = .ok (low (sm (fun x => ind (lit l x = 0)) 0 (lcmb l)) (lcmb l)) := by
  unfold f_dark_share
  have hd := lcmb_lt hb (by omega)
  obtain ⟨ts, e, h⟩ := terms_of hb hl
  rw [check_lamps hb hl, M.ok_bind, whole_base hb (by omega), M.ok_bind, e, M.ok_bind, dark_between h hb hl (by omega), M.ok_bind, lowest (by omega) (by omega), M.ok_bind]
  congr 3
  omega
theorem share_lit {l : List (Int × Int)} (hb : ∀ f ∈ l, Fb f) (hl : l.length ≤ 12) {k : Nat} (hk : k ≤ 12) : f_share_lit l k = .ok (low (sm (fun x => ind (lit l x = k)) 0 (lcmb l)) (lcmb l)) := by
  unfold f_share_lit
  have hd := lcmb_lt hb (by omega)
  obtain ⟨ts, e, h⟩ := terms_of hb hl
  rw [check_lamps hb hl, M.ok_bind, check_between (by omega) (by omega), M.ok_bind, whole_base hb (by omega), M.ok_bind, e, M.ok_bind]
  have hs := Sat.fold (f := fun (found : Int) ((size, fact) : (Int × (Int × Int))) => if (decide ((k : Int) ≤ size)) then (f_sign_of (size - k)).bind fun r4 => (f_chosen size k).bind fun r5 => (M.mul r4 r5).bind fun z => (M.div (lcmb l : Int) fact.2).bind fun z1 => (M.mul z z1).bind fun z2 => M.lt (found + z2) fun found2 => .ok found2 else .ok found) (I := fun d _ s => s = Qs (gk k) d (lcmb l)) (xs := ts) (done := []) (s := 0) rfl fun d p r s e2 hs => by
    have e2 : ts = d ++ p :: r := by rw [← e2]; rfl
    have hp : p ∈ ts := by rw [e2]; simp
    obtain ⟨a1, a2, a3, a4⟩ := h.f p hp
    have w := h.w hb hl hp
    obtain ⟨size, fact⟩ := p
    dsimp only at a1 a2 a3 a4 w ⊢
    have one : Qs (gk k) (d ++ [(size, fact)]) (lcmb l) = Qs (gk k) d (lcmb l) + gk k size.toNat * ((lcmb l : Int) / fact.2) := by
      rw [Qs_app]
      unfold Qs
      simp
    subst hs
    by_cases hc : (k : Int) ≤ size
    · rw [decide_eq_true hc, if_pos rfl]
      obtain ⟨n, rfl⟩ := Int.eq_ofNat_of_zero_le a3
      have cl := ch_le n k
      have n12 : n ≤ 12 := by omega
      have c2 : 2 ^ n ≤ 2 ^ 12 := two_pow_le n12
      refine Sat.bindEq (sign_of (by omega)) (Sat.bindEq (chosen n12 hk) (Sat.bindEq (Sat.mulL (by rw [sgn_abs]; decide)) (Sat.bindEq (div' (by have := a1.n1; omega) w) (Sat.bindEq (Sat.mulL ?_) (Sat.lt (Sat.ok ?_))))))
      · rw [Int.natAbs_mul, sgn_abs]
        omega
      · rw [one, Int.toNat_natCast]
        unfold gk
        rw [if_pos (by omega), show ((n : Int) - (k : Int)).toNat = n - k by omega]
    · rw [decide_eq_false hc, if_neg (by decide)]
      refine Sat.ok ?_
      rw [one]
      unfold gk
      rw [if_neg (by omega), Int.zero_mul, Int.add_zero]
  rw [List.nil_append] at hs
  obtain ⟨s, e2, rfl⟩ := hs
  rw [e2, M.ok_bind, lowest (by omega) (by omega), M.ok_bind]
  have q := h.round (gk k) 0 (W := lcmb l) (Nat.dvd_refl _)
  rw [← q]
  congr 2
  exact sm_congr fun x _ _ => by rw [Bn_gk]
end LB

set_option Elab.async false
set_option linter.all false
set_option maxRecDepth 100000
set_option maxHeartbeats 4000000
/-! Facts joined; the numbers that fit, one by one. -/
namespace MK.Sat
open MI MK
variable {α σ ρ : Type}
/-- a loop that may return -/
theorem loopR {f : σ → α → M (Ct σ ρ)} {I : List α → List α → σ → Prop} {Q : ρ → Prop} : ∀ {xs done : List α} {s : σ}, I done xs s → (∀ d x r s, done ++ xs = d ++ x :: r → I d (x :: r) s → Sat (f s x) fun c => (∃ s', c = Ct.nx s' ∧ I (d ++ [x]) r s') ∨ ∃ v, c = Ct.rt v ∧ Q v) → Sat (M.loop f s xs) fun c => (∃ s', c = Fl.nx s' ∧ I (done ++ xs) [] s') ∨ ∃ v, c = Fl.rt v ∧ Q v
  | [], done, s, i, _ => ⟨_, rfl, .inl ⟨s, rfl, by rw [List.append_nil]; exact i⟩⟩
  | x :: r, done, s, i, h => by
    have e : done ++ x :: r = (done ++ [x]) ++ r := by simp
    show Sat ((f s x).bind _) _
    refine bind (h done x r s rfl i) fun c hc => ?_
    rcases hc with ⟨s', rfl, i'⟩ | ⟨v, rfl, q⟩
    · rw [e]
      exact loopR i' fun d y q s e2 => h d y q s (by rw [e]; exact e2)
    · exact ok (.inr ⟨v, rfl, q⟩)
theorem loopEq {f : σ → α → M (Ct σ ρ)} {g : σ → α → σ} {I : σ → Prop} : ∀ {xs : List α} {s : σ}, I s → (∀ s x, x ∈ xs → I s → f s x = .ok (.nx (g s x)) ∧ I (g s x)) → M.loop f s xs = M.ok (Fl.nx (xs.foldl g s))
  | [], s, _, _ => rfl
  | x :: r, s, i, h => by
    obtain ⟨e, i'⟩ := h s x List.mem_cons_self i
    show (f s x).bind _ = M.ok (Fl.nx (r.foldl g (g s x)))
    rw [e]
    exact loopEq i' fun s y hy => h s y (List.mem_cons_of_mem _ hy)
theorem loop_cons {f : σ → α → M (Ct σ ρ)} {s s' : σ} {x : α} {r : List α} (e : f s x = .ok (.nx s')) : M.loop f s (x :: r) = M.loop f s' r := by
  show (f s x).bind _ = _
  rw [e]
  rfl
theorem foldl_sum (c : α → Int) : ∀ (xs : List α) (s : Int), xs.foldl (fun t k => t + c k) s = s + (xs.map c).sum
  | [], s => by simp
  | x :: r, s => by
    rw [List.foldl_cons, foldl_sum c r, List.map_cons, List.sum_cons]
    omega
theorem mem_rng {lo : Int} {n : Nat} {x : Int} (h : x ∈ rngL lo n) : lo ≤ x ∧ x < lo + n := by
  unfold rngL at h
  obtain ⟨j, hj, rfl⟩ := List.mem_map.mp h
  have := List.mem_range.mp hj
  omega
theorem rngL_len (lo : Int) (n : Nat) : (rngL lo n).length = n := by unfold rngL; simp
theorem rngL_succ (lo : Int) (n : Nat) : rngL lo (n + 1) = rngL lo n ++ [lo + (n : Int)] := by
  unfold rngL
  rw [List.range_succ, List.map_append]
  rfl
theorem mem_rngL {n : Nat} {x : Int} (h : x ∈ rngL 0 n) : 0 ≤ x ∧ x < n := by
  have := mem_rng h
  omega
end MK.Sat
namespace LB
open MK MI
/-- all facts -/
def Fits (l : List (Int × Int)) (x : Int) : Prop := ∀ f ∈ l, Fit f x
instance (l : List (Int × Int)) (x : Int) : Decidable (Fits l x) := inferInstanceAs (Decidable (∀ f ∈ l, Fit f x))
/-- the fact of all facts -/
structure Jn (l : List (Int × Int)) (w : Int × Int) : Prop where
  a : Fa w
  n : w.2 = (lcmb l : Int)
  fit : ∀ x, Fit w x ↔ Fits l x
theorem fits_snoc (l : List (Int × Int)) (f : Int × Int) (x : Int) : Fits (l ++ [f]) x ↔ Fits l x ∧ Fit f x := by
  constructor
  · intro h
    exact ⟨fun g hg => h g (List.mem_append.mpr (.inl hg)), h f (by simp)⟩
  · intro h g hg
    rcases List.mem_append.mp hg with hg | hg
    · exact h.1 g hg
    · have : g = f := by simpa using hg
      subst this
      exact h.2
theorem jn_nil : Jn [] (0, 1) := ⟨⟨by decide, by decide, by decide⟩, rfl, fun x => ⟨fun _ f hf => by simp at hf, fun _ => fit_all x⟩⟩
theorem joined_of {l : List (Int × Int)} (h : ∀ f ∈ l, Fb f) (hl : l.length ≤ 40) : Sat (f_joined_of l) fun o => (∃ w, o = some w ∧ Jn l w) ∨ (o = none ∧ ∀ x, ¬ Fits l x) := by
  unfold f_joined_of
  refine Sat.lt (Sat.bind (Sat.loopR (I := fun d _ s => Jn d s) (Q := fun o => o = none ∧ ∀ x, ¬ Fits l x) (done := []) jn_nil fun d f r s e hs => ?_) fun c hc => ?_)
  · have e : l = d ++ f :: r := by rw [← e]; rfl
    have hf := h f (by rw [e]; simp)
    have hd := lcmb_lt (l := d) (fun f hf => h f (by rw [e]; simp [hf])) (by have := congrArg List.length e; simp at this; omega)
    have n1 := hf.a.n1
    have n2 := hf.le
    have b := big40
    have : (1000000000000000000000000000000 : Nat) ^ 1 ≤ 1000000000000000000000000000000 ^ 40 := Nat.pow_le_pow_right (by decide) (by decide)
    have hn := hs.n
    refine Sat.bindEq (do_quarrel hs.a hf.a (by omega)) ?_
    by_cases q : (Int.gcd s.2 f.2 : Int) ∣ s.1 - f.1
    · rw [decide_eq_true q, Bool.not_true, if_neg (by decide)]
      refine Sat.bind (put_together hs.a hf.a (by omega) (by omega) q) fun w hw => Sat.ok (.inl ⟨w, rfl, hw.1, ?_, fun x => ?_⟩)
      · rw [hw.2.1, lcmb_snoc, hn]
      · rw [hw.2.2, hs.fit, fits_snoc]
    · rw [decide_eq_false q, Bool.not_false, if_pos rfl]
      refine Sat.ok (.inr ⟨none, rfl, rfl, fun x hx => q ?_⟩)
      refine quarrel_fit (x := x) ((hs.fit x).mpr fun g hg => hx g (by rw [e]; simp [hg])) (hx f (by rw [e]; simp))
  · rcases hc with ⟨s, rfl, hs⟩ | ⟨v, rfl, rfl, hv⟩
    · exact Sat.ok (.inl ⟨s, rfl, hs⟩)
    · exact Sat.ok (.inr ⟨rfl, hv⟩)
theorem Jn.lt {l : List (Int × Int)} {w : Int × Int} (j : Jn l w) (h : ∀ f ∈ l, Fb f) (hl : l.length ≤ 40) : w.2 < W4 := by
  have := lcmb_lt h hl
  rw [j.n]
  omega
/-- facts that a number fits -/
theorem joined_some {l : List (Int × Int)} (h : ∀ f ∈ l, Fb f) (hl : l.length ≤ 40) {x : Int} (hx : Fits l x) : ∃ w, f_joined_of l = .ok (some w) ∧ Jn l w := by
  obtain ⟨o, e, h2⟩ := joined_of h hl
  rcases h2 with ⟨w, rfl, j⟩ | ⟨_, n⟩
  · exact ⟨w, e, j⟩
  · exact absurd hx (n x)
theorem first_from {w : Int × Int} (h : Fa w) (x : Int) : f_first_from w x = .ok (x + (w.1 - x) % w.2) := by
  unfold f_first_from
  rw [Sat.mod (by have := h.n1; omega), M.ok_bind]
/-- the least number that is not less and fits -/
def ff (w : Int × Int) (x : Int) : Int := x + (w.1 - x) % w.2
theorem ff_prop {w : Int × Int} (h : Fa w) (x : Int) : Fit w (ff w x) ∧ x ≤ ff w x ∧ ff w x < x + w.2 := by
  have n1 := h.n1
  have m0 := Int.emod_nonneg (w.1 - x) (b := w.2) (by omega)
  have m1 := Int.emod_lt_of_pos (w.1 - x) (b := w.2) (by omega)
  refine ⟨⟨-((w.1 - x) / w.2), ?_⟩, by unfold ff; omega, by unfold ff; omega⟩
  have e := Int.mul_ediv_add_emod (w.1 - x) w.2
  unfold ff
  rw [Int.mul_neg]
  omega
/-- how many fit below a number that fits -/
theorem count_to {w : Int × Int} (h : Fa w) (lo : Int) (q : Nat) : sm (fun x => ind (Fit w x)) lo (ff w lo + q * w.2 - lo).toNat = q := by
  obtain ⟨⟨a, ha⟩, h1, h2⟩ := ff_prop h lo
  have n1 := h.n1
  have p : 0 ≤ (q : Int) * w.2 := Int.mul_nonneg (by omega) (by omega)
  rw [sm_fit h]
  have e1 : lo + ((ff w lo + q * w.2 - lo).toNat : Int) - 1 - w.1 = w.2 * (a + q) + (-1) := by
    rw [Int.toNat_of_nonneg (by omega), Int.mul_add, ← ha, Int.mul_comm w.2 q]
    omega
  have e2 : lo - 1 - w.1 = w.2 * a + (lo - 1 - ff w lo) := by
    rw [← ha]
    omega
  have e3 : (lo - 1 - ff w lo) / w.2 = -1 := (Int.ediv_emod_unique (r := lo - 1 - ff w lo + w.2) (by omega)).mpr ⟨by omega, by omega, by omega⟩ |>.1
  rw [e1, e2, Int.mul_add_ediv_left _ _ (by omega), Int.mul_add_ediv_left _ _ (by omega), e3, Int.neg_one_ediv, Int.sign_eq_one_of_pos (by omega)]
  omega
/-- a number that fits is so many rounds behind the first one -/
theorem fit_from {w : Int × Int} (h : Fa w) {lo x : Int} (hx : lo ≤ x) (hf : Fit w x) : ∃ q : Nat, x = ff w lo + q * w.2 := by
  obtain ⟨⟨a, ha⟩, h1, h2⟩ := ff_prop h lo
  have n1 := h.n1
  obtain ⟨b, hb⟩ := hf
  have e : x - ff w lo = w.2 * (b - a) := by rw [Int.mul_sub]; omega
  have nn : 0 ≤ b - a := by
    rcases Int.lt_or_le (b - a) 0 with z | z
    · have : w.2 * (b - a) ≤ w.2 * (-1) := Int.mul_le_mul_of_nonneg_left (by omega) (by omega)
      omega
    · exact z
  refine ⟨(b - a).toNat, ?_⟩
  rw [Int.toNat_of_nonneg nn, Int.mul_comm]
  omega
/-- the numbers of a stretch that fit, one by one -/
theorem fits_list {w : Int × Int} (h : Fa w) (lo : Int) : ∀ n : Nat, (rngL lo n).filter (fun x => decide (Fit w x)) = (rngL 0 (sm (fun x => ind (Fit w x)) lo n).toNat).map fun k => ff w lo + k * w.2
  | 0 => rfl
  | n + 1 => by
    rw [Sat.rngL_succ, List.filter_append, fits_list h lo n]
    have c0 := sm_ind0 (fun x => ind (Fit w x)) (fun x => by unfold ind; split <;> omega) lo n
    have e : sm (fun x => ind (Fit w x)) lo (n + 1) = sm (fun x => ind (Fit w x)) lo n + ind (Fit w (lo + n)) := rfl
    by_cases hf : Fit w (lo + n)
    · obtain ⟨q, hq⟩ := fit_from h (lo := lo) (by omega) hf
      have c := count_to h lo q
      rw [← hq] at c
      rw [show (lo + (n : Int) - lo).toNat = n by omega] at c
      have i1 : ind (Fit w (lo + n)) = 1 := if_pos hf
      rw [e, i1, c, show ((q : Int) + 1).toNat = q + 1 by omega, show (q : Int).toNat = q by omega, Sat.rngL_succ, List.map_append]
      congr 1
      simp [hf]
      omega
    · have i0 : ind (Fit w (lo + n)) = 0 := if_neg hf
      rw [e, i0, Int.add_zero]
      simp [hf]
theorem check_index {x : Int} (h1 : 0 ≤ x) (h2 : x ≤ 10000000000000000000000000000000000000000) : f_check_index x = .ok () := by
  unfold f_check_index
  rw [between_t h1 h2]
  rfl
theorem does_fit {w : Int × Int} (h : Fa w) (x : Int) : f_does_fit w x = .ok (decide (Fit w x)) := by
  unfold f_does_fit
  rw [Sat.mod (by have := h.n1; omega), M.ok_bind]
  congr 1
  exact decide_eq_decide.mpr Int.dvd_iff_emod_eq_zero.symm
theorem fits {l : List (Int × Int)} (h : ∀ f ∈ l, Fb f) (hl : l.length ≤ 40) {x : Int} (h1 : -10000000000000000000000000000000000000000 ≤ x) (h2 : x ≤ 10000000000000000000000000000000000000000) : f_fits l x = .ok (decide (Fits l x)) := by
  unfold f_fits
  rw [check_facts h hl, M.ok_bind, check_number h1 h2, M.ok_bind, Sat.mapC (g := fun f => decide (Fit f x)) (fun f hf => by rw [does_fit (h f hf).a]; rfl) (by omega), M.ok_bind]
  congr 1
  rw [List.all_map]
  rw [Bool.eq_iff_iff, List.all_eq_true, decide_eq_true_iff]
  exact ⟨fun a f hf => of_decide_eq_true (a f hf), fun a f hf => decide_eq_true (a f hf)⟩
end LB

set_option Elab.async false
set_option linter.all false
set_option maxRecDepth 100000
set_option maxHeartbeats 4000000
/-! Lamps that are lit at 2 to their number neighbouring numbers are lit everywhere. -/
namespace LB
open MK MI
abbrev Fun2 := Int → (Nat → Int) → Int
def dop (s : Nat → Int) (g : Fun2) : Fun2 := fun x y => g (x + 1) y - g x (fun i => y i - s i)
theorem dop_comm (s t : Nat → Int) (g : Fun2) : dop s (dop t g) = dop t (dop s g) := by
  funext x y
  have e : (fun i => y i - s i - t i) = fun i => y i - t i - s i := by funext i; omega
  show (g (x + 1 + 1) y - g (x + 1) (fun i => y i - t i)) - (g (x + 1) (fun i => y i - s i) - g x (fun i => y i - s i - t i)) = (g (x + 1 + 1) y - g (x + 1) (fun i => y i - s i)) - (g (x + 1) (fun i => y i - t i) - g x (fun i => y i - t i - s i))
  rw [e]
  omega
def DL : List (Nat → Int) → Fun2 → Fun2
  | [], g => g
  | s :: r, g => dop s (DL r g)
theorem DL_dop (s : Nat → Int) : ∀ (L : List (Nat → Int)) (g : Fun2), dop s (DL L g) = DL L (dop s g)
  | [], _ => rfl
  | t :: r, g => by
    show dop s (dop t (DL r g)) = dop t (DL r (dop s g))
    rw [dop_comm, DL_dop s r g]
theorem DL_app : ∀ (a b : List (Nat → Int)) (g : Fun2), DL (a ++ b) g = DL a (DL b g)
  | [], _, _ => rfl
  | s :: r, b, g => by
    show dop s (DL (r ++ b) g) = dop s (DL r (DL b g))
    rw [DL_app r b g]
theorem DL_swap : ∀ (a b : List (Nat → Int)) (g : Fun2), DL a (DL b g) = DL b (DL a g)
  | [], _, _ => rfl
  | s :: r, b, g => by
    show dop s (DL r (DL b g)) = DL b (dop s (DL r g))
    rw [DL_swap r b g, DL_dop]
theorem DL_sub : ∀ (L : List (Nat → Int)) (g h : Fun2), DL L (fun x y => g x y - h x y) = fun x y => DL L g x y - DL L h x y
  | [], _, _ => rfl
  | s :: r, g, h => by
    show dop s (DL r (fun x y => g x y - h x y)) = _
    rw [DL_sub r g h]
    funext x y
    show (DL r g (x + 1) y - DL r h (x + 1) y) - (DL r g x _ - DL r h x _) = (DL r g (x + 1) y - DL r g x _) - (DL r h (x + 1) y - DL r h x _)
    omega
theorem DL_zero : ∀ L : List (Nat → Int), DL L (fun _ _ => 0) = fun _ _ => 0
  | [] => rfl
  | s :: r => by
    show dop s (DL r (fun _ _ => 0)) = _
    rw [DL_zero r]
    funext x y
    show (0 : Int) - 0 = 0
    rfl
theorem zero_all : ∀ (L : List (Nat → Int)) (g : Fun2) (X : Int), (∀ x y, DL L g x y = 0) → (∀ k : Nat, k < L.length → ∀ y, g (X + k) y = 0) → ∀ x y, g x y = 0
  | [], g, X, h, _ => h
  | s :: r, g, X, h, hk => by
    have z : ∀ x y, dop s g x y = 0 := zero_all r (dop s g) X (fun x y => by
      rw [← DL_dop]
      exact h x y) fun k hk2 y => by
      show g (X + k + 1) y - g (X + k) _ = 0
      have h1 := hk (k + 1) (by simp; omega) y
      have h2 := hk k (by simp; omega) (fun i => y i - s i)
      rw [show X + ((k + 1 : Nat) : Int) = X + k + 1 by omega] at h1
      rw [h1, h2]
      rfl
    have st : ∀ x y, g (x + 1) y = g x (fun i => y i - s i) := fun x y => by
      have : g (x + 1) y - g x (fun i => y i - s i) = 0 := z x y
      omega
    have x0 : ∀ y, g X y = 0 := fun y => by
      have := hk 0 (by simp) y
      rwa [show X + ((0 : Nat) : Int) = X by omega] at this
    have up : ∀ (n : Nat) y, g (X + n) y = 0 := by
      intro n
      induction n with
      | zero => intro y; rw [show X + ((0 : Nat) : Int) = X by omega]; exact x0 y
      | succ n ih =>
        intro y
        rw [show X + ((n + 1 : Nat) : Int) = X + n + 1 by omega, st]
        exact ih _
    have dn : ∀ (n : Nat) y, g (X - n) y = 0 := by
      intro n
      induction n with
      | zero => intro y; rw [show X - ((0 : Nat) : Int) = X by omega]; exact x0 y
      | succ n ih =>
        intro y
        have h1 := st (X - ((n + 1 : Nat) : Int)) (fun i => y i + s i)
        have e : (fun i => (fun i => y i + s i) i - s i) = y := by funext i; show y i + s i - s i = y i; omega
        rw [e, show X - ((n + 1 : Nat) : Int) + 1 = X - n by omega, ih] at h1
        exact h1.symm
    intro x y
    rcases Int.le_total X x with q | q
    · have := up (x - X).toNat y
      rwa [show X + ((x - X).toNat : Int) = x by omega] at this
    · have := dn (X - x).toNat y
      rwa [show X - ((X - x).toNat : Int) = x by omega] at this
def upd (n : Nat) (s : Nat → Int) : Nat → Int := fun i => if i = n then 1 else s i
def subs : Nat → List (Nat → Int)
  | 0 => [fun _ => 0]
  | n + 1 => subs n ++ (subs n).map (upd n)
theorem subs_len : ∀ n : Nat, (subs n).length = 2 ^ n
  | 0 => rfl
  | n + 1 => by
    show (subs n ++ (subs n).map (upd n)).length = _
    rw [List.length_append, List.length_map, subs_len n, Nat.pow_succ]
    omega
theorem subs_at : ∀ (n : Nat) (s : Nat → Int), s ∈ subs n → ∀ i, n ≤ i → s i = 0
  | 0, s, h, i, _ => by
    have : s = fun _ => 0 := by simpa [subs] using h
    rw [this]
  | n + 1, s, h, i, hi => by
    rcases List.mem_append.mp h with h | h
    · exact subs_at n s h i (by omega)
    · obtain ⟨t, ht, rfl⟩ := List.mem_map.mp h
      show (if i = n then 1 else t i) = 0
      rw [if_neg (by omega)]
      exact subs_at n t ht i (by omega)
theorem DL_u (n : Nat) (u : Int → Int) (h : Fun2) : ∀ L : List (Nat → Int), (∀ s ∈ L, s n = 0) → DL L (fun x y => u (y n) * h x y) = fun x y => u (y n) * DL L h x y
  | [], _ => rfl
  | s :: r, hL => by
    show dop s (DL r (fun x y => u (y n) * h x y)) = _
    rw [DL_u n u h r fun t ht => hL t (List.mem_cons_of_mem _ ht)]
    funext x y
    show u (y n) * DL r h (x + 1) y - u (y n - s n) * DL r h x _ = u (y n) * (DL r h (x + 1) y - DL r h x _)
    rw [hL s List.mem_cons_self, Int.sub_zero, Int.mul_sub]
def Ind (n : Nat) (h : Fun2) : Prop := ∀ x y y', (∀ i, i ≠ n → y i = y' i) → h x y = h x y'
theorem ind_DL {n : Nat} {h : Fun2} (i : Ind n h) : ∀ L : List (Nat → Int), Ind n (DL L h)
  | [] => i
  | s :: r => fun x y y' e => by
    show DL r h (x + 1) y - DL r h x _ = DL r h (x + 1) y' - DL r h x _
    rw [ind_DL i r (x + 1) y y' e, ind_DL i r x (fun j => y j - s j) (fun j => y' j - s j) fun j hj => by
      show y j - s j = y' j - s j
      rw [e j hj]]
theorem DL_v {n : Nat} (v : Int → Int) {h : Fun2} (i : Ind n h) : ∀ L : List (Nat → Int), DL (L.map (upd n)) (fun x y => v (y n - x) * h x y) = fun x y => v (y n - x - L.length) * DL L h x y
  | [] => by
    funext x y
    show v (y n - x) * h x y = v (y n - x - (0 : Nat)) * h x y
    rw [show y n - x - ((0 : Nat) : Int) = y n - x by omega]
  | s :: r => by
    show dop (upd n s) (DL (r.map (upd n)) (fun x y => v (y n - x) * h x y)) = _
    rw [DL_v v i r]
    funext x y
    show v (y n - (x + 1) - r.length) * DL r h (x + 1) y - v (y n - upd n s n - x - r.length) * DL r h x (fun j => y j - upd n s j) = v (y n - x - (r.length + 1 : Nat)) * (DL r h (x + 1) y - DL r h x (fun j => y j - s j))
    have e1 : upd n s n = 1 := if_pos rfl
    have e2 : DL r h x (fun j => y j - upd n s j) = DL r h x (fun j => y j - s j) := ind_DL i r x _ _ fun j hj => by
      show y j - (if j = n then 1 else s j) = y j - s j
      rw [if_neg hj]
    rw [e1, e2, show y n - (x + 1) - (r.length : Int) = y n - x - (r.length + 1 : Nat) by omega, show y n - 1 - x - (r.length : Int) = y n - x - (r.length + 1 : Nat) by omega, Int.mul_sub]
def Ff : List (Int × Int) → Fun2
  | [] => fun _ _ => 1
  | f :: r => fun x y => (ind (f.2 ∣ y r.length) - ind (f.2 ∣ (y r.length - x) + f.1)) * Ff r x y
theorem Ff_ind : ∀ (l : List (Int × Int)) (n : Nat), l.length ≤ n → Ind n (Ff l)
  | [], _, _ => fun _ _ _ _ => rfl
  | f :: r, n, h => fun x y y' e => by
    simp only [List.length_cons] at h
    show (ind (f.2 ∣ y r.length) - ind (f.2 ∣ (y r.length - x) + f.1)) * Ff r x y = (ind (f.2 ∣ y' r.length) - ind (f.2 ∣ (y' r.length - x) + f.1)) * Ff r x y'
    rw [Ff_ind r n (by omega) x y y' e, e r.length (by omega)]
theorem Ff_kill : ∀ l : List (Int × Int), DL (subs l.length) (Ff l) = fun _ _ => 0
  | [] => by
    funext x y
    show (1 : Int) - 1 = 0
    rfl
  | f :: r => by
    have e : Ff (f :: r) = fun x y => (fun x y => (fun z => ind (f.2 ∣ z)) (y r.length) * Ff r x y) x y - (fun x y => (fun z => ind (f.2 ∣ z + f.1)) (y r.length - x) * Ff r x y) x y := by
      funext x y
      show (ind (f.2 ∣ y r.length) - ind (f.2 ∣ (y r.length - x) + f.1)) * Ff r x y = ind (f.2 ∣ y r.length) * Ff r x y - ind (f.2 ∣ (y r.length - x) + f.1) * Ff r x y
      rw [Int.sub_mul]
    have s0 : ∀ s ∈ subs r.length, s r.length = 0 := fun s hs => subs_at _ s hs _ (Nat.le_refl _)
    show DL (subs r.length ++ (subs r.length).map (upd r.length)) (Ff (f :: r)) = _
    rw [e, DL_sub, DL_app, DL_app]
    have a : DL (subs r.length) (DL ((subs r.length).map (upd r.length)) (fun x y => (fun z => ind (f.2 ∣ z)) (y r.length) * Ff r x y)) = fun _ _ => 0 := by
      rw [DL_swap, DL_u r.length (fun z => ind (f.2 ∣ z)) (Ff r) _ s0, Ff_kill r]
      have : (fun (x : Int) (y : Nat → Int) => (fun z => ind (f.2 ∣ z)) (y r.length) * (0 : Int)) = fun _ _ => 0 := by
        funext x y
        exact Int.mul_zero _
      rw [this, DL_zero]
    have b : DL (subs r.length) (DL ((subs r.length).map (upd r.length)) (fun x y => (fun z => ind (f.2 ∣ z + f.1)) (y r.length - x) * Ff r x y)) = fun _ _ => 0 := by
      rw [DL_v (fun z => ind (f.2 ∣ z + f.1)) (Ff_ind r _ (Nat.le_refl _)), Ff_kill r]
      have : (fun (x : Int) (y : Nat → Int) => (fun z => ind (f.2 ∣ z + f.1)) (y r.length - x - ((subs r.length).length : Int)) * (0 : Int)) = fun _ _ => 0 := by
        funext x y
        exact Int.mul_zero _
      rw [this, DL_zero]
    rw [a, b]
    rfl
/-- lit somewhere in the list -/
def Lit (l : List (Int × Int)) (x : Int) : Prop := ∃ f ∈ l, Fit f x
instance (l : List (Int × Int)) (x : Int) : Decidable (Lit l x) := inferInstanceAs (Decidable (∃ f ∈ l, Fit f x))
theorem lit_zero {l : List (Int × Int)} {x : Int} : lit l x = 0 ↔ ¬ Lit l x := by
  unfold lit Lit
  rw [List.countP_eq_zero]
  constructor
  · rintro h ⟨f, hf, k⟩
    exact h f hf (decide_eq_true k)
  · intro h f hf k
    exact h ⟨f, hf, of_decide_eq_true k⟩
theorem Ff_lit : ∀ {l : List (Int × Int)} {x : Int}, Lit l x → ∀ y, Ff l x y = 0
  | [], _, h, _ => by obtain ⟨f, hf, _⟩ := h; cases hf
  | f :: r, x, h, y => by
    show (ind (f.2 ∣ y r.length) - ind (f.2 ∣ (y r.length - x) + f.1)) * Ff r x y = 0
    obtain ⟨g, hg, k⟩ := h
    rcases List.mem_cons.mp hg with rfl | hg
    · have e : (g.2 ∣ (y r.length - x) + g.1) ↔ g.2 ∣ y r.length := by
        have k : g.2 ∣ x - g.1 := k
        have : (y r.length - x) + g.1 = y r.length - (x - g.1) := by omega
        rw [this]
        constructor
        · intro q
          have := Int.dvd_add q k
          rwa [show y r.length - (x - g.1) + (x - g.1) = y r.length by omega] at this
        · intro q
          exact Int.dvd_sub q k
      have e2 : ind (g.2 ∣ (y r.length - x) + g.1) = ind (g.2 ∣ y r.length) := by
        unfold ind
        by_cases q : g.2 ∣ y r.length
        · rw [if_pos q, if_pos (e.mpr q)]
        · rw [if_neg q, if_neg fun z => q (e.mp z)]
      rw [e2, Int.sub_self, Int.zero_mul]
    · rw [Ff_lit ⟨g, hg, k⟩, Int.mul_zero]
theorem Ff_dark : ∀ {l : List (Int × Int)} {x : Int}, ¬ Lit l x → Ff l x (fun _ => 0) = 1
  | [], _, _ => rfl
  | f :: r, x, h => by
    show (ind (f.2 ∣ (0 : Int)) - ind (f.2 ∣ ((0 : Int) - x) + f.1)) * Ff r x (fun _ => 0) = 1
    have n : ¬ f.2 ∣ ((0 : Int) - x) + f.1 := fun q => h ⟨f, List.mem_cons_self, by
      have := Int.dvd_neg.mpr q
      rwa [show -((0 : Int) - x + f.1) = x - f.1 by omega] at this⟩
    rw [Ff_dark fun ⟨g, hg, k⟩ => h ⟨g, List.mem_cons_of_mem _ hg, k⟩]
    unfold ind
    rw [if_pos (Int.dvd_zero _), if_neg n]
    rfl
theorem cve {l : List (Int × Int)} {X : Int} (h : ∀ k : Nat, k < 2 ^ l.length → Lit l (X + k)) (x : Int) : Lit l x := by
  have z := zero_all (subs l.length) (Ff l) X (fun x y => by rw [Ff_kill l]) fun k hk y => Ff_lit (h k (by rwa [subs_len] at hk)) y
  apply Classical.byContradiction
  intro q
  have a := z x (fun _ => 0)
  rw [Ff_dark q] at a
  cases a
end LB

set_option Elab.async false
set_option linter.all false
set_option maxRecDepth 100000
namespace LJ
open MI MK 
def f_law_cell (cells : (List Int)) (spot : Int) : M Int := if (decide (spot < (cells.length : Int))) then (M.idx cells spot).bind fun z => .ok z else M.lt ((7919 * spot) + 4021) fun mixed => (M.fold (fun (mixed1 : Int) (each : Int) => M.lt ((((mixed1 * 48337) + each) + 59) % 2147483587) fun mixed3 => .ok mixed3) (mixed : Int) (M.cutO cells none (some 4))).bind fun mixed2 => .ok mixed2
def f_law_jar (cells : (List Int)) (spot : Int) : M (List Int) := (f_law_cell cells spot).bind fun r => .ok ([(r.natAbs : Int), (((r.natAbs : Int) + (907 * spot)) % 2147483587), 0])
def f_law_dig (jar : (List Int)) (wide : Int) : M (Int × (List Int)) := (M.idx jar 2).bind fun z => (M.setAt jar 2 (z + 1)).bind fun jar1 => (M.idx jar1 1).bind fun z1 => M.lt ((z1 % 29989) + 40013) fun by' => (M.mul z1 by').bind fun z2 => (M.idx jar1 2).bind fun z3 => (M.setAt jar1 1 (((z2 + (z3 * 65521)) + 7) % 2147483587)).bind fun jar2 => (M.idx jar2 0).bind fun z4 => if (decide (0 < z4)) then (M.idx jar2 0).bind fun z5 => (M.divmod z5 wide).bind fun z6 => (M.setAt jar2 0 z6.1).bind fun jar3 => .ok (z6.2, jar3) else (M.idx jar2 1).bind fun z7 => (M.mod (z7 / 128) wide).bind fun z8 => .ok (z8, jar2)
def f_law_take (jar : (List Int)) (some : (List (List Int))) : M ((List Int) × (List Int)) := (f_law_dig jar (some.length : Int)).bind fun (r, jar1) => (M.idx some r).bind fun z => .ok (z, jar1)
def f_law_take_2 (jar : (List Int)) (some : (List Int)) : M (Int × (List Int)) := (f_law_dig jar (some.length : Int)).bind fun (r, jar1) => (M.idx some r).bind fun z => .ok (z, jar1)
def f_law_rows (jar : (List Int)) (top : Int) : M ((List (Int × Int)) × (List Int)) := M.lt ([[2, 3, 4, 6, 12], [2, 4, 8, 16], [3, 9, 2, 6], [5, 2, 10, 4], [1, 2, 3, 7], [6, 4, 3, 2, 8]] : (List (List Int))) fun menus => (f_law_take jar menus).bind fun (r, jar1) => (f_law_dig jar1 (top + 1)).bind fun (r1, jar2) => (M.range1 r1).bind fun ns => (M.fold (fun ((jar3, found) : ((List Int) × (List (Int × Int)))) (k' : Int) => (f_law_take_2 jar3 r).bind fun (r2, jar5) => (f_law_dig jar5 r2).bind fun (r3, jar6) => (M.app found (r3, r2)).bind fun found2 => .ok (jar6, found2)) ((jar2, []) : ((List Int) × (List (Int × Int)))) ns).bind fun (jar4, found1) => .ok (found1, jar4)
def f_law_common (a : Int) (b : Int) : M Int := (M.whl (fun ((a1, b1) : (Int × Int)) => .ok (!decide (b1 = 0))) (fun ((a1, b1) : (Int × Int)) => (M.mod a1 b1).bind fun z => .ok (b1, z)) FUEL ((a, b) : (Int × Int))).bind fun (a2, b2) => .ok (a2.natAbs : Int)
def f_law_whole (rows : (List (Int × Int))) : M Int := (M.fold (fun (found : Int) ((r, n) : (Int × Int)) => (f_law_common found n).bind fun r1 => (M.div found r1).bind fun z => (M.mul z n).bind fun z1 => .ok z1) (1 : Int) rows).bind fun found1 => .ok found1
def f_law_lit (rows : (List (Int × Int))) (x : Int) : M Int := (M.optC (fun ((r, n) : (Int × Int)) => ((M.mod (x - r) n).bind fun z => if (decide (z = 0)) then .ok (some 1) else .ok none : M (Option Int))) rows).bind fun ys => .ok (ys.length : Int)
def f_law_low (a : Int) (b : Int) : M (Int × Int) := (f_law_common a b).bind fun r => (M.div a r).bind fun z => (M.div b r).bind fun z1 => .ok (z, z1)
def f_law_product (parts : (List (Int × Int))) : M (Int × Int) := (M.fold (fun ((a, b) : (Int × Int)) ((top, bottom) : (Int × Int)) => (M.mul a top).bind fun z => (M.mul b bottom).bind fun z1 => .ok (z, z1)) ((1, 1) : (Int × Int)) parts).bind fun (a1, b1) => (f_law_low a1 b1).bind fun r => .ok r
end LJ

set_option Elab.async false
set_option linter.all false
set_option maxRecDepth 100000
set_option maxHeartbeats 4000000
/-! What the lamps' laws draw from; their own sums. -/
namespace LJ
open MK MI LB
theorem three {l : List Int} (h : l.length = 3) : ∃ a b c, l = [a, b, c] := by
  match l, h with
  | [a, b, c], _ => exact ⟨a, b, c, rfl⟩
theorem dig {jar : List Int} {wide : Int} (h : jar.length = 3) (h0 : 0 < wide) (h1 : wide < W4) : Sat (f_law_dig jar wide) fun p => (0 ≤ p.1 ∧ p.1 < wide) ∧ p.2.length = 3 := by
  obtain ⟨a, b, c, rfl⟩ := three h
  unfold f_law_dig
  refine Sat.bindEq (Sat.idx (x := c) (by decide) rfl) ?_
  refine Sat.bindEq (Sat.setAt (by decide) (by simp)) ?_
  refine Sat.bindEq (Sat.idx (x := b) (by decide) rfl) (Sat.lt ?_)
  refine Sat.bindEq (Sat.mulR (by omega)) ?_
  refine Sat.bindEq (Sat.idx (x := c + 1) (by decide) rfl) ?_
  refine Sat.bindEq (Sat.setAt (by decide) (by simp)) ?_
  refine Sat.bindEq (Sat.idx (x := a) (by decide) rfl) ?_
  refine Sat.ite (fun hc => ?_) (fun hc => ?_)
  · refine Sat.bindEq (Sat.idx (x := a) (by decide) rfl) ?_
    refine Sat.bindEq (a := (a / wide, a % wide)) ?_ ?_
    · unfold M.divmod
      rw [decide_eq_true h0, decide_eq_true (p := wide.natAbs < W4) (by omega)]
      rfl
    · refine Sat.bindEq (Sat.setAt (by decide) (by simp)) (Sat.ok ⟨⟨Int.emod_nonneg _ (by omega), Int.emod_lt_of_pos _ h0⟩, rfl⟩)
  · refine Sat.bindEq (Sat.idx (x := ((b * (b % 29989 + 40013) + (c + 1) * 65521) + 7) % 2147483587) (by decide) rfl) ?_
    exact Sat.bindEq (Sat.mod h0) (Sat.ok ⟨⟨Int.emod_nonneg _ (by omega), Int.emod_lt_of_pos _ h0⟩, rfl⟩)
theorem cell {cells : List Int} {spot : Int} (h : 0 ≤ spot) : Sat (f_law_cell cells spot) fun _ => True := by
  unfold f_law_cell
  refine Sat.ite (fun hc => ?_) (fun hc => ?_)
  · have := of_decide_eq_true hc
    exact Sat.bindEq (Sat.idx0 h (by omega)) (Sat.ok trivial)
  · exact Sat.lt (Sat.bind (P := fun _ => True) (Sat.foldI trivial fun s x _ _ => Sat.lt (Sat.ok trivial)) fun _ _ => Sat.ok trivial)
theorem jar {cells : List Int} {spot : Int} (h : 0 ≤ spot) : Sat (f_law_jar cells spot) fun l => l.length = 3 := by
  unfold f_law_jar
  exact Sat.bind (cell h) fun r _ => Sat.ok rfl
theorem pos_of {l : List Int} {x : Int} (h : x ∈ l) : 0 < (l.length : Int) := by
  have := List.length_pos_of_mem h
  omega
theorem w4_gt : (18446744073709551616 : Nat) < W4 := by
  unfold W4
  decide +kernel
theorem take2 {jar some : List Int} (h : jar.length = 3) (hn : some ≠ []) (hl : some.length < 18446744073709551616) : Sat (f_law_take_2 jar some) fun p => p.1 ∈ some ∧ p.2.length = 3 := by
  unfold f_law_take_2
  have w := w4_gt
  have := List.length_pos_iff.mpr hn
  refine Sat.bind (dig h (by omega) (by omega)) fun p hp => ?_
  obtain ⟨r, j⟩ := p
  dsimp only at hp ⊢
  refine Sat.bindEq (Sat.idx0 (by omega) (by omega)) (Sat.ok ⟨?_, hp.2⟩)
  exact List.getElem_mem _
theorem take1 {jar : List Int} {some : List (List Int)} (h : jar.length = 3) (hn : some ≠ []) (hl : some.length < 18446744073709551616) : Sat (f_law_take jar some) fun p => p.1 ∈ some ∧ p.2.length = 3 := by
  unfold f_law_take
  have w := w4_gt
  have := List.length_pos_iff.mpr hn
  refine Sat.bind (dig h (by omega) (by omega)) fun p hp => ?_
  obtain ⟨r, j⟩ := p
  dsimp only at hp ⊢
  refine Sat.bindEq (Sat.idx0 (by omega) (by omega)) (Sat.ok ⟨?_, hp.2⟩)
  exact List.getElem_mem _
theorem lcmb_dvd {M : Nat} : ∀ {r : List (Int × Int)}, (∀ f ∈ r, f.2 ∣ (M : Int)) → lcmb r.reverse ∣ M
  | [], _ => Nat.one_dvd _
  | f :: r, h => by
    rw [List.reverse_cons, lcmb_snoc]
    exact Int.lcm_dvd (Int.natCast_dvd_natCast.mpr (lcmb_dvd fun g hg => h g (List.mem_cons_of_mem _ hg))) (h f List.mem_cons_self)
/-- drawn lamps -/
structure Rows (top : Nat) (l : List (Int × Int)) : Prop where
  f : ∀ f ∈ l, Fa f ∧ f.2 ≤ 16
  len : l.length ≤ top
  w : lcmb l ≤ 48
theorem Rows.fb {top : Nat} {l : List (Int × Int)} (h : Rows top l) : ∀ f ∈ l, Fb f := fun f hf => ⟨(h.f f hf).1, by have := (h.f f hf).2; omega⟩
theorem rows {jar : List Int} {top : Int} (h : jar.length = 3) (ht : 0 ≤ top) (ht2 : top < 1000) : Sat (f_law_rows jar top) fun p => Rows top.toNat p.1 ∧ p.2.length = 3 := by
  unfold f_law_rows
  have w := w4_gt
  refine Sat.lt (Sat.bind (take1 h (by simp) (by decide)) fun p hp => ?_)
  obtain ⟨menu, j1⟩ := p
  obtain ⟨hm, h1⟩ := hp
  dsimp only at hm h1 ⊢
  have hM : ∃ M : Nat, 0 < M ∧ M ≤ 48 ∧ menu ≠ [] ∧ menu.length < 10 ∧ ∀ n ∈ menu, n ∣ (M : Int) ∧ 0 < n ∧ n ≤ 16 := by
    have : menu = [2, 3, 4, 6, 12] ∨ menu = [2, 4, 8, 16] ∨ menu = [3, 9, 2, 6] ∨ menu = [5, 2, 10, 4] ∨ menu = [1, 2, 3, 7] ∨ menu = [6, 4, 3, 2, 8] := by simpa using hm
    rcases this with rfl | rfl | rfl | rfl | rfl | rfl
    · exact ⟨12, by decide, by decide, by decide, by decide, by decide⟩
    · exact ⟨16, by decide, by decide, by decide, by decide, by decide⟩
    · exact ⟨18, by decide, by decide, by decide, by decide, by decide⟩
    · exact ⟨20, by decide, by decide, by decide, by decide, by decide⟩
    · exact ⟨42, by decide, by decide, by decide, by decide, by decide⟩
    · exact ⟨24, by decide, by decide, by decide, by decide, by decide⟩
  obtain ⟨M, M0, M48, mn, ml, hM⟩ := hM
  refine Sat.bind (dig h1 (by omega) (by omega)) fun p hp => ?_
  obtain ⟨r1, j2⟩ := p
  dsimp only at hp ⊢
  refine Sat.bindEq (Sat.range1 (by omega) (by omega)) ?_
  have hlen : (rngL 0 r1.toNat).length = r1.toNat := by unfold rngL; simp
  refine Sat.bind (P := fun s => s.1.length = 3 ∧ s.2.length ≤ top.toNat ∧ ∀ f ∈ s.2, Fa f ∧ f.2 ≤ 16 ∧ f.2 ∣ (M : Int)) ?_ fun s hs => ?_
  · refine Sat.mono (Sat.fold (I := fun d _ s => s.1.length = 3 ∧ s.2.length = d.length ∧ ∀ f ∈ s.2, Fa f ∧ f.2 ≤ 16 ∧ f.2 ∣ (M : Int)) (done := []) ⟨hp.2, rfl, fun f hf => by simp at hf⟩ fun d x r s e hs => ?_) fun s hs => ⟨hs.1, by rw [hs.2.1, List.nil_append, hlen]; omega, hs.2.2⟩
    obtain ⟨j3, found⟩ := s
    obtain ⟨s1, s2, s3⟩ := hs
    have dl : d.length < 1000 := by
      have := congrArg List.length e
      simp at this
      omega
    dsimp only at s1 s2 s3 ⊢
    refine Sat.bind (take2 s1 mn (by omega)) fun p hp => ?_
    obtain ⟨n, j5⟩ := p
    obtain ⟨q1, q2⟩ := hp
    obtain ⟨n1, n2, n3⟩ := hM n q1
    dsimp only at q2 ⊢
    refine Sat.bind (dig q2 n2 (by omega)) fun p hp => ?_
    obtain ⟨r3, j6⟩ := p
    dsimp only at hp ⊢
    refine Sat.bindEq (Sat.app (by omega)) (Sat.ok ⟨hp.2, by simp [s2], fun f hf => ?_⟩)
    rcases List.mem_append.mp hf with hf | hf
    · exact s3 f hf
    · have : f = (r3, n) := by simpa using hf
      subst this
      exact ⟨⟨by dsimp only; omega, hp.1.1, hp.1.2⟩, n3, n1⟩
  · obtain ⟨j4, found⟩ := s
    obtain ⟨s1, s2, s3⟩ := hs
    refine Sat.ok ⟨⟨fun f hf => ⟨(s3 f hf).1, (s3 f hf).2.1⟩, s2, ?_⟩, s1⟩
    have := lcmb_dvd (M := M) (r := found.reverse) fun f hf => (s3 f (List.mem_reverse.mp hf)).2.2
    rw [List.reverse_reverse] at this
    exact Nat.le_trans (Nat.le_of_dvd M0 this) M48
theorem common {a b : Int} (ha : 0 ≤ a) (hb : 0 ≤ b) (h : b < W4) : f_law_common a b = .ok (Int.gcd a b : Int) := by
  unfold f_law_common
  refine Sat.toEq (Sat.bind (P := fun s => s.1 = (Int.gcd a b : Int)) (Sat.whl (I := fun s => 0 ≤ s.1 ∧ 0 ≤ s.2 ∧ Nat.gcd s.1.natAbs s.2.natAbs = Int.gcd a b) (μ := fun s => es s.1.natAbs s.2.natAbs) (fun s hs => ?_) ⟨ha, hb, rfl⟩ (Sat.fuel ?_)) fun s hs => ?_)
  · obtain ⟨x, y⟩ := s
    obtain ⟨hx, hy, hg⟩ := hs
    dsimp only at hx hy hg
    refine Sat.ok ?_
    by_cases h0 : y = 0
    · subst h0
      rw [decide_eq_true rfl, Bool.not_true, if_neg (by decide)]
      dsimp only
      have : x.natAbs = Int.gcd a b := by simpa using hg
      omega
    · rw [decide_eq_false h0, Bool.not_false, if_pos rfl]
      have yp : 0 < y := by omega
      refine Sat.bindEq (Sat.mod yp) (Sat.ok ⟨⟨hy, Int.emod_nonneg _ (by omega), ?_⟩, ?_⟩)
      · dsimp only
        rw [natAbs_emod hx yp, ← hg, Nat.gcd_comm y.natAbs, ← Nat.gcd_rec, Nat.gcd_comm]
      · dsimp only
        rw [natAbs_emod hx yp, es_pos (a := x.natAbs) (b := y.natAbs) (by omega)]
        omega
  · have := es_le 4000 a.natAbs b.natAbs (by
      have : b.natAbs < W4 := by omega
      exact this)
    dsimp only
    omega
  · obtain ⟨x, y⟩ := s
    dsimp only at hs ⊢
    refine Sat.ok ?_
    rw [hs]
    omega
theorem whole {l : List (Int × Int)} (h : ∀ f ∈ l, Fb f) (hl : l.length ≤ 39) : f_law_whole l = .ok (lcmb l : Int) := by
  unfold f_law_whole
  have := Sat.fold (f := fun (found : Int) ((r, n) : (Int × Int)) => (f_law_common found n).bind fun r1 => (M.div found r1).bind fun z => (M.mul z n).bind fun z1 => .ok z1) (I := fun d _ s => s = (lcmb d : Int)) (xs := l) (done := []) (s := 1) rfl fun d x r s e hs => by
    obtain ⟨x1, x2⟩ := x
    have e : l = d ++ (x1, x2) :: r := by rw [← e]; rfl
    have hx := h (x1, x2) (by rw [e]; simp)
    have hd := lcmb_lt (l := d) (fun f hf => h f (by rw [e]; simp [hf])) (by have := congrArg List.length e; simp at this; omega)
    have n1 := hx.a.n1
    have n2 := hx.le
    have b := big40
    have : (1000000000000000000000000000000 : Nat) ^ 1 ≤ 1000000000000000000000000000000 ^ 40 := Nat.pow_le_pow_right (by decide) (by decide)
    subst hs
    dsimp only at n1 n2 ⊢
    have g : 0 < Int.gcd (lcmb d : Int) x2 := Int.gcd_pos_of_ne_zero_right _ (by omega)
    have gl : Int.gcd (lcmb d : Int) x2 ≤ x2.natAbs := Int.gcd_le_natAbs_right _ (by omega)
    have wm := w4_wm
    have e2 : Int.gcd (lcmb d : Int) x2 * Int.lcm (lcmb d : Int) x2 = (lcmb d : Int).natAbs * x2.natAbs := Int.gcd_mul_lcm ..
    obtain ⟨k, hk⟩ : (Int.gcd (lcmb d : Int) x2 : Int) ∣ (lcmb d : Int) := Int.gcd_dvd_left ..
    have q : (lcmb d : Int) / (Int.gcd (lcmb d : Int) x2 : Int) = k := by
      have := Int.mul_ediv_cancel_left k (a := (Int.gcd (lcmb d : Int) x2 : Int)) (by omega)
      rw [← hk] at this
      exact this
    have k0 : 0 ≤ k := by
      rcases Int.lt_or_le k 0 with z | z
      · have := Int.mul_neg_of_pos_of_neg (a := (Int.gcd (lcmb d : Int) x2 : Int)) (b := k) (by omega) z
        omega
      · exact z
    have kl : k ≤ (lcmb d : Int) := by
      have : 1 * k ≤ (Int.gcd (lcmb d : Int) x2 : Int) * k := Int.mul_le_mul_of_nonneg_right (by omega) k0
      omega
    refine Sat.bindEq (common (by omega) (by omega) (by omega)) (Sat.bindEq (div' (by omega) (by omega)) (Sat.bindEq (mul' ?_ (by omega)) (Sat.ok ?_)))
    · rw [q]; omega
    · rw [q, lcmb_snoc]
      have e3 : (Int.gcd (lcmb d : Int) x2 : Int) * (k * x2) = (Int.gcd (lcmb d : Int) x2 : Int) * (Int.lcm (lcmb d : Int) x2 : Int) := by
        rw [← Int.mul_assoc, ← hk, ← Int.natCast_mul, e2, Int.natCast_mul, Int.natAbs_natCast, Int.natAbs_of_nonneg (by omega)]
      exact Int.eq_of_mul_eq_mul_left (by omega) e3
  rw [List.nil_append] at this
  obtain ⟨s, e, rfl⟩ := this
  rw [e]
  rfl
theorem law_lit {l : List (Int × Int)} (h : ∀ f ∈ l, Fb f) (hl : l.length ≤ 1000) (x : Int) : f_law_lit l x = .ok (lit l x : Int) := by
  unfold f_law_lit
  rw [Sat.optC (g := fun f => if Fit f x then some 1 else none) (fun f hf => ?_) (by omega), M.ok_bind]
  · congr 2
    unfold lit
    clear h hl
    induction l with
    | nil => rfl
    | cons f l ih =>
      rw [List.filterMap_cons, List.countP_cons]
      by_cases hf : Fit f x
      · simp [hf, ih]
      · simp [hf, ih]
  · obtain ⟨r, n⟩ := f
    have := (h _ hf).a.n1
    dsimp only at this ⊢
    rw [Sat.mod (by omega), M.ok_bind]
    by_cases hc : Fit (r, n) x
    · rw [decide_eq_true (Int.emod_eq_zero_of_dvd hc), if_pos rfl, if_pos hc]
    · rw [decide_eq_false fun z => hc (Int.dvd_of_emod_eq_zero z), if_neg (by decide), if_neg hc]
theorem law_low {a b : Int} (ha : 0 ≤ a) (hb : 0 < b) (h : b < W4) : f_law_low a b = .ok (LB.low a b) := by
  unfold f_law_low
  have g : 0 < Int.gcd a b := Int.gcd_pos_of_ne_zero_right _ (by omega)
  have gl : Int.gcd a b ≤ b.natAbs := Int.gcd_le_natAbs_right _ (by omega)
  rw [common ha (by omega) h, M.ok_bind, div' (by omega) (by omega), M.ok_bind, div' (by omega) (by omega), M.ok_bind]
  rfl
end LJ

set_option Elab.async false
set_option linter.all false
set_option maxRecDepth 100000
namespace LC
open MI MK LB
def f_raised (number : Int) (power : Int) : M Int := (M.whl (fun ((power1, found, here) : (Int × Int × Int)) => .ok (decide (0 < power1))) (fun ((power1, found, here) : (Int × Int × Int)) => (if (decide ((power1 % 2) = 1)) then (M.mul found here).bind fun z => .ok z else .ok found : M Int).bind fun found2 => M.lt (power1 / 2) fun power3 => (if (decide (0 < power3)) then (M.mul here here).bind fun z1 => .ok z1 else .ok here : M Int).bind fun v => .ok (power3, found2, v)) FUEL ((power, 1, number) : (Int × Int × Int))).bind fun (power2, found1, here1) => .ok found1
def f_is_lit (lamps : (List (Int × Int))) (number : Int) : M Bool := (M.mapC (fun (lamp : (Int × Int)) => ((f_does_fit lamp number).bind fun r => .ok r : M Bool)) lamps).bind fun ys => .ok (ys.any id)
def f_first_dark (lamps : (List (Int × Int))) (number : Int) : M (Option Int) := (f_raised (2 : Int) (lamps.length : Int)).bind fun r => (M.range1 r).bind fun ns => (M.loop (fun (_ : Unit) (step : Int) => ((f_is_lit lamps (number + step)).bind fun r1 => if (!r1) then .ok (.rt (some (number + step))) else .ok (.nx ()) : M (Ct Unit (Option Int)))) (() : Unit) ns).bind (M.fl (fun (_ : Unit) => .ok none) (fun r => .ok r))
def f_dark_from (lamps : (List (Int × Int))) (number : Int) : M (Option Int) := (f_check_lamps lamps).bind fun r => (f_check_number number).bind fun r1 => (f_first_dark lamps number).bind fun r2 => .ok r2
def f_shifted (lamp : (Int × Int)) (step : Int) : M (Int × Int) := (M.mod (lamp.1 - step) lamp.2).bind fun z => .ok (z, lamp.2)
def f_does_tell (whole : (Int × Int)) (fact : (Int × Int)) : M Bool := ((M.mod whole.2 fact.2).bind fun z => if (decide (z = 0)) then (f_does_fit fact whole.1).bind fun r => .ok r else .ok false : M Bool).bind fun v => .ok v
def f_is_lit_2 (lamps : (List (Int × Int))) (number : Int) : M Bool := (M.mapC (fun (lamp : (Int × Int)) => ((f_does_fit lamp number).bind fun r => .ok r : M Bool)) lamps).bind fun ys => .ok (ys.any id)
def f_is_hopeless (lamps : (List (Int × Int))) (whole : (Int × Int)) (step : Int) (goal : Int) : M Bool := (M.optC (fun (lamp : (Int × Int)) => ((M.mod whole.2 lamp.2).bind fun z => if (decide (z = 0)) then .ok (some lamp) else .ok none : M (Option (Int × Int)))) lamps).bind fun ys => (M.range step goal).bind fun ns => (M.optC (fun (here : Int) => ((f_is_lit_2 ys (whole.1 + here)).bind fun r => if (!r) then .ok (some here) else .ok none : M (Option Int))) ns).bind fun ys1 => (M.optC (fun ((rest, base) : (Int × Int)) => ((M.mod whole.2 base).bind fun z1 => if (!decide (z1 = 0)) then (M.div (((goal - step) + base) - 1) base).bind fun z2 => .ok (some z2) else .ok none : M (Option Int))) lamps).bind fun ys2 => .ok (decide (ys2.sum < (ys1.length : Int)))
def f_start_of_r : Nat → (List (Int × Int)) → (Int × Int) → Int → Int → M (Option Int)
  | 0, _, _, _, _ => M.no
  | n + 1, lamps, whole, step, goal => (M.whl (fun (step1 : Int) => (if (decide (step1 < goal)) then (M.mapC (fun (lamp : (Int × Int)) => ((f_shifted lamp step1).bind fun r => (f_does_tell whole r).bind fun r1 => .ok r1 : M Bool)) lamps).bind fun ys => .ok (ys.any id) else .ok false : M Bool).bind fun v => .ok v) (fun (step1 : Int) => M.lt (step1 + 1) fun step3 => .ok step3) FUEL (step : Int)).bind fun step2 => if (decide (step2 = goal)) then .ok (some whole.1) else (f_is_hopeless lamps whole step2 goal).bind fun r2 => if r2 then .ok none else (M.loop (fun (_ : Unit) (lamp1 : (Int × Int)) => ((f_shifted lamp1 step2).bind fun r3 => (f_do_quarrel whole r3).bind fun r4 => if (!r4) then (f_put_together whole r3).bind fun r5 => (f_start_of_r n lamps r5 step2 goal).bind fun r6 => M.opt r6 (.ok (.nx ())) fun found => .ok (.rt (some found)) else .ok (.nx ()) : M (Ct Unit (Option Int)))) (() : Unit) lamps).bind (M.fl (fun (_ : Unit) => .ok none) (fun r => .ok r))
def f_start_of (lamps : (List (Int × Int))) (whole : (Int × Int)) (step : Int) (goal : Int) : M (Option Int) := f_start_of_r 20 lamps whole step goal
def f_first_dark_2 (lamps : (List (Int × Int))) (number : (Option Int)) : M (Option Int) := (f_raised (2 : Int) (lamps.length : Int)).bind fun r => (M.range1 r).bind fun ns => (M.loop (fun (_ : Unit) (step : Int) => (M.opt number .no fun y => (f_is_lit lamps (y + step)).bind fun r1 => if (!r1) then .ok (.rt (some (y + step))) else .ok (.nx ()) : M (Ct Unit (Option Int)))) (() : Unit) ns).bind (M.fl (fun (_ : Unit) => .ok none) (fun r => .ok r))
def f_longest_lit (lamps : (List (Int × Int))) : M (Option Int) := (f_check_lamps lamps).bind fun r => (f_first_dark lamps (0 : Int)).bind fun r1 => if r1.isNone then .ok none else (f_start_of lamps (0, 1) (0 : Int) (1 : Int)).bind fun r2 => (M.whl (fun ((found, start) : (Int × (Option Int))) => .ok start.isSome) (fun ((found, start) : (Int × (Option Int))) => (f_first_dark_2 lamps start).bind fun r3 => M.opt r3 .no fun y => M.opt start .no fun y1 => (f_start_of lamps (0, 1) (0 : Int) ((y - y1) + 1)).bind fun r4 => .ok ((y - y1), r4)) FUEL ((0, r2) : (Int × (Option Int)))).bind fun (found1, start1) => .ok (some found1)
def f_count_dark (lamps : (List (Int × Int))) (low : Int) (high : Int) : M Int := (f_check_lamps lamps).bind fun r => (f_check_span low high).bind fun r1 => (f_terms_of lamps).bind fun r2 => (f_dark_between r2 low high).bind fun r3 => .ok r3
def f_do_cover (lamps : (List (Int × Int))) : M Bool := (f_first_dark lamps (0 : Int)).bind fun r => .ok r.isNone
def f_covers (lamps : (List (Int × Int))) : M Bool := (f_check_lamps lamps).bind fun r => (f_do_cover lamps).bind fun r1 => .ok r1
def f_lit_from (lamps : (List (Int × Int))) (many : Int) : M (Option Int) := (f_check_lamps lamps).bind fun r => (f_check_between many (0 : Int) (1000000 : Int)).bind fun r1 => (f_first_dark lamps (0 : Int)).bind fun r2 => if r2.isNone then .ok (some 0) else ((f_raised (2 : Int) (lamps.length : Int)).bind fun r3 => if (decide (many < r3)) then (f_start_of lamps (0, 1) (0 : Int) many).bind fun r4 => .ok r4 else .ok none : M (Option Int)).bind fun v => .ok v
end LC

set_option Elab.async false
set_option linter.all false
set_option maxRecDepth 100000
set_option maxHeartbeats 4000000
/-! The first dark number. -/
namespace LC
open MK MI LB
theorem pow_pos' {a : Int} (h : 1 ≤ a) : ∀ n : Nat, 1 ≤ a ^ n
  | 0 => by rw [Int.pow_zero]; omega
  | n + 1 => by
    rw [Int.pow_succ]
    have := pow_pos' h n
    have : 1 * 1 ≤ a ^ n * a := Int.mul_le_mul this h (by omega) (by omega)
    omega
theorem le_pow' {a : Int} (h : 1 ≤ a) {n : Nat} (hn : 0 < n) : a ≤ a ^ n := by
  obtain ⟨m, rfl⟩ : ∃ m, n = m + 1 := ⟨n - 1, by omega⟩
  rw [Int.pow_succ]
  have := pow_pos' h m
  have : 1 * a ≤ a ^ m * a := Int.mul_le_mul_of_nonneg_right this (by omega)
  omega
theorem raised {b : Int} {n : Nat} (hb : 1 ≤ b) (h : b ^ n < 18446744073709551616) (hn : n < 1000000) : f_raised b (n : Int) = .ok (b ^ n) := by
  refine Sat.toEq ?_
  unfold f_raised
  refine Sat.bind (Sat.whl (I := fun s : Int × Int × Int => 0 ≤ s.1 ∧ s.1 ≤ (n : Int) ∧ 1 ≤ s.2.1 ∧ 1 ≤ s.2.2 ∧ s.2.1 * s.2.2 ^ s.1.toNat = b ^ n) (P := fun s => s.2.1 = b ^ n) (μ := fun s => s.1.toNat) (fun s hs => ?_) ⟨by dsimp only; omega, by dsimp only; omega, Int.le_refl _, hb, by simp⟩ (Sat.fuel (by dsimp only; omega))) fun s hs => Sat.ok hs
  obtain ⟨p, f, h2⟩ := s
  obtain ⟨p0, p1, f1, h1, e⟩ := hs
  dsimp only at p0 p1 f1 h1 e ⊢
  refine Sat.ok ?_
  by_cases c : 0 < p
  · rw [decide_eq_true c, if_pos rfl]
    have pw := pow_pos' h1 p.toNat
    have f2 : f ≤ b ^ n := by
      have : f * 1 ≤ f * h2 ^ p.toNat := Int.mul_le_mul_of_nonneg_left pw (by omega)
      omega
    have hp := le_pow' h1 (n := p.toNat) (by omega)
    have h3 : h2 ≤ b ^ n := by
      have : 1 * h2 ^ p.toNat ≤ f * h2 ^ p.toNat := Int.mul_le_mul_of_nonneg_right f1 (by omega)
      omega
    have e1 : (if decide (p % 2 = 1) = true then (M.mul f h2).bind fun z => .ok z else .ok f : M Int) = .ok (if p % 2 = 1 then f * h2 else f) := by
      by_cases q : p % 2 = 1
      · rw [decide_eq_true q, if_pos rfl, if_pos q, Sat.mulL (by omega)]
        rfl
      · rw [decide_eq_false q, if_neg (by decide), if_neg q]
    rw [e1, M.ok_bind]
    refine Sat.lt ?_
    have e2 : (if decide (0 < p / 2) = true then (M.mul h2 h2).bind fun z1 => .ok z1 else .ok h2 : M Int) = .ok (if 0 < p / 2 then h2 * h2 else h2) := by
      by_cases q : 0 < p / 2
      · rw [decide_eq_true q, if_pos rfl, if_pos q, Sat.mulL (by omega)]
        rfl
      · rw [decide_eq_false q, if_neg (by decide), if_neg q]
    rw [e2, M.ok_bind]
    have hh : 1 ≤ h2 * h2 := by
      have : 1 * 1 ≤ h2 * h2 := Int.mul_le_mul h1 h1 (by omega) (by omega)
      omega
    have fh : 1 ≤ f * h2 := by
      have : 1 * 1 ≤ f * h2 := Int.mul_le_mul f1 h1 (by omega) (by omega)
      omega
    refine Sat.ok ⟨⟨by dsimp only; omega, by dsimp only; omega, by dsimp only; split <;> assumption, by dsimp only; split <;> assumption, ?_⟩, by dsimp only; omega⟩
    dsimp only
    obtain ⟨k, hk⟩ : ∃ k : Nat, p = 2 * k ∨ p = 2 * k + 1 := ⟨(p / 2).toNat, by omega⟩
    rcases hk with hk | hk
    · have k1 : 0 < k := by omega
      rw [if_neg (by omega), if_pos (by omega), ← e, hk]
      have a1 : (2 * (k : Int) / 2).toNat = k := by omega
      have a2 : (2 * (k : Int)).toNat = k + k := by omega
      rw [a1, a2, Int.pow_add, Int.mul_pow]
    · rw [if_pos (by omega), ← e, hk]
      have a1 : ((2 * (k : Int) + 1) / 2).toNat = k := by omega
      have a2 : (2 * (k : Int) + 1).toNat = k + k + 1 := by omega
      rw [a1, a2, Int.pow_succ, Int.pow_add]
      by_cases q : 0 < k
      · rw [if_pos (by omega), Int.mul_pow]
        grind
      · have : k = 0 := by omega
        subst this
        simp
  · rw [decide_eq_false c, if_neg (by decide)]
    have : p = 0 := by omega
    subst this
    rw [← e]
    simp
theorem two_pow {n : Nat} (hn : n ≤ 12) : f_raised 2 (n : Int) = .ok (2 ^ n) ∧ (2 : Int) ^ n ≤ 4096 ∧ 1 ≤ (2 : Int) ^ n := by
  have h : (2 : Int) ^ n ≤ 2 ^ 12 := by
    have h1 : 2 ^ n ≤ 2 ^ 12 := Nat.pow_le_pow_right (by decide) hn
    have h2 : ((2 ^ n : Nat) : Int) ≤ ((2 ^ 12 : Nat) : Int) := by omega
    simpa using h2
  have e : (2 : Int) ^ 12 = 4096 := by decide
  exact ⟨raised (by decide) (by omega) (by omega), by omega, pow_pos' (by decide) n⟩
theorem is_lit {l : List (Int × Int)} (h : ∀ f ∈ l, Fa f) (hl : l.length ≤ 1000) (x : Int) : f_is_lit l x = .ok (decide (Lit l x)) := by
  unfold f_is_lit
  rw [Sat.mapC (g := fun f => decide (Fit f x)) (fun f hf => by rw [does_fit (h f hf)]; rfl) (by omega), M.ok_bind]
  congr 1
  rw [List.any_map, Bool.eq_iff_iff, List.any_eq_true]
  simp only [Function.comp_apply, id, decide_eq_true_eq]
  rfl
theorem is_lit_2 {l : List (Int × Int)} (h : ∀ f ∈ l, Fa f) (hl : l.length ≤ 1000) (x : Int) : f_is_lit_2 l x = .ok (decide (Lit l x)) := is_lit h hl x
/-- the first dark number -/
def FD (l : List (Int × Int)) (x : Int) (o : Option Int) : Prop := (o = none ∧ ∀ y, Lit l y) ∨ ∃ w, o = some w ∧ x ≤ w ∧ ¬ Lit l w ∧ (∀ y, x ≤ y → y < w → Lit l y) ∧ w < x + 2 ^ l.length
theorem FD.eq {l : List (Int × Int)} {x : Int} {o p : Option Int} (h : FD l x o) (k : FD l x p) : o = p := by
  rcases h with ⟨rfl, h⟩ | ⟨w, rfl, w1, w2, w3, _⟩
  · rcases k with ⟨rfl, _⟩ | ⟨v, rfl, v1, v2, v3, _⟩
    · rfl
    · exact absurd (h v) v2
  · rcases k with ⟨rfl, k⟩ | ⟨v, rfl, v1, v2, v3, _⟩
    · exact absurd (k w) w2
    · rcases Int.lt_trichotomy w v with q | q | q
      · exact absurd (v3 w w1 q) w2
      · rw [q]
      · exact absurd (w3 v v1 q) v2
/-- moved and turned about lamps: the first dark number goes with them -/
theorem rng_at {lo : Int} {n : Nat} {d r : List Int} {x : Int} (e : rngL lo n = d ++ x :: r) : x = lo + d.length ∧ d.length < n := by
  have h1 : (rngL lo n)[d.length]? = some x := by rw [e]; simp
  unfold rngL at h1
  rw [List.getElem?_map] at h1
  by_cases h : d.length < n
  · rw [List.getElem?_range h] at h1
    simp at h1
    exact ⟨h1.symm, h⟩
  · rw [List.getElem?_eq_none (by simp; omega)] at h1
    simp at h1
theorem first_dark {l : List (Int × Int)} (h : ∀ f ∈ l, Fa f) (hl : l.length ≤ 12) (x : Int) : Sat (f_first_dark l x) (FD l x) := by
  unfold f_first_dark
  obtain ⟨t1, t2, t3⟩ := two_pow hl
  rw [t1, M.ok_bind, Sat.range1 (by omega) (by omega), M.ok_bind]
  refine Sat.bind (Sat.loopR (I := fun d _ _ => ∀ y, x ≤ y → y < x + (d.length : Int) → Lit l y) (Q := FD l x) (done := []) (fun y h1 h2 => by simp at h2; omega) fun d k r s e hd => ?_) fun c hc => ?_
  · rw [List.nil_append] at e
    obtain ⟨rfl, hk⟩ := rng_at e
    rw [is_lit h (by omega), M.ok_bind]
    have e0 : x + (0 + (d.length : Int)) = x + d.length := by omega
    rw [e0]
    by_cases q : Lit l (x + d.length)
    · rw [decide_eq_true q, Bool.not_true, if_neg (by decide)]
      refine Sat.ok (.inl ⟨s, rfl, fun y y1 y2 => ?_⟩)
      rw [List.length_append, List.length_singleton] at y2
      by_cases z : y = x + d.length
      · rw [z]; exact q
      · exact hd y y1 (by omega)
    · rw [decide_eq_false q, Bool.not_false, if_pos rfl]
      refine Sat.ok (.inr ⟨_, rfl, .inr ⟨_, rfl, by omega, q, hd, by omega⟩⟩)
  · rcases hc with ⟨s, rfl, hs⟩ | ⟨v, rfl, hv⟩
    · refine Sat.ok (.inl ⟨rfl, ?_⟩)
      rw [List.nil_append, Sat.rngL_len] at hs
      refine cve (X := x) fun k hk => hs _ (by omega) ?_
      have : ((2 ^ l.length : Nat) : Int) = 2 ^ l.length := by simp
      omega
    · exact Sat.ok hv
theorem first_dark_2 (l : List (Int × Int)) (x : Int) : f_first_dark_2 l (some x) = f_first_dark l x := rfl
end LC

set_option Elab.async false
set_option linter.all false
set_option maxRecDepth 100000
set_option maxHeartbeats 4000000
/-! Lit stretches. -/
namespace LC
open MK MI LB
theorem sh_fa {f : Int × Int} (h : Fa f) (k : Int) : Fa ((f.1 - k) % f.2, f.2) := by
  have := h.n1
  exact ⟨this, Int.emod_nonneg _ (by omega), Int.emod_lt_of_pos _ (by omega)⟩
theorem sh_fit {f : Int × Int} (k x : Int) : Fit ((f.1 - k) % f.2, f.2) x ↔ Fit f (x + k) := by
  show f.2 ∣ x - (f.1 - k) % f.2 ↔ f.2 ∣ x + k - f.1
  have e := Int.mul_ediv_add_emod (f.1 - k) f.2
  have : x - (f.1 - k) % f.2 = (x + k - f.1) + f.2 * ((f.1 - k) / f.2) := by omega
  rw [this]
  constructor
  · intro h
    have := Int.dvd_sub h (Int.dvd_mul_right f.2 ((f.1 - k) / f.2))
    rwa [Int.add_sub_cancel] at this
  · intro h
    exact Int.dvd_add h (Int.dvd_mul_right _ _)
theorem shifted {f : Int × Int} (h : Fa f) (k : Int) : f_shifted f k = .ok ((f.1 - k) % f.2, f.2) := by
  unfold f_shifted
  rw [Sat.mod (by have := h.n1; omega)]
  rfl
/-- what a fact tells -/
theorem does_tell {w f : Int × Int} (hf : Fa f) : f_does_tell w f = .ok (decide (f.2 ∣ w.2 ∧ Fit f w.1)) := by
  unfold f_does_tell
  rw [Sat.mod (by have := hf.n1; omega), M.ok_bind]
  by_cases q : f.2 ∣ w.2
  · rw [decide_eq_true (Int.emod_eq_zero_of_dvd q), if_pos rfl, does_fit hf]
    simp [q]
  · rw [decide_eq_false fun z => q (Int.dvd_of_emod_eq_zero z), if_neg (by decide)]
    simp [q]
theorem fit_same {w f : Int × Int} {x k : Int} (hd : f.2 ∣ w.2) (hx : Fit w x) : Fit f (x + k) ↔ Fit f (w.1 + k) := by
  have h : f.2 ∣ x - w.1 := Int.dvd_trans hd hx
  show f.2 ∣ x + k - f.1 ↔ f.2 ∣ w.1 + k - f.1
  have e : x + k - f.1 = (w.1 + k - f.1) + (x - w.1) := by omega
  rw [e]
  constructor
  · intro q
    have := Int.dvd_sub q h
    rwa [Int.add_sub_cancel] at this
  · intro q
    exact Int.dvd_add q h
theorem lit_same {w : Int × Int} {ks : List (Int × Int)} {x k : Int} (hd : ∀ f ∈ ks, f.2 ∣ w.2) (hx : Fit w x) : Lit ks (x + k) ↔ Lit ks (w.1 + k) := by
  constructor
  · rintro ⟨f, hf, q⟩
    exact ⟨f, hf, (fit_same (hd f hf) hx).mp q⟩
  · rintro ⟨f, hf, q⟩
    exact ⟨f, hf, (fit_same (hd f hf) hx).mpr q⟩
/-- lit all along -/
def All (l : List (Int × Int)) (x s g : Int) : Prop := ∀ k, s ≤ k → k < g → Lit l (x + k)
/-! counting -/
theorem len_filter (p : Int → Bool) (lo : Int) : ∀ n : Nat, (((rngL lo n).filter p).length : Int) = sm (fun x => ind (p x = true)) lo n
  | 0 => rfl
  | n + 1 => by
    rw [Sat.rngL_succ, List.filter_append, List.length_append]
    show _ = sm (fun x => ind (p x = true)) lo n + ind (p (lo + n) = true)
    rw [← len_filter p lo n]
    cases e : p (lo + n)
    · have : (ind (false = true)) = 0 := rfl
      rw [this]
      simp [e]
    · have : (ind (true = true)) = 1 := rfl
      rw [this]
      simp [e]
theorem sm_le {g h : Int → Int} {lo : Int} : ∀ {n : Nat}, (∀ x, lo ≤ x → x < lo + n → g x ≤ h x) → sm g lo n ≤ sm h lo n
  | 0, _ => Int.le_refl _
  | n + 1, k => by
    have h1 := sm_le (g := g) (h := h) (lo := lo) (n := n) fun x a b => k x a (by omega)
    have h2 := k (lo + n) (by omega) (by omega)
    show sm g lo n + g (lo + n) ≤ sm h lo n + h (lo + n)
    omega
theorem ind_nn (p : Prop) [Decidable p] : 0 ≤ ind p := by unfold ind; split <;> decide
theorem ind_le (p : Prop) [Decidable p] : ind p ≤ 1 := by unfold ind; split <;> decide
/-- unlit steps need lamps -/
theorem sm_lamps (x lo : Int) (n : Nat) : ∀ us : List (Int × Int), (∀ f ∈ us, Fa f) → sm (fun k => ind (Lit us (x + k))) lo n ≤ (us.map fun f => ((n : Int) + f.2 - 1) / f.2).sum
  | [], _ => by
    have : sm (fun k => ind (Lit [] (x + k))) lo n = sm (fun _ => 0) lo n := sm_congr fun k _ _ => by
      unfold ind
      rw [if_neg]
      rintro ⟨f, hf, _⟩
      cases hf
    rw [this, sm_zero]
    exact Int.le_refl _
  | f :: us, h => by
    have hf := h f List.mem_cons_self
    have n1 := hf.n1
    have h1 := sm_lamps x lo n us fun g hg => h g (List.mem_cons_of_mem _ hg)
    have h2 : sm (fun k => ind (Lit (f :: us) (x + k))) lo n ≤ sm (fun k => ind (Fit ((f.1 - x) % f.2, f.2) k) + ind (Lit us (x + k))) lo n := sm_le fun k _ _ => by
      have a := ind_nn (Fit ((f.1 - x) % f.2, f.2) k)
      have b := ind_nn (Lit us (x + k))
      by_cases q : Lit (f :: us) (x + k)
      · obtain ⟨g, hg, z⟩ := q
        rcases List.mem_cons.mp hg with rfl | hg
        · have : ind (Fit ((g.1 - x) % g.2, g.2) k) = 1 := if_pos ((sh_fit x k).mpr (by rwa [Int.add_comm] at z))
          have := ind_le (Lit (g :: us) (x + k))
          omega
        · have : ind (Lit us (x + k)) = 1 := if_pos ⟨g, hg, z⟩
          have := ind_le (Lit (f :: us) (x + k))
          omega
      · have : ind (Lit (f :: us) (x + k)) = 0 := if_neg q
        omega
    rw [sm_add, sm_fit (sh_fa hf x)] at h2
    dsimp only at h2
    rw [List.map_cons, List.sum_cons]
    have h3 : (lo + (n : Int) - 1 - (f.1 - x) % f.2) / f.2 - (lo - 1 - (f.1 - x) % f.2) / f.2 ≤ ((n : Int) + f.2 - 1) / f.2 := by
      generalize (f.1 - x) % f.2 = r
      generalize f.2 = b at n1
      have e1 := Int.mul_ediv_add_emod (lo + (n : Int) - 1 - r) b
      have e2 := Int.mul_ediv_add_emod (lo - 1 - r) b
      have m1 := Int.emod_nonneg (lo + (n : Int) - 1 - r) (b := b) (by omega)
      have m2 := Int.emod_lt_of_pos (lo - 1 - r) (b := b) (by omega)
      rw [Int.le_ediv_iff_mul_le (by omega)]
      rw [Int.sub_mul, Int.mul_comm _ b, Int.mul_comm _ b]
      omega
    omega
/-- too few lamps -/
theorem is_hopeless {l : List (Int × Int)} {w : Int × Int} {s g : Int} (h : ∀ f ∈ l, Fb f) (hl : l.length ≤ 12) (hw : 0 < w.2) (hs : 0 ≤ s) (hg : s ≤ g) (hg2 : g ≤ 4096) :
    Sat (f_is_hopeless l w s g) fun b => b = true → ∀ x, Fit w x → ¬ All l x s g := by
  have h30 : (1000000000000000000000000000000 : Int) < W4 := by
    have : (1000000000000000000000000000000 : Nat) < W4 := by decide +kernel
    omega
  unfold f_is_hopeless
  rw [Sat.optC (g := fun f => if f.2 ∣ w.2 then some f else none) (fun f hf => by
    have := (h f hf).a.n1
    rw [Sat.mod (by omega), M.ok_bind]
    by_cases q : f.2 ∣ w.2
    · rw [decide_eq_true (Int.emod_eq_zero_of_dvd q), if_pos rfl, if_pos q]
    · rw [decide_eq_false fun z => q (Int.dvd_of_emod_eq_zero z), if_neg (by decide), if_neg q]) (by omega), M.ok_bind]
  rw [Sat.range (by omega) (by omega) (by omega) (by omega), M.ok_bind]
  have ek : l.filterMap (fun f => if f.2 ∣ w.2 then some f else none) = l.filter fun f => decide (f.2 ∣ w.2) := by
    rw [← List.filterMap_eq_filter]
    congr 1
    funext f
    by_cases q : f.2 ∣ w.2 <;> simp [Option.guard, q]
  rw [ek]
  have kf : ∀ f ∈ l.filter fun f => decide (f.2 ∣ w.2), Fa f := fun f hf => (h f (List.mem_filter.mp hf).1).a
  have kd : ∀ f ∈ l.filter fun f => decide (f.2 ∣ w.2), f.2 ∣ w.2 := fun f hf => of_decide_eq_true (List.mem_filter.mp hf).2
  have kl : (l.filter fun f => decide (f.2 ∣ w.2)).length ≤ 12 := Nat.le_trans (List.length_filter_le ..) hl
  have hu : ∀ f, f ∈ l → f ∉ (l.filter fun f => decide (f.2 ∣ w.2)) → f ∈ l.filter fun f => !decide (f.2 ∣ w.2) := fun f hf hn => by
    refine List.mem_filter.mpr ⟨hf, ?_⟩
    by_cases q : f.2 ∣ w.2
    · exact absurd (List.mem_filter.mpr ⟨hf, decide_eq_true q⟩) hn
    · simp [q]
  generalize hks : (l.filter fun f => decide (f.2 ∣ w.2)) = ks at *
  rw [Sat.optC (g := fun k => if Lit ks (w.1 + k) then none else some k) (fun k hk => by
    rw [is_lit_2 kf (by omega), M.ok_bind]
    by_cases q : Lit ks (w.1 + k)
    · rw [decide_eq_true q, Bool.not_true, if_neg (by decide), if_pos q]
    · rw [decide_eq_false q, Bool.not_false, if_pos rfl, if_neg q]) (by rw [Sat.rngL_len]; omega), M.ok_bind]
  have eu : (rngL s (g - s).toNat).filterMap (fun k => if Lit ks (w.1 + k) then none else some k) = (rngL s (g - s).toNat).filter fun k => !decide (Lit ks (w.1 + k)) := by
    rw [← List.filterMap_eq_filter]
    congr 1
    funext k
    by_cases q : Lit ks (w.1 + k) <;> simp [Option.guard, q]
  rw [eu]
  rw [Sat.optC (g := fun f : Int × Int => if f.2 ∣ w.2 then none else some (((g - s) + f.2 - 1) / f.2)) (fun f hf => by
    have hb := h f hf
    have := hb.a.n1
    obtain ⟨r, b⟩ := f
    dsimp only at *
    rw [Sat.mod (by omega), M.ok_bind]
    by_cases q : b ∣ w.2
    · rw [decide_eq_true (Int.emod_eq_zero_of_dvd q), Bool.not_true, if_neg (by decide), if_pos q]
    · rw [decide_eq_false fun z => q (Int.dvd_of_emod_eq_zero z), Bool.not_false, if_pos rfl, if_neg q, div' (by omega) (by have := hb.le; dsimp only at this; omega)]
      rfl) (by omega), M.ok_bind]
  refine Sat.ok fun hb x hx ha => ?_
  replace hb := of_decide_eq_true hb
  have es : l.filterMap (fun f : Int × Int => if f.2 ∣ w.2 then none else some (((g - s) + f.2 - 1) / f.2)) = (l.filter fun f => !decide (f.2 ∣ w.2)).map fun f => (((g - s).toNat : Int) + f.2 - 1) / f.2 := by
    have : ((g - s).toNat : Int) = g - s := by omega
    rw [this]
    clear hb ek eu hks kf kd kl hu h hl ha
    induction l with
    | nil => rfl
    | cons f l ih =>
      rw [List.filterMap_cons, List.filter_cons]
      by_cases q : f.2 ∣ w.2 <;> simp [q, ih]
  rw [es, len_filter] at hb
  have h1 := sm_lamps x s (g - s).toNat (l.filter fun f => !decide (f.2 ∣ w.2)) fun f hf => (h f (List.mem_filter.mp hf).1).a
  have h2 : sm (fun k => ind ((!decide (Lit ks (w.1 + k))) = true)) s (g - s).toNat ≤ sm (fun k => ind (Lit (l.filter fun f => !decide (f.2 ∣ w.2)) (x + k))) s (g - s).toNat := sm_le fun k k1 k2 => by
    by_cases q : Lit ks (w.1 + k)
    · have : ind ((!decide (Lit ks (w.1 + k))) = true) = 0 := if_neg (by simp [q])
      have := ind_nn (Lit (l.filter fun f => !decide (f.2 ∣ w.2)) (x + k))
      omega
    · obtain ⟨f, hf, hk⟩ := ha k k1 (by omega)
      have hq : Lit (l.filter fun f => !decide (f.2 ∣ w.2)) (x + k) := ⟨f, hu f hf fun z => q ((lit_same kd hx).mp ⟨f, z, hk⟩), hk⟩
      have := ind_le ((!decide (Lit ks (w.1 + k))) = true)
      have : ind (Lit (l.filter fun f => !decide (f.2 ∣ w.2)) (x + k)) = 1 := if_pos hq
      omega
  omega
end LC

set_option Elab.async false
set_option linter.all false
set_option maxRecDepth 100000
set_option maxHeartbeats 4000000
namespace LC
open MK MI LB
/-- a number that fits a fact from a step behind which up to a goal all is lit, or none -/
def SO (l : List (Int × Int)) (w : Int × Int) (s g : Int) (o : Option Int) : Prop := (o = none ∧ ∀ x, Fit w x → ¬ All l x s g) ∨ ∃ x, o = some x ∧ Fit w x ∧ All l x s g
theorem dvd_lcmb {l : List (Int × Int)} {f : Int × Int} (h : f ∈ l) : f.2 ∣ (lcmb l : Int) := by
  have key : ∀ (r : List (Int × Int)) (f : Int × Int), f ∈ r → f.2 ∣ (lcmb r.reverse : Int) := by
    intro r
    induction r with
    | nil => intro f h; cases h
    | cons g r ih =>
      intro f h
      rw [List.reverse_cons, lcmb_snoc]
      rcases List.mem_cons.mp h with rfl | h
      · exact Int.dvd_lcm_right ..
      · exact Int.dvd_trans (ih f h) (Int.dvd_lcm_left ..)
  have := key l.reverse f (by simpa using h)
  rwa [List.reverse_reverse] at this
theorem cnt_lt {l : List (Int × Int)} {p q : Int × Int → Bool} (h : ∀ f, q f = true → p f = true) {f : Int × Int} (hf : f ∈ l) (hp : p f = true) (hq : q f = false) : (l.filter q).length < (l.filter p).length := by
  have le : ∀ l : List (Int × Int), (l.filter q).length ≤ (l.filter p).length := by
    intro l
    induction l with
    | nil => exact Nat.le_refl _
    | cons a l ih =>
      rw [List.filter_cons, List.filter_cons]
      cases e : q a
      · cases p a <;> simp <;> omega
      · rw [h a e]; simp; omega
  induction l with
  | nil => cases hf
  | cons a l ih =>
    rw [List.filter_cons, List.filter_cons]
    rcases List.mem_cons.mp hf with rfl | hf
    · rw [hp, hq]
      have := le l
      simp
      omega
    · have := ih hf
      cases e : q a
      · cases p a <;> simp <;> omega
      · rw [h a e]; simp; omega
theorem start_of {l : List (Int × Int)} (h : ∀ f ∈ l, Fb f) (hl : l.length ≤ 12) : ∀ (n : Nat) (w : Int × Int) (s g : Int), Fa w → w.2 ∣ (lcmb l : Int) → 0 ≤ s → s ≤ g → g ≤ 4096 → (l.filter fun f => !decide (f.2 ∣ w.2)).length < n → Sat (f_start_of_r n l w s g) (SO l w s g)
  | 0, _, _, _, _, _, _, _, _, hn => absurd hn (Nat.not_lt_zero _)
  | n + 1, w, s, g, hw, hd, s0, sg, hg, hn => by
    have lc := lcmb_lt h (by omega)
    have wlt : ∀ {v : Int}, v ∣ (lcmb l : Int) → v < W4 := fun {v} q => by
      have := Int.le_of_dvd (by omega) q
      omega
    have h30 : ∀ f ∈ l, f.2 < W4 := fun f hf => wlt (dvd_lcmb hf)
    unfold f_start_of_r
    refine Sat.bind (Sat.whl (I := fun k : Int => s ≤ k ∧ k ≤ g ∧ ∀ x, Fit w x → All l x s k) (P := fun k : Int => (s ≤ k ∧ k ≤ g ∧ ∀ x, Fit w x → All l x s k) ∧ (k = g ∨ ∀ f ∈ l, ¬ (f.2 ∣ w.2 ∧ Fit f (w.1 + k)))) (μ := fun k => (g - k).toNat) (fun k hk => ?_) ⟨Int.le_refl _, sg, fun x _ k a b => by omega⟩ (Sat.fuel (by omega))) fun k hk => ?_
    · obtain ⟨k1, k2, k3⟩ := hk
      refine Sat.bind (P := fun b : Bool => b = true ↔ k < g ∧ ∃ f ∈ l, f.2 ∣ w.2 ∧ Fit f (w.1 + k)) ?_ fun b hb => Sat.ok ?_
      · by_cases q : k < g
        · rw [decide_eq_true q, if_pos rfl, Sat.mapC (g := fun f : Int × Int => decide (f.2 ∣ w.2 ∧ Fit f (w.1 + k))) (fun f hf => by
            have ha := (h f hf).a
            rw [shifted ha, M.ok_bind, does_tell (sh_fa ha k), M.ok_bind]
            congr 1
            exact decide_eq_decide.mpr ⟨fun z => ⟨z.1, (sh_fit k w.1).mp z.2⟩, fun z => ⟨z.1, (sh_fit k w.1).mpr z.2⟩⟩) (by omega), M.ok_bind]
          refine Sat.ok ?_
          rw [List.any_map, List.any_eq_true]
          constructor
          · rintro ⟨f, hf, z⟩
            exact ⟨q, f, hf, of_decide_eq_true z⟩
          · rintro ⟨_, f, hf, z⟩
            exact ⟨f, hf, decide_eq_true z⟩
        · rw [decide_eq_false q, if_neg (by decide)]
          exact Sat.ok ⟨fun z => absurd z (by decide), fun z => absurd z.1 q⟩
      · cases b with
        | true =>
          rw [if_pos rfl]
          obtain ⟨q, f, hf, z1, z2⟩ := hb.mp rfl
          refine Sat.lt (Sat.ok ⟨⟨by omega, by omega, fun x hx j j1 j2 => ?_⟩, by omega⟩)
          by_cases e : j = k
          · rw [e]
            exact ⟨f, hf, (fit_same z1 hx).mpr z2⟩
          · exact k3 x hx j j1 (by omega)
        | false =>
          rw [if_neg (by decide)]
          refine ⟨⟨k1, k2, k3⟩, ?_⟩
          by_cases q : k < g
          · refine .inr fun f hf z => ?_
            have := hb.mpr ⟨q, f, hf, z⟩
            cases this
          · exact .inl (by omega)
    · obtain ⟨⟨k1, k2, k3⟩, k4⟩ := hk
      by_cases q : k = g
      · rw [decide_eq_true q, if_pos rfl]
        refine Sat.ok (.inr ⟨w.1, rfl, ⟨0, by show w.1 - w.1 = w.2 * 0; omega⟩, ?_⟩)
        rw [← q]
        exact k3 w.1 ⟨0, by show w.1 - w.1 = w.2 * 0; omega⟩
      rw [decide_eq_false q, if_neg (by decide)]
      have k4 : ∀ f ∈ l, ¬ (f.2 ∣ w.2 ∧ Fit f (w.1 + k)) := by
        rcases k4 with z | z
        · exact absurd z q
        · exact z
      refine Sat.bind (is_hopeless h hl (by have := hw.n1; omega) (by omega) k2 hg) fun b hb => ?_
      cases b with
      | true =>
        rw [if_pos rfl]
        exact Sat.ok (.inl ⟨rfl, fun x hx ha => hb rfl x hx fun j j1 j2 => ha j (by omega) j2⟩)
      | false =>
        rw [if_neg (by decide)]
        refine Sat.bind (Sat.loopR (I := fun d _ _ => ∀ f ∈ d, ∀ x, Fit w x → Fit f (x + k) → ¬ All l x k g) (Q := fun v : Option Int => ∃ x, v = some x ∧ Fit w x ∧ All l x s g) (done := []) (fun f hf => by cases hf) fun d f r u e hd2 => ?_) fun c hc => ?_
        · rw [List.nil_append] at e
          have hf : f ∈ l := by rw [e]; simp
          have ha := (h f hf).a
          rw [shifted ha, M.ok_bind, do_quarrel hw (sh_fa ha k) (h30 f hf), M.ok_bind]
          dsimp only
          by_cases z : (Int.gcd w.2 f.2 : Int) ∣ w.1 - (f.1 - k) % f.2
          · rw [decide_eq_true z, Bool.not_true, Bool.not_false, if_pos rfl]
            refine Sat.bind (put_together hw (sh_fa ha k) (wlt hd) (h30 f hf) z) fun v hv => ?_
            obtain ⟨v1, v2, v3⟩ := hv
            dsimp only at v2
            have nd : ¬ f.2 ∣ w.2 := fun y => by
              refine k4 f hf ⟨y, (sh_fit k w.1).mp ?_⟩
              have : (Int.gcd w.2 f.2 : Int) = f.2 := by
                rw [Int.gcd_comm]
                have := Int.gcd_eq_natAbs_left y
                have := ha.n1
                omega
              rw [this] at z
              exact z
            have vd : v.2 ∣ (lcmb l : Int) := by
              rw [v2]
              exact Int.natCast_dvd_natCast.mpr (Int.lcm_dvd hd (dvd_lcmb hf))
            refine Sat.bind (start_of h hl n v k g v1 vd (by omega) k2 hg (Nat.lt_of_lt_of_le (cnt_lt (q := fun f => !decide (f.2 ∣ v.2)) (p := fun f => !decide (f.2 ∣ w.2)) (fun e he => ?_) hf (by simp [nd]) ?_) (Nat.le_of_lt_succ hn))) fun o ho => ?_
            · simp at he ⊢
              intro y
              refine he (Int.dvd_trans y ?_)
              rw [v2]
              exact Int.dvd_lcm_left ..
            · have : f.2 ∣ v.2 := by rw [v2]; exact Int.dvd_lcm_right ..
              simp [this]
            · rcases ho with ⟨rfl, ho⟩ | ⟨x, rfl, x1, x2⟩
              · refine Sat.ok (.inl ⟨(), rfl, fun e he x hx hk => ?_⟩)
                rcases List.mem_append.mp he with he | he
                · exact hd2 e he x hx hk
                · rw [List.mem_singleton] at he
                  subst he
                  exact ho x ((v3 x).mpr ⟨hx, (sh_fit k x).mpr hk⟩)
              · refine Sat.ok (.inr ⟨_, rfl, x, rfl, ((v3 x).mp x1).1, fun j j1 j2 => ?_⟩)
                by_cases y : j < k
                · exact k3 x ((v3 x).mp x1).1 j j1 y
                · exact x2 j (by omega) j2
          · rw [decide_eq_false z, Bool.not_false, Bool.not_true, if_neg (by decide)]
            refine Sat.ok (.inl ⟨(), rfl, fun e he x hx hk => ?_⟩)
            rcases List.mem_append.mp he with he | he
            · exact hd2 e he x hx hk
            · rw [List.mem_singleton] at he
              subst he
              exact absurd (quarrel_fit hx ((sh_fit k x).mpr hk)) z
        · rcases hc with ⟨u, rfl, hu⟩ | ⟨v, rfl, hv⟩
          · refine Sat.ok (.inl ⟨rfl, fun x hx ha => ?_⟩)
            obtain ⟨f, hf, z⟩ := ha k (by omega) (by omega)
            exact hu f (by simpa using hf) x hx z fun j j1 j2 => ha j (by omega) j2
          · obtain ⟨x, rfl, x1, x2⟩ := hv
            exact Sat.ok (.inr ⟨x, rfl, x1, x2⟩)
end LC

set_option Elab.async false
set_option linter.all false
set_option maxRecDepth 100000
set_option maxHeartbeats 4000000
namespace LC
open MK MI LB
theorem fit01 (x : Int) : Fit (0, 1) x := ⟨x - 0, by show x - 0 = 1 * (x - 0); omega⟩
theorem fa01 : Fa (0, 1) := ⟨by decide, by decide, by decide⟩
theorem start {l : List (Int × Int)} (h : ∀ f ∈ l, Fb f) (hl : l.length ≤ 12) {g : Int} (g0 : 0 ≤ g) (hg : g ≤ 4096) : Sat (f_start_of l (0, 1) 0 g) fun o => (o = none ∧ ∀ x, ¬ All l x 0 g) ∨ ∃ x, o = some x ∧ All l x 0 g := by
  unfold f_start_of
  refine Sat.mono (start_of h hl 20 (0, 1) 0 g fa01 (Int.one_dvd _) (Int.le_refl _) g0 hg (Nat.lt_of_le_of_lt (List.length_filter_le ..) (by omega))) fun o ho => ?_
  rcases ho with ⟨rfl, ho⟩ | ⟨x, rfl, _, hx⟩
  · exact .inl ⟨rfl, fun x => ho x (fit01 x)⟩
  · exact .inr ⟨x, rfl, hx⟩
/-- not all of so many are lit if one number is dark -/
theorem all_lt {l : List (Int × Int)} {x g y : Int} (h : All l x 0 g) (hy : ¬ Lit l y) : g < 2 ^ l.length := by
  apply Classical.byContradiction
  intro q
  refine hy (cve (X := x) (fun k hk => h k (by omega) ?_) y)
  have : ((2 ^ l.length : Nat) : Int) = 2 ^ l.length := by simp
  omega
/-- the longest lit stretch -/
def Lg (l : List (Int × Int)) (o : Option Int) : Prop := (o = none ∧ ∀ y, Lit l y) ∨ ∃ n, o = some n ∧ 0 ≤ n ∧ n < 2 ^ l.length ∧ (∃ y, ¬ Lit l y) ∧ (∃ x, All l x 0 n) ∧ ∀ x, ¬ All l x 0 (n + 1)
theorem All.mono {l : List (Int × Int)} {x s g g' : Int} (h : All l x s g) (hg : g' ≤ g) : All l x s g' := fun k a b => h k a (by omega)
theorem Lg.eq {l l' : List (Int × Int)} {o p : Option Int} {d : Int} (h : Lg l o) (k : Lg l' p) (e : ∀ x, Lit l' (x + d) ↔ Lit l x) : o = p := by
  have ea : ∀ x g, All l' (x + d) 0 g ↔ All l x 0 g := fun x g => by
    constructor
    · intro q j a b
      have := q j a b
      rw [show x + d + j = x + j + d by omega] at this
      exact (e _).mp this
    · intro q j a b
      rw [show x + d + j = x + j + d by omega]
      exact (e _).mpr (q j a b)
  have ea2 : ∀ x g, All l' x 0 g ↔ All l (x - d) 0 g := fun x g => by
    rw [← ea, show x - d + d = x by omega]
  rcases h with ⟨rfl, h⟩ | ⟨n, rfl, n0, n1, ⟨y, n2⟩, ⟨x, n3⟩, n4⟩
  · rcases k with ⟨rfl, _⟩ | ⟨m, rfl, m0, m1, ⟨y, m2⟩, _⟩
    · rfl
    · exfalso
      apply m2
      have := (e (y - d)).mpr (h _)
      rwa [show y - d + d = y by omega] at this
  · rcases k with ⟨rfl, k⟩ | ⟨m, rfl, m0, m1, m2, ⟨z, m3⟩, m4⟩
    · exact absurd ((e y).mp (k _)) n2
    · congr 1
      rcases Int.lt_trichotomy n m with q | q | q
      · exact absurd (((ea2 z m).mp m3).mono (by omega)) (n4 _)
      · exact q
      · exact absurd ((ea x _).mpr (n3.mono (by omega))) (m4 _)
theorem longest {l : List (Int × Int)} (h : ∀ f ∈ l, Fb f) (hl : l.length ≤ 12) : Sat (f_longest_lit l) (Lg l) := by
  have ha : ∀ f ∈ l, Fa f := fun f hf => (h f hf).a
  obtain ⟨_, t2, t3⟩ := two_pow hl
  unfold f_longest_lit
  rw [check_lamps h hl, M.ok_bind]
  refine Sat.bind (first_dark ha hl 0) fun o ho => ?_
  rcases ho with ⟨rfl, ho⟩ | ⟨y, rfl, _, hy, _⟩
  · rw [Option.isNone_none, if_pos rfl]
    exact Sat.ok (.inl ⟨rfl, ho⟩)
  · rw [Option.isNone_some, if_neg (by decide)]
    refine Sat.bind (start h hl (g := 1) (by decide) (by decide)) fun o ho => ?_
    refine Sat.bind (Sat.whl (I := fun s : Int × Option Int => 0 ≤ s.1 ∧ s.1 < 2 ^ l.length ∧ (∃ x, All l x 0 s.1) ∧ ((s.2 = none ∧ ∀ x, ¬ All l x 0 (s.1 + 1)) ∨ ∃ x, s.2 = some x ∧ All l x 0 (s.1 + 1))) (P := fun s => Lg l (some s.1)) (μ := fun s => (2 ^ l.length - s.1).toNat) (fun s hs => ?_) ⟨Int.le_refl _, by dsimp only; omega, ⟨0, fun k a b => by dsimp only at b; omega⟩, ho⟩ (Sat.fuel (by dsimp only; omega))) fun s hs => Sat.ok hs
    obtain ⟨n, o⟩ := s
    obtain ⟨n0, n1, n2, n3⟩ := hs
    dsimp only at n0 n1 n2 n3 ⊢
    refine Sat.ok ?_
    rcases n3 with ⟨rfl, n3⟩ | ⟨x, rfl, n3⟩
    · rw [Option.isSome_none, if_neg (by decide)]
      exact .inr ⟨n, rfl, n0, n1, ⟨y, hy⟩, n2, n3⟩
    · rw [Option.isSome_some, if_pos rfl, first_dark_2]
      refine Sat.bind (first_dark ha hl x) fun o ho => ?_
      rcases ho with ⟨rfl, ho⟩ | ⟨w, rfl, w1, w2, w3, w4⟩
      · exact absurd (ho y) hy
      · show Sat ((f_start_of l (0, 1) 0 (w - x + 1)).bind _) _
        have aw : All l x 0 (w - x) := fun k a b => w3 _ (by omega) (by omega)
        have g1 : n + 1 ≤ w - x := by
          rcases Int.lt_or_le (w - x) (n + 1) with q | q
          · exfalso
            have := n3 (w - x) (by omega) q
            rw [show x + (w - x) = w by omega] at this
            exact w2 this
          · exact q
        have g2 := all_lt aw hy
        refine Sat.bind (start h hl (g := w - x + 1) (by omega) (by omega)) fun o ho => Sat.ok ⟨⟨by dsimp only; omega, g2, ⟨x, aw⟩, ho⟩, by dsimp only; omega⟩
/-- a number from which on so many are lit -/
def Lf (l : List (Int × Int)) (n : Int) (o : Option Int) : Prop := (o = none ∧ ∀ x, ¬ All l x 0 n) ∨ ∃ x, o = some x ∧ All l x 0 n
theorem lit_from {l : List (Int × Int)} (h : ∀ f ∈ l, Fb f) (hl : l.length ≤ 12) {n : Int} (n0 : 0 ≤ n) (hn : n ≤ 1000000) : Sat (f_lit_from l n) (Lf l n) := by
  have ha : ∀ f ∈ l, Fa f := fun f hf => (h f hf).a
  obtain ⟨t1, t2, t3⟩ := two_pow hl
  unfold f_lit_from
  rw [check_lamps h hl, M.ok_bind, check_between n0 hn, M.ok_bind]
  refine Sat.bind (first_dark ha hl 0) fun o ho => ?_
  rcases ho with ⟨rfl, ho⟩ | ⟨y, rfl, _, hy, _⟩
  · rw [Option.isNone_none, if_pos rfl]
    exact Sat.ok (.inr ⟨0, rfl, fun k _ _ => ho _⟩)
  · rw [Option.isNone_some, if_neg (by decide), t1, M.ok_bind]
    refine Sat.bind (P := Lf l n) ?_ fun o ho => Sat.ok ho
    by_cases q : n < 2 ^ l.length
    · rw [decide_eq_true q, if_pos rfl]
      exact Sat.bind (start h hl n0 (by omega)) fun o ho => Sat.ok ho
    · rw [decide_eq_false q, if_neg (by decide)]
      exact Sat.ok (.inl ⟨rfl, fun x hx => q (all_lt hx hy)⟩)
theorem dark_from {l : List (Int × Int)} (h : ∀ f ∈ l, Fb f) (hl : l.length ≤ 12) {x : Int} (h1 : -10000000000000000000000000000000000000000 ≤ x) (h2 : x ≤ 10000000000000000000000000000000000000000) : Sat (f_dark_from l x) (FD l x) := by
  unfold f_dark_from
  rw [check_lamps h hl, M.ok_bind, check_number h1 h2, M.ok_bind]
  exact Sat.bind (first_dark (fun f hf => (h f hf).a) hl x) fun o ho => Sat.ok ho
theorem covers {l : List (Int × Int)} (h : ∀ f ∈ l, Fb f) (hl : l.length ≤ 12) : Sat (f_covers l) fun b => b = true ↔ ∀ y, Lit l y := by
  unfold f_covers f_do_cover
  rw [check_lamps h hl, M.ok_bind]
  refine Sat.bind (P := fun b => b = true ↔ ∀ y, Lit l y) (Sat.bind (first_dark (fun f hf => (h f hf).a) hl 0) fun o ho => Sat.ok ?_) fun b hb => Sat.ok hb
  rcases ho with ⟨rfl, ho⟩ | ⟨y, rfl, _, hy, _⟩
  · exact ⟨fun _ => ho, fun _ => rfl⟩
  · exact ⟨fun z => (by cases z), fun z => absurd (z y) hy⟩
theorem count_dark {l : List (Int × Int)} (h : ∀ f ∈ l, Fb f) (hl : l.length ≤ 12) {x y : Int} (h1 : -10000000000000000000000000000000000000000 ≤ x) (h2 : x ≤ y) (h3 : y ≤ 10000000000000000000000000000000000000000) : f_count_dark l x y = .ok (sm (fun z => ind (lit l z = 0)) x (y + 1 - x).toNat) := by
  refine Sat.toEq ?_
  unfold f_count_dark
  rw [check_lamps h hl, M.ok_bind, check_span h1 h2 h3, M.ok_bind]
  refine Sat.bind (terms_of h hl) fun ts ht => ?_
  rw [dark_between ht h hl (by omega), M.ok_bind]
  exact Sat.ok rfl
end LC

set_option Elab.async false
set_option linter.all false
set_option maxRecDepth 100000
set_option maxHeartbeats 4000000
namespace G22
open MI MK
def t0 : T := (.ret (.and (.bf .isinst (.cons (.var 0) (.cons (.con (.ty "int")) .nil))) (.nt (.bf .isinst (.cons (.var 0) (.cons (.con (.ty "bool")) .nil))))))
def t1 : T := (.ret (.and (.call 0 (.cons (.var 0) .nil)) (.chain .LtE .LtE (.var 1) (.var 0) (.var 2))))
def t2 : T := (.iff (.nt (.call 1 (.cons (.var 0) (.cons (.var 1) (.cons (.var 2) .nil))))) .nil .pass)
def t3 : T := (.seq (.iff (.or (.nt (.bf .isinst (.cons (.var 0) (.cons (.con (.ty "tuple")) .nil)))) (.or (.cmp .NotEq (.bf .len (.cons (.var 0) .nil)) (.con (.int 2))) (.nt (.call 1 (.cons (.idx (.var 0) (.con (.int 1))) (.cons (.con (.int 1)) (.cons (.con (.int 1000000000000000000000000000000)) .nil))))))) (.ret (.con (.bl false))) .pass) (.ret (.call 1 (.cons (.idx (.var 0) (.con (.int 0))) (.cons (.con (.int 0)) (.cons (.bin .Sub (.idx (.var 0) (.con (.int 1))) (.con (.int 1))) .nil))))))
def t4 : T := (.seq (.iff (.nt (.bf .isinst (.cons (.var 0) (.cons (.con (.ty "tuple")) .nil)))) (.ret (.con .non)) .pass) (.seq (.for (.tup (.cons (.var 2) (.cons (.var 3) .nil))) (.enum (.var 0)) (.iff (.or (.cmp .Eq (.var 2) (.var 1)) (.nt (.call 3 (.cons (.var 3) .nil)))) (.ret (.var 2)) .pass)) (.ret (.neg (.con (.int 1))))))
def t5 : T := (.seq (.asg (.var 1) (.call 4 (.cons (.var 0) (.cons (.con (.int 12)) .nil)))) (.iff (.cmp .NotEq (.var 1) (.neg (.con (.int 1)))) .nil .pass))
def t6 : T := (.seq (.par [0, 1] (.cons (.bf .abs (.cons (.var 0) .nil)) (.cons (.bf .abs (.cons (.var 1) .nil)) .nil))) (.seq (.whl (.cmp .Gt (.var 1) (.con (.int 0))) (.par [0, 1] (.cons (.var 1) (.cons (.bin .Mod (.var 0) (.var 1)) .nil)))) (.ret (.var 0))))
def t7 : T := (.seq (.par [2, 3, 4, 5] (.cons (.var 0) (.cons (.var 1) (.cons (.tup (.cons (.con (.int 1)) (.cons (.con (.int 0)) .nil))) (.cons (.tup (.cons (.con (.int 0)) (.cons (.con (.int 1)) .nil))) .nil))))) (.seq (.whl (.cmp .NotEq (.var 3) (.con (.int 0))) (.seq (.asg (.var 6) (.bin .FloorDiv (.var 2) (.var 3))) (.seq (.par [2, 3] (.cons (.var 3) (.cons (.bin .Sub (.var 2) (.bin .Mult (.var 6) (.var 3))) .nil))) (.par [4, 5] (.cons (.var 5) (.cons (.tup (.cons (.bin .Sub (.idx (.var 4) (.con (.int 0))) (.bin .Mult (.var 6) (.idx (.var 5) (.con (.int 0))))) (.cons (.bin .Sub (.idx (.var 4) (.con (.int 1))) (.bin .Mult (.var 6) (.idx (.var 5) (.con (.int 1))))) .nil))) .nil)))))) (.ret (.ite (.cmp .GtE (.var 2) (.con (.int 0))) (.var 4) (.tup (.cons (.neg (.idx (.var 4) (.con (.int 0)))) (.cons (.neg (.idx (.var 4) (.con (.int 1)))) .nil)))))))
def t8 : T := (.ret (.bin .Mod (.idx (.call 7 (.cons (.bin .Mod (.var 0) (.var 1)) (.cons (.var 1) .nil))) (.con (.int 0))) (.var 1)))
def t9 : T := (.seq (.par [2, 3] (.cons (.con (.int 1)) (.cons (.var 0) .nil))) (.seq (.whl (.cmp .Gt (.var 1) (.con (.int 0))) (.seq (.iff (.cmp .Eq (.bin .Mod (.var 1) (.con (.int 2))) (.con (.int 1))) (.asg (.var 2) (.bin .Mult (.var 2) (.var 3))) .pass) (.seq (.asg (.var 1) (.bin .FloorDiv (.var 1) (.con (.int 2)))) (.asg (.var 3) (.ite (.cmp .Gt (.var 1) (.con (.int 0))) (.bin .Mult (.var 3) (.var 3)) (.var 3)))))) (.ret (.var 2))))
def t10 : T := (.ret (.cmp .NotEq (.bin .Mod (.bin .Sub (.idx (.var 0) (.con (.int 0))) (.idx (.var 1) (.con (.int 0)))) (.call 6 (.cons (.idx (.var 0) (.con (.int 1))) (.cons (.idx (.var 1) (.con (.int 1))) .nil)))) (.con (.int 0))))
def t11 : T := (.seq (.asg (.var 2) (.call 6 (.cons (.idx (.var 0) (.con (.int 1))) (.cons (.idx (.var 1) (.con (.int 1))) .nil)))) (.seq (.asg (.var 3) (.bin .Mod (.bin .Mult (.bin .FloorDiv (.bin .Sub (.idx (.var 1) (.con (.int 0))) (.idx (.var 0) (.con (.int 0)))) (.var 2)) (.call 8 (.cons (.bin .FloorDiv (.idx (.var 0) (.con (.int 1))) (.var 2)) (.cons (.bin .FloorDiv (.idx (.var 1) (.con (.int 1))) (.var 2)) .nil)))) (.bin .FloorDiv (.idx (.var 1) (.con (.int 1))) (.var 2)))) (.seq (.asg (.var 4) (.bin .Mult (.bin .FloorDiv (.idx (.var 0) (.con (.int 1))) (.var 2)) (.idx (.var 1) (.con (.int 1))))) (.ret (.tup (.cons (.bin .Mod (.bin .Add (.idx (.var 0) (.con (.int 0))) (.bin .Mult (.idx (.var 0) (.con (.int 1))) (.var 3))) (.var 4)) (.cons (.var 4) .nil)))))))
def t12 : T := (.ret (.cmp .Eq (.bin .Mod (.bin .Sub (.var 1) (.idx (.var 0) (.con (.int 0)))) (.idx (.var 0) (.con (.int 1)))) (.con (.int 0))))
def t13 : T := (.ret (.and (.cmp .Eq (.bin .Mod (.idx (.var 0) (.con (.int 1))) (.idx (.var 1) (.con (.int 1)))) (.con (.int 0))) (.call 12 (.cons (.var 1) (.cons (.idx (.var 0) (.con (.int 0))) .nil)))))
def t14 : T := (.ret (.bf .any (.cons (.comp [2] (.var 2) (.it (.var 0)) (.con (.bl true)) (.call 12 (.cons (.var 2) (.cons (.var 1) .nil)))) .nil)))
def t15 : T := (.seq (.for (.var 2) (.rng (.cons (.call 9 (.cons (.con (.int 2)) (.cons (.bf .len (.cons (.var 0) .nil)) .nil))) .nil)) (.iff (.nt (.call 14 (.cons (.var 0) (.cons (.bin .Add (.var 1) (.var 2)) .nil)))) (.ret (.bin .Add (.var 1) (.var 2))) .pass)) (.ret (.con .non)))
def t16 : T := (.ret (.tup (.cons (.bin .Mod (.bin .Sub (.idx (.var 0) (.con (.int 0))) (.var 1)) (.idx (.var 0) (.con (.int 1)))) (.cons (.idx (.var 0) (.con (.int 1))) .nil))))
def t17 : T := (.seq (.asg (.var 4) (.comp [6] (.var 6) (.it (.var 0)) (.cmp .Eq (.bin .Mod (.idx (.var 1) (.con (.int 1))) (.idx (.var 6) (.con (.int 1)))) (.con (.int 0))) (.var 6))) (.seq (.asg (.var 5) (.bf .len (.cons (.comp [7] (.var 7) (.rng (.cons (.var 2) (.cons (.var 3) .nil))) (.nt (.call 14 (.cons (.var 4) (.cons (.bin .Add (.idx (.var 1) (.con (.int 0))) (.var 7)) .nil)))) (.var 7)) .nil))) (.ret (.cmp .Gt (.var 5) (.bf .sum (.cons (.comp [8, 9] (.tup (.cons (.var 8) (.cons (.var 9) .nil))) (.it (.var 0)) (.cmp .NotEq (.bin .Mod (.idx (.var 1) (.con (.int 1))) (.var 9)) (.con (.int 0))) (.bin .FloorDiv (.bin .Sub (.bin .Add (.bin .Sub (.var 3) (.var 2)) (.var 9)) (.con (.int 1))) (.var 9))) .nil))))))
def t18 : T := (.seq (.whl (.and (.cmp .Lt (.var 2) (.var 3)) (.bf .any (.cons (.comp [4] (.var 4) (.it (.var 0)) (.con (.bl true)) (.call 13 (.cons (.var 1) (.cons (.call 16 (.cons (.var 4) (.cons (.var 2) .nil))) .nil)))) .nil))) (.aug 2 .Add (.con (.int 1)))) (.seq (.iff (.cmp .Eq (.var 2) (.var 3)) (.ret (.idx (.var 1) (.con (.int 0)))) .pass) (.seq (.iff (.call 17 (.cons (.var 0) (.cons (.var 1) (.cons (.var 2) (.cons (.var 3) .nil))))) (.ret (.con .non)) .pass) (.seq (.for (.var 4) (.it (.var 0)) (.seq (.asg (.var 5) (.call 16 (.cons (.var 4) (.cons (.var 2) .nil)))) (.iff (.nt (.call 10 (.cons (.var 1) (.cons (.var 5) .nil)))) (.seq (.asg (.var 6) (.call 18 (.cons (.var 0) (.cons (.call 11 (.cons (.var 1) (.cons (.var 5) .nil))) (.cons (.var 2) (.cons (.var 3) .nil)))))) (.iff (.cmp .IsNot (.var 6) (.con .non)) (.ret (.var 6)) .pass)) .pass))) (.ret (.con .non))))))
def t19 : T := (.seq (.ex (.call 5 (.cons (.var 0) .nil))) (.seq (.iff (.cmp .Is (.call 15 (.cons (.var 0) (.cons (.con (.int 0)) .nil))) (.con .non)) (.ret (.con .non)) .pass) (.seq (.par [1, 2] (.cons (.con (.int 0)) (.cons (.call 18 (.cons (.var 0) (.cons (.con (.tup [(.int 0), (.int 1)])) (.cons (.con (.int 0)) (.cons (.con (.int 1)) .nil))))) .nil))) (.seq (.whl (.cmp .IsNot (.var 2) (.con .non)) (.seq (.asg (.var 1) (.bin .Sub (.call 15 (.cons (.var 0) (.cons (.var 2) .nil))) (.var 2))) (.asg (.var 2) (.call 18 (.cons (.var 0) (.cons (.con (.tup [(.int 0), (.int 1)])) (.cons (.con (.int 0)) (.cons (.bin .Add (.var 1) (.con (.int 1))) .nil)))))))) (.ret (.var 1))))))
def t20 : T := (.seq (.ex (.call 5 (.cons (.var 0) .nil))) (.seq (.ex (.call 2 (.cons (.var 1) (.cons (.con (.int 0)) (.cons (.con (.int 1000000)) .nil))))) (.seq (.iff (.cmp .Is (.call 15 (.cons (.var 0) (.cons (.con (.int 0)) .nil))) (.con .non)) (.ret (.con (.int 0))) .pass) (.ret (.ite (.cmp .Lt (.var 1) (.call 9 (.cons (.con (.int 2)) (.cons (.bf .len (.cons (.var 0) .nil)) .nil)))) (.call 18 (.cons (.var 0) (.cons (.con (.tup [(.int 0), (.int 1)])) (.cons (.con (.int 0)) (.cons (.var 1) .nil))))) (.con .non))))))
def t21 : T := (.ret (.cmp .Is (.call 15 (.cons (.var 0) (.cons (.con (.int 0)) .nil))) (.con .non)))
def t22 : T := (.seq (.ex (.call 5 (.cons (.var 0) .nil))) (.ret (.call 21 (.cons (.var 0) .nil))))
def t23 : T := (.seq (.iff (.cmp .Lt (.var 1) (.bf .len (.cons (.var 0) .nil))) (.ret (.bf .int (.cons (.idx (.var 0) (.var 1)) .nil))) .pass) (.seq (.asg (.var 2) (.bin .Add (.bin .Mult (.con (.int 7919)) (.var 1)) (.con (.int 4021)))) (.seq (.for (.var 3) (.it (.slc (.var 0) .nil (.part (.con (.int 4))))) (.asg (.var 2) (.bin .Mod (.bf .int (.cons (.bin .Add (.bin .Add (.bin .Mult (.var 2) (.con (.int 48337))) (.var 3)) (.con (.int 59))) .nil)) (.con (.int 2147483587))))) (.ret (.var 2)))))
def t24 : T := (.seq (.asg (.var 2) (.bf .abs (.cons (.call 23 (.cons (.var 0) (.cons (.var 1) .nil))) .nil))) (.ret (.lst (.cons (.var 2) (.cons (.bin .Mod (.bf .int (.cons (.bin .Add (.var 2) (.bin .Mult (.con (.int 907)) (.var 1))) .nil)) (.con (.int 2147483587))) (.cons (.con (.int 0)) .nil))))))
def t25 : T := (.seq (.asg (.idx (.var 0) (.con (.int 2))) (.bin .Add (.idx (.var 0) (.con (.int 2))) (.con (.int 1)))) (.seq (.asg (.var 2) (.bf .int (.cons (.idx (.var 0) (.con (.int 1))) .nil))) (.seq (.asg (.var 3) (.bin .Add (.bin .Mod (.bf .int (.cons (.var 2) .nil)) (.con (.int 29989))) (.con (.int 40013)))) (.seq (.asg (.idx (.var 0) (.con (.int 1))) (.bin .Mod (.bf .int (.cons (.bin .Add (.bin .Add (.bin .Mult (.var 2) (.var 3)) (.bin .Mult (.idx (.var 0) (.con (.int 2))) (.con (.int 65521)))) (.con (.int 7))) .nil)) (.con (.int 2147483587)))) (.seq (.iff (.cmp .Gt (.idx (.var 0) (.con (.int 0))) (.con (.int 0))) (.seq (.asg (.tup (.cons (.idx (.var 0) (.con (.int 0))) (.cons (.var 4) .nil))) (.bf .divmod (.cons (.idx (.var 0) (.con (.int 0))) (.cons (.var 1) .nil)))) (.ret (.var 4))) .pass) (.ret (.bin .Mod (.bf .int (.cons (.bin .FloorDiv (.idx (.var 0) (.con (.int 1))) (.con (.int 128))) .nil)) (.var 1))))))))
def t26 : T := (.ret (.idx (.var 1) (.call 25 (.cons (.var 0) (.cons (.bf .len (.cons (.var 1) .nil)) .nil)))))
def t27 : T := (.seq (.whl (.cmp .NotEq (.var 1) (.con (.int 0))) (.par [0, 1] (.cons (.var 1) (.cons (.bin .Mod (.bf .int (.cons (.var 0) .nil)) (.var 1)) .nil)))) (.ret (.bf .abs (.cons (.var 0) .nil))))
def t28 : T := (.seq (.asg (.var 1) (.con (.int 1))) (.seq (.for (.tup (.cons (.var 2) (.cons (.var 3) .nil))) (.it (.var 0)) (.asg (.var 1) (.bin .Mult (.bin .FloorDiv (.var 1) (.call 27 (.cons (.var 1) (.cons (.var 3) .nil)))) (.var 3)))) (.ret (.var 1))))
def t29 : T := (.ret (.bf .len (.cons (.comp [2, 3] (.tup (.cons (.var 2) (.cons (.var 3) .nil))) (.it (.var 0)) (.cmp .Eq (.bin .Mod (.bf .int (.cons (.bin .Sub (.var 1) (.var 2)) .nil)) (.var 3)) (.con (.int 0))) (.con (.int 1))) .nil)))
def t30 : T := (.seq (.asg (.var 2) (.lst (.cons (.lst (.cons (.con (.int 2)) (.cons (.con (.int 3)) (.cons (.con (.int 4)) (.cons (.con (.int 6)) (.cons (.con (.int 12)) .nil)))))) (.cons (.lst (.cons (.con (.int 2)) (.cons (.con (.int 4)) (.cons (.con (.int 8)) (.cons (.con (.int 16)) .nil))))) (.cons (.lst (.cons (.con (.int 3)) (.cons (.con (.int 9)) (.cons (.con (.int 2)) (.cons (.con (.int 6)) .nil))))) (.cons (.lst (.cons (.con (.int 5)) (.cons (.con (.int 2)) (.cons (.con (.int 10)) (.cons (.con (.int 4)) .nil))))) (.cons (.lst (.cons (.con (.int 1)) (.cons (.con (.int 2)) (.cons (.con (.int 3)) (.cons (.con (.int 7)) .nil))))) (.cons (.lst (.cons (.con (.int 6)) (.cons (.con (.int 4)) (.cons (.con (.int 3)) (.cons (.con (.int 2)) (.cons (.con (.int 8)) .nil)))))) .nil)))))))) (.seq (.asg (.var 3) (.call 26 (.cons (.var 0) (.cons (.var 2) .nil)))) (.seq (.asg (.var 4) (.lst .nil)) (.seq (.for (.var 5) (.rng (.cons (.call 25 (.cons (.var 0) (.cons (.bin .Add (.var 1) (.con (.int 1))) .nil))) .nil)) (.seq (.asg (.var 6) (.call 26 (.cons (.var 0) (.cons (.var 3) .nil)))) (.app 4 (.tup (.cons (.call 25 (.cons (.var 0) (.cons (.var 6) .nil))) (.cons (.var 6) .nil)))))) (.ret (.bf .tuple (.cons (.var 4) .nil)))))))
def t31 : T := (.seq (.asg (.var 1) (.call 28 (.cons (.var 0) .nil))) (.seq (.par [2, 3] (.cons (.con (.int 0)) (.cons (.con (.int 0)) .nil))) (.seq (.for (.var 4) (.rng (.cons (.bin .Mult (.con (.int 2)) (.var 1)) .nil)) (.seq (.asg (.var 3) (.ite (.cmp .Gt (.call 29 (.cons (.var 0) (.cons (.var 4) .nil))) (.con (.int 0))) (.bin .Add (.var 3) (.con (.int 1))) (.con (.int 0)))) (.asg (.var 2) (.bf .max (.cons (.var 2) (.cons (.var 3) .nil)))))) (.ret (.ite (.cmp .Eq (.var 2) (.bin .Mult (.con (.int 2)) (.var 1))) (.con .non) (.var 2))))))
def t32 : T := (.seq (.asg (.var 1) (.call 30 (.cons (.var 0) (.cons (.con (.int 5)) .nil)))) (.seq (.asg (.var 2) (.call 31 (.cons (.var 1) .nil))) (.seq (.iff (.cmp .NotEq (.lst (.cons (.call 19 (.cons (.var 1) .nil)) (.cons (.callk 19 [0] .nil (.cons (.var 1) .nil)) (.cons (.call 19 (.cons (.bin .Add (.sl1 (.var 1)) (.var 1)) .nil)) .nil)))) (.bin .Mult (.lst (.cons (.var 2) .nil)) (.con (.int 3)))) (.ret (.con (.bl false))) .pass) (.seq (.iff (.cmp .NotEq (.bf .repr (.cons (.call 22 (.cons (.var 1) .nil)) .nil)) (.bf .repr (.cons (.cmp .Is (.var 2) (.con .non)) .nil))) (.ret (.con (.bl false))) .pass) (.seq (.asg (.var 3) (.ite (.cmp .Is (.var 2) (.con .non)) (.con (.int 30)) (.var 2))) (.seq (.for (.var 4) (.it (.bin .Add (.lrg false (.cons (.bin .Add (.var 3) (.con (.int 1))) .nil)) (.lst (.cons (.bin .Add (.var 3) (.con (.int 1))) (.cons (.bin .Add (.var 3) (.con (.int 7))) (.cons (.bin .Pow (.con (.int 10)) (.con (.int 6))) .nil)))))) (.for (.var 5) (.it (.lst (.cons (.call 20 (.cons (.var 1) (.cons (.var 4) .nil))) (.cons (.callk 20 [1, 0] .nil (.cons (.var 4) (.cons (.var 1) .nil))) .nil)))) (.seq (.iff (.cmp .NotEq (.cmp .Is (.var 5) (.con .non)) (.and (.cmp .IsNot (.var 2) (.con .non)) (.cmp .Gt (.var 4) (.var 2)))) (.ret (.con (.bl false))) .pass) (.seq (.asg (.var 6) (.ite (.cmp .IsNot (.var 5) (.con .non)) (.lrg false (.cons (.bf .min (.cons (.var 4) (.cons (.con (.int 50)) .nil))) .nil)) (.lst .nil))) (.iff (.cmp .NotEq (.comp [7] (.var 7) (.it (.var 6)) (.cmp .Eq (.call 29 (.cons (.var 1) (.cons (.bin .Add (.var 5) (.var 7)) .nil))) (.con (.int 0))) (.var 7)) (.lst .nil)) (.ret (.con (.bl false))) .pass))))) (.ret (.con (.bl true)))))))))
def t33 : T := (.ret (.bf .all (.cons (.comp [1] (.var 1) (.rng (.cons (.bf .max (.cons (.con (.int 2)) (.cons (.bf .min (.cons (.bf .len (.cons (.var 0) .nil)) (.cons (.con (.int 3)) .nil))) .nil))) .nil)) (.con (.bl true)) (.call 32 (.cons (.call 24 (.cons (.var 0) (.cons (.var 1) .nil))) .nil))) .nil)))
def fs : List Fn := [⟨1, 1, t0⟩, ⟨3, 3, t1⟩, ⟨3, 3, t2⟩, ⟨1, 1, t3⟩, ⟨2, 4, t4⟩, ⟨1, 2, t5⟩, ⟨2, 2, t6⟩, ⟨2, 7, t7⟩, ⟨2, 2, t8⟩, ⟨2, 4, t9⟩, ⟨2, 2, t10⟩, ⟨2, 5, t11⟩, ⟨2, 2, t12⟩, ⟨2, 2, t13⟩, ⟨2, 3, t14⟩, ⟨2, 3, t15⟩, ⟨2, 2, t16⟩, ⟨4, 10, t17⟩, ⟨4, 7, t18⟩, ⟨1, 3, t19⟩, ⟨2, 2, t20⟩, ⟨1, 1, t21⟩, ⟨1, 1, t22⟩, ⟨2, 4, t23⟩, ⟨2, 3, t24⟩, ⟨2, 5, t25⟩, ⟨2, 2, t26⟩, ⟨2, 2, t27⟩, ⟨1, 4, t28⟩, ⟨2, 4, t29⟩, ⟨2, 7, t30⟩, ⟨1, 5, t31⟩, ⟨1, 8, t32⟩, ⟨1, 2, t33⟩]
def f_law_cell (cells : (List Int)) (spot : Int) : M Int := if (decide (spot < (cells.length : Int))) then (M.idx cells spot).bind fun z => .ok z else M.lt ((7919 * spot) + 4021) fun mixed => (M.fold (fun (mixed1 : Int) (each : Int) => M.lt ((((mixed1 * 48337) + each) + 59) % 2147483587) fun mixed3 => .ok mixed3) (mixed : Int) (M.cutO cells none (some 4))).bind fun mixed2 => .ok mixed2
theorem s_law_cell (d : Nat) (cells : (List Int)) (spot : Int) : SF (oRun fs (d + 1)) 23 [.dat ((eL eI) cells), .dat (eI spot)] (f_law_cell cells spot) (fun qq => .d (eI qq)) (fun qq => [.keep, .keep]) := sf_of (by rfl) rfl fun us hus => by
    obtain ⟨u0, u1, rfl, h0, h1⟩ := args2 hus
    exact ⟨fun qq => [.prm u0, .any, .any, .any], [.prm u0, .dat (eI spot), .any, .any], (st_prm (st_dat h1 (st_any (st_any st_nil)))), tr_start (tr_seq (tr_iff (tr_pe (x := eB (decide (spot < (cells.length : Int)))) (pe_cmp (PE.v (pe_d rfl)) (PE.v (pe_bfV rfl h0 (bf_len _))) (cmp_lt _ _)) (tr_brn (tru_b _) (fun _ => tr_ret (tr_bf rfl (tl_cons (tr_idxV rfl h0 (tr_pe (x := eI spot) (pe_d rfl) (tr_idxE rfl h0 (tr_ixL (e := eI) (xs := cells) (fun z => tl_nil (tr_o rfl (end_fin rfl (.cons (.r _) (.cons (.a _) (.cons (.a _) (.cons (.a _) .nil)))))))))))))) (fun _ => tr_pass (tr_seq (tr_asgL (e := eI) (x := ((7919 * spot) + 4021)) (pe_add (pe_bin (PE.v (pe_con _)) (PE.v (pe_d rfl)) (bin_mulL rfl)) (pe_con _)) rfl (fun mixed => tr_seq (tr_for (ti_it (tr_pf (x := (M.cutO cells none (some 4)).map eI) ((pf_cut (e := eI) (PE.v (pe_p rfl h0)) pp_none (pp_some (pe_con _)))) (tr_itL (e := eI) (xs := (M.cutO cells none (some 4))) rfl (by exact tr_fold (σ := Int) (e := eI) (fun qq => [.prm u0, .any, .dat (eI qq), .any]) (.cons (.r _) (.cons (.a _) (.cons (.r _) (.cons (.a _) .nil)))) (fun mixed1 each => tr_turn (bnd_var rfl (tr_start (tr_asgL (e := eI) (x := ((((mixed1 * 48337) + each) + 59) % 2147483587)) (pe_bin (PE.v (pe_bfA rfl (.cons (PE.v (pe_add (pe_add (pe_bin (PE.v (pe_d rfl)) (PE.v (pe_con _)) (bin_mulR rfl)) (pe_d rfl)) (pe_con _))) .nil) rfl)) (PE.v (pe_con _)) (bin_modC rfl)) rfl (fun mixed3 => end_go rfl (.cons (.r _) (.cons (.a _) (.cons (.r _) (.cons (.a _) .nil))))))))) (fun mixed2 => tr_ret (tr_pe (x := eI mixed2) (pe_d rfl) (end_fin rfl (.cons (.r _) (.cons (.a _) (.cons (.a _) (.cons (.a _) .nil)))))))))))))))))))), fun r => (.keep (.flat h1 rfl .nil))⟩
def f_law_jar (cells : (List Int)) (spot : Int) : M (List Int) := (f_law_cell cells spot).bind fun r => .ok ([(r.natAbs : Int), (((r.natAbs : Int) + (907 * spot)) % 2147483587), 0])
theorem s_law_jar (d : Nat) (cells : (List Int)) (spot : Int) : SF (oRun fs (d + 2)) 24 [.dat ((eL eI) cells), .dat (eI spot)] (f_law_jar cells spot) (fun qq => .own false (qq.map eI)) (fun qq => [.keep, .keep]) := sf_of (by rfl) rfl fun us hus => by
    obtain ⟨u0, u1, rfl, h0, h1⟩ := args2 hus
    exact ⟨fun qq => [.prm u0, .any, .any], [.prm u0, .dat (eI spot), .any], (st_prm (st_dat h1 (st_any st_nil))), tr_start (tr_seq (tr_asg (tr_bf rfl (tl_cons (tr_call (ta_varL rfl h0 (fun a0_ag ha0_ag => ta_var rfl rfl rfl (ta_nil (tr_callf (s_law_cell d cells spot) (.cons (.list ha0_ag rfl h0 rfl) (.cons (.val _) .nil)) rfl (fun r => tl_nil (tr_o (bf_abs _) (tr_putD rfl (tr_ret (tr_pf (x := ([(r.natAbs : Int), (((r.natAbs : Int) + (907 * spot)) % 2147483587), 0] : (List Int)).map eI) ((pf_lst (.cons (PE.v (pe_d rfl)) (.cons (PE.v (pe_bin (PE.v (pe_bfA rfl (.cons (PE.v (pe_add (pe_d rfl) (pe_bin (PE.v (pe_con _)) (PE.v (pe_d rfl)) (bin_mulL rfl)))) .nil) rfl)) (PE.v (pe_con _)) (bin_modC rfl))) (.cons (PE.v (pe_con _)) .nil))) rfl)) (end_fin rfl (.cons (.r _) (.cons (.a _) (.cons (.a _) .nil)))))))))))))))))), fun r => (.keep (.flat h1 rfl .nil))⟩
def f_law_dig (jar : (List Int)) (wide : Int) : M (Int × (List Int)) := (M.idx jar 2).bind fun z => (M.setAt jar 2 (z + 1)).bind fun jar1 => (M.idx jar1 1).bind fun z1 => M.lt ((z1 % 29989) + 40013) fun by' => (M.mul z1 by').bind fun z2 => (M.idx jar1 2).bind fun z3 => (M.setAt jar1 1 (((z2 + (z3 * 65521)) + 7) % 2147483587)).bind fun jar2 => (M.idx jar2 0).bind fun z4 => if (decide (0 < z4)) then (M.idx jar2 0).bind fun z5 => (M.divmod z5 wide).bind fun z6 => (M.setAt jar2 0 z6.1).bind fun jar3 => .ok (z6.2, jar3) else (M.idx jar2 1).bind fun z7 => (M.mod (z7 / 128) wide).bind fun z8 => .ok (z8, jar2)
theorem s_law_dig (d : Nat) (jar : (List Int)) (wide : Int) : SF (oRun fs (d + 1)) 25 [.own (jar.map eI), .dat (eI wide)] (f_law_dig jar wide) (fun qq => .d (eI qq.1)) (fun qq => [.own (qq.2.map eI), .keep]) := sf_of (by rfl) rfl fun us hus => by
    obtain ⟨u0, u1, rfl, h0, h1⟩ := args2 hus
    obtain ⟨t0, rfl⟩ : ∃ t, u0 = .own t (jar.map eI) := h0
    exact ⟨fun qq => [.own t0 (qq.2.map eI), .any, .any, .any, .any], [.own t0 (jar.map eI), .dat (eI wide), .any, .any, .any], (st_own (st_dat h1 (st_any (st_any (st_any st_nil))))), tr_start (tr_seq (tr_asgI (tr_bin (tr_idxV rfl rfl (tr_pe (pe_con _) (tr_idxE rfl rfl (tr_ixL (e := eI) (xs := jar) (fun z => tr_pe (pe_con _) (tr_o rfl (tr_bnd (bnd_idx (e := eI) (xs := jar) (y := (z + 1)) rfl (pe_con _) (fun jar1 => tr_seq (tr_asg (tr_bf rfl (tl_cons (tr_idxV rfl rfl (tr_pe (pe_con _) (tr_idxE rfl rfl (tr_ixL (e := eI) (xs := jar1) (fun z1 => tl_nil (tr_o rfl (tr_putD rfl (tr_seq (tr_asgL (e := eI) (x := ((z1 % 29989) + 40013)) (pe_add (pe_bin (PE.v (pe_bfV rfl rfl rfl)) (PE.v (pe_con _)) (bin_modC rfl)) (pe_con _)) rfl (fun by' => tr_seq (tr_asgI (tr_bin (tr_bf rfl (tl_cons (tr_bin (tr_bin (tr_bin (tr_pe (x := eI z1) (pe_d rfl) (tr_pe (x := eI by') (pe_d rfl) (tr_mul (fun z2 => tr_bin (tr_idxV rfl rfl (tr_pe (pe_con _) (tr_idxE rfl rfl (tr_ixL (e := eI) (xs := jar1) (fun z3 => tr_pe (pe_con _) (tr_o (bin_mulR rfl) (tr_o rfl (tr_pe (pe_con _) (tr_o rfl (tl_nil (tr_o rfl (tr_pe (pe_con _) (tr_o (bin_modC rfl) (tr_bnd (bnd_idx (e := eI) (xs := jar1) (y := (((z2 + (z3 * 65521)) + 7) % 2147483587)) rfl (pe_con _) (fun jar2 => tr_seq (tr_iff (tr_cmp (tr_idxV rfl rfl (tr_pe (pe_con _) (tr_idxE rfl rfl (tr_ixL (e := eI) (xs := jar2) (fun z4 => tr_pe (pe_con _) (tr_o (congrArg (Option.map _) (cmp_gt _ _)) (tr_brn (tru_b _) (fun _ => tr_seq (tr_asgT (tr_bf rfl (tl_cons (tr_idxV rfl rfl (tr_pe (pe_con _) (tr_idxE rfl rfl (tr_ixL (e := eI) (xs := jar2) (fun z5 => tl_cons (tr_pe (x := eI wide) (pe_d rfl) (tl_nil (tr_divmod (fun z6 => tr_bnd (bnd_tup rfl (bnds_cons (bnd_idx (e := eI) (xs := jar2) (y := z6.1) rfl (pe_con _) (fun jar3 => bnds_cons (bnd_var rfl (bnds_nil (tr_ret (tr_pe (x := eI z6.2) (pe_d rfl) (end_fin rfl (.cons (.r _) (.cons (.a _) (.cons (.a _) (.cons (.a _) (.cons (.a _) .nil))))))))))))))))))))))))))) (fun _ => tr_pass (tr_ret (tr_bin (tr_bf rfl (tl_cons (tr_bin (tr_idxV rfl rfl (tr_pe (pe_con _) (tr_idxE rfl rfl (tr_ixL (e := eI) (xs := jar2) (fun z7 => tr_pe (pe_con _) (tr_o (bin_divC rfl) (tl_nil (tr_o rfl (tr_pe (x := eI wide) (pe_d rfl) (tr_mod (fun z8 => end_fin rfl (.cons (.r _) (.cons (.a _) (.cons (.a _) (.cons (.a _) (.cons (.a _) .nil))))))))))))))))))))))))))))))))))))))))))))))))))))))))))))))))))))))))))))))))))), fun r => (.own (.flat h1 rfl .nil))⟩
def f_law_take (jar : (List Int)) (some' : (List (List Int))) : M ((List Int) × (List Int)) := (f_law_dig jar (some'.length : Int)).bind fun (r, jar1) => (M.idx some' r).bind fun z => .ok (z, jar1)
theorem s_law_take (d : Nat) (jar : (List Int)) (some' : (List (List Int))) : SF (oRun fs (d + 2)) 26 [.own (jar.map eI), .dat ((eL (eL eI)) some')] (f_law_take jar some') (fun qq => .d ((eL eI) qq.1)) (fun qq => [.own (qq.2.map eI), .keep]) := sf_of (by rfl) rfl fun us hus => by
    obtain ⟨u0, u1, rfl, h0, h1⟩ := args2 hus
    obtain ⟨t0, rfl⟩ : ∃ t, u0 = .own t (jar.map eI) := h0
    exact ⟨fun qq => [.own t0 (qq.2.map eI), .prm u1], [.own t0 (jar.map eI), .prm u1], (st_own (st_prm st_nil)), tr_start (tr_ret (tr_idxV rfl h1 (tr_call (ta_own rfl (ta_e rfl (tr_pe (x := eI (some'.length : Int)) (pe_bfV rfl h1 (bf_len _)) (ta_nil (tr_callf (s_law_dig d jar (some'.length : Int)) (.cons (.lent rfl) (.cons (.val _) .nil)) rfl (fun ⟨r, jar1⟩ => tr_idxE rfl h1 (tr_ixL (e := (eL eI)) (xs := some') (fun z => end_fin rfl (.cons (.r _) (.cons (.r _) .nil))))))))))))), fun r => (.own (.keep .nil))⟩
def f_law_take_2 (jar : (List Int)) (some' : (List Int)) : M (Int × (List Int)) := (f_law_dig jar (some'.length : Int)).bind fun (r, jar1) => (M.idx some' r).bind fun z => .ok (z, jar1)
theorem s_law_take_2 (d : Nat) (jar : (List Int)) (some' : (List Int)) : SF (oRun fs (d + 2)) 26 [.own (jar.map eI), .dat ((eL eI) some')] (f_law_take_2 jar some') (fun qq => .d (eI qq.1)) (fun qq => [.own (qq.2.map eI), .keep]) := sf_of (by rfl) rfl fun us hus => by
    obtain ⟨u0, u1, rfl, h0, h1⟩ := args2 hus
    obtain ⟨t0, rfl⟩ : ∃ t, u0 = .own t (jar.map eI) := h0
    exact ⟨fun qq => [.own t0 (qq.2.map eI), .prm u1], [.own t0 (jar.map eI), .prm u1], (st_own (st_prm st_nil)), tr_start (tr_ret (tr_idxV rfl h1 (tr_call (ta_own rfl (ta_e rfl (tr_pe (x := eI (some'.length : Int)) (pe_bfV rfl h1 (bf_len _)) (ta_nil (tr_callf (s_law_dig d jar (some'.length : Int)) (.cons (.lent rfl) (.cons (.val _) .nil)) rfl (fun ⟨r, jar1⟩ => tr_idxE rfl h1 (tr_ixL (e := eI) (xs := some') (fun z => end_fin rfl (.cons (.r _) (.cons (.r _) .nil))))))))))))), fun r => (.own (.keep .nil))⟩
def f_law_rows (jar : (List Int)) (top : Int) : M ((List (Int × Int)) × (List Int)) := M.lt ([[2, 3, 4, 6, 12], [2, 4, 8, 16], [3, 9, 2, 6], [5, 2, 10, 4], [1, 2, 3, 7], [6, 4, 3, 2, 8]] : (List (List Int))) fun menus => (f_law_take jar menus).bind fun (r, jar1) => (f_law_dig jar1 (top + 1)).bind fun (r1, jar2) => (M.range1 r1).bind fun ns => (M.fold (fun ((jar3, found) : ((List Int) × (List (Int × Int)))) (k' : Int) => (f_law_take_2 jar3 r).bind fun (r2, jar5) => (f_law_dig jar5 r2).bind fun (r3, jar6) => (M.app found (r3, r2)).bind fun found2 => .ok (jar6, found2)) ((jar2, []) : ((List Int) × (List (Int × Int)))) ns).bind fun (jar4, found1) => .ok (found1, jar4)
theorem s_law_rows (d : Nat) (jar : (List Int)) (top : Int) : SF (oRun fs (d + 3)) 30 [.own (jar.map eI), .dat (eI top)] (f_law_rows jar top) (fun qq => .d ((eT (eP eI eI)) qq.1)) (fun qq => [.own (qq.2.map eI), .keep]) := sf_of (by rfl) rfl fun us hus => by
    obtain ⟨u0, u1, rfl, h0, h1⟩ := args2 hus
    obtain ⟨t0, rfl⟩ : ∃ t, u0 = .own t (jar.map eI) := h0
    exact ⟨fun qq => [.own t0 (qq.2.map eI), .any, .any, .any, .any, .any, .any], [.own t0 (jar.map eI), .dat (eI top), .any, .any, .any, .any, .any], (st_own (st_dat h1 (st_any (st_any (st_any (st_any (st_any st_nil))))))), tr_start (tr_seq (tr_asgF (e := (eL eI)) (x := ([[2, 3, 4, 6, 12], [2, 4, 8, 16], [3, 9, 2, 6], [5, 2, 10, 4], [1, 2, 3, 7], [6, 4, 3, 2, 8]] : (List (List Int)))) (pf_lst (.cons (PF.v (pf_lst (.cons (PE.v (pe_con _)) (.cons (PE.v (pe_con _)) (.cons (PE.v (pe_con _)) (.cons (PE.v (pe_con _)) (.cons (PE.v (pe_con _)) .nil))))) rfl)) (.cons (PF.v (pf_lst (.cons (PE.v (pe_con _)) (.cons (PE.v (pe_con _)) (.cons (PE.v (pe_con _)) (.cons (PE.v (pe_con _)) .nil)))) rfl)) (.cons (PF.v (pf_lst (.cons (PE.v (pe_con _)) (.cons (PE.v (pe_con _)) (.cons (PE.v (pe_con _)) (.cons (PE.v (pe_con _)) .nil)))) rfl)) (.cons (PF.v (pf_lst (.cons (PE.v (pe_con _)) (.cons (PE.v (pe_con _)) (.cons (PE.v (pe_con _)) (.cons (PE.v (pe_con _)) .nil)))) rfl)) (.cons (PF.v (pf_lst (.cons (PE.v (pe_con _)) (.cons (PE.v (pe_con _)) (.cons (PE.v (pe_con _)) (.cons (PE.v (pe_con _)) .nil)))) rfl)) (.cons (PF.v (pf_lst (.cons (PE.v (pe_con _)) (.cons (PE.v (pe_con _)) (.cons (PE.v (pe_con _)) (.cons (PE.v (pe_con _)) (.cons (PE.v (pe_con _)) .nil))))) rfl)) .nil)))))) rfl) rfl (fun menus => tr_seq (tr_asg (tr_call (ta_own rfl (ta_varL rfl rfl (fun a1_ag ha1_ag => ta_nil (tr_callf (s_law_take d jar menus) (.cons (.lent rfl) (.cons (.list ha1_ag rfl rfl rfl) .nil)) rfl (fun ⟨r, jar1⟩ => tr_putD rfl (tr_seq (tr_asg (tr_pf (x := ([] : (List Int)).map eI) ((pf_lst .nil rfl)) (tr_putO rfl (tr_seq (tr_for (ti_rng1 (tr_call (ta_own rfl (ta_e rfl (tr_pe (x := eI (top + 1)) (pe_add (pe_d rfl) (pe_con _)) (ta_nil (tr_callf (s_law_dig (d + 1) jar1 (top + 1)) (.cons (.lent rfl) (.cons (.val _) .nil)) rfl (fun ⟨r1, jar2⟩ => tr_range1 (fun ns => by exact tr_fold (σ := ((List Int) × (List (Int × Int)))) (e := eI) (fun qq => [.own t0 (qq.1.map eI), .any, .any, .dat ((eL eI) r), .own false (qq.2.map (eP eI eI)), .any, .any]) (.cons (.r _) (.cons (.a _) (.cons (.a _) (.cons (.r _) (.cons (.r _) (.cons (.a _) (.cons (.a _) .nil))))))) (fun ⟨jar3, found⟩ k' => tr_turn (bnd_var rfl (tr_start (tr_seq (tr_asg (tr_call (ta_own rfl (ta_varL rfl rfl (fun a1_ag1 ha1_ag1 => ta_nil (tr_callf (s_law_take_2 d jar3 r) (.cons (.lent rfl) (.cons (.list ha1_ag1 rfl rfl rfl) .nil)) rfl (fun ⟨r2, jar5⟩ => tr_putD rfl (tr_app rfl (tr_tup (tl_cons (tr_call (ta_own rfl (ta_var rfl rfl rfl (ta_nil (tr_callf (s_law_dig (d + 1) jar5 r2) (.cons (.lent rfl) (.cons (.val _) .nil)) rfl (fun ⟨r3, jar6⟩ => tl_cons (tr_pe (x := eI r2) (pe_d rfl) (tl_nil (tr_fit rfl (tr_appE (e := (eP eI eI)) (xs := found) (y := (r3, r2)) rfl rfl (fun found2 => end_go rfl (.cons (.r _) (.cons (.a _) (.cons (.a _) (.cons (.r _) (.cons (.r _) (.cons (.a _) (.cons (.a _) .nil)))))))))))))))))))))))))))))))) (fun ⟨jar4, found1⟩ => tr_ret (tr_pe (x := (eT (eP eI eI)) found1) (pe_bfV rfl rfl rfl) (end_fin rfl (.cons (.r _) (.cons (.a _) (.cons (.a _) (.cons (.a _) (.cons (.a _) (.cons (.a _) (.cons (.a _) .nil))))))))))))))))))))))))))))))))))), fun r => (.own (.flat h1 rfl .nil))⟩
def f_law_common (a : Int) (b : Int) : M Int := (M.whl (fun ((a1, b1) : (Int × Int)) => .ok (!decide (b1 = 0))) (fun ((a1, b1) : (Int × Int)) => (M.mod a1 b1).bind fun z => .ok (b1, z)) FUEL ((a, b) : (Int × Int))).bind fun (a2, b2) => .ok (a2.natAbs : Int)
theorem s_law_common (d : Nat) (a : Int) (b : Int) : SF (oRun fs (d + 1)) 27 [.dat (eI a), .dat (eI b)] (f_law_common a b) (fun qq => .d (eI qq)) (fun qq => [.keep, .keep]) := sf_of (by rfl) rfl fun us hus => by
    obtain ⟨u0, u1, rfl, h0, h1⟩ := args2 hus
    exact ⟨fun qq => [.any, .any], [.dat (eI a), .dat (eI b)], (st_dat h0 (st_dat h1 st_nil)), tr_start (tr_seq (by exact tr_whl (σ := (Int × Int)) (fun qq => [.dat (eI qq.1), .dat (eI qq.2)]) (.cons (.r _) (.cons (.r _) .nil)) (fun ⟨a1, b1⟩ => tr_pe (x := eB (!decide (b1 = 0))) (pe_cmp (PE.v (pe_d rfl)) (PE.v (pe_con _)) (cmp_ne _ _)) (end_ts (tru_b _) rfl (.cons (.r _) (.cons (.r _) .nil)))) (fun ⟨a1, b1⟩ => tr_start (tr_par (tv_cons (tr_pe (x := eI b1) (pe_d rfl) (tv_cons (tr_bin (tr_pe (x := eI a1) (pe_bfV rfl rfl rfl) (tr_pe (x := eI b1) (pe_d rfl) (tr_mod (fun z => tv_nil (tr_puts rfl (end_go rfl (.cons (.r _) (.cons (.r _) .nil)))))))))))))) (fun ⟨a2, b2⟩ => tr_ret (tr_pe (x := eI (a2.natAbs : Int)) (pe_bfV rfl rfl (bf_abs _)) (end_fin rfl (.cons (.a _) (.cons (.a _) .nil))))))), fun r => (.flat h0 rfl (.flat h1 rfl .nil))⟩
def f_law_whole (rows : (List (Int × Int))) : M Int := (M.fold (fun (found : Int) ((r, n) : (Int × Int)) => (f_law_common found n).bind fun r1 => (M.div found r1).bind fun z => (M.mul z n).bind fun z1 => .ok z1) (1 : Int) rows).bind fun found1 => .ok found1
theorem s_law_whole (d : Nat) (rows : (List (Int × Int))) : SF (oRun fs (d + 2)) 28 [.dat ((eT (eP eI eI)) rows)] (f_law_whole rows) (fun qq => .d (eI qq)) (fun qq => [.keep]) := sf_of (by rfl) rfl fun us hus => by
    obtain ⟨u0, rfl, h0⟩ := args1 hus
    exact ⟨fun qq => [.any, .any, .any, .any], [.dat ((eT (eP eI eI)) rows), .any, .any, .any], (st_dat h0 (st_any (st_any (st_any st_nil)))), tr_start (tr_seq (tr_asg (tr_pe (pe_con _) (tr_putD rfl (tr_seq (tr_for (ti_it (tr_pe (x := (eT (eP eI eI)) rows) (pe_d rfl) (tr_itT (e := (eP eI eI)) (xs := rows) rfl (by exact tr_fold (σ := Int) (e := (eP eI eI)) (fun qq => [.any, .dat (eI qq), .any, .any]) (.cons (.a _) (.cons (.r _) (.cons (.a _) (.cons (.a _) .nil)))) (fun found ⟨r, n⟩ => tr_turn (bnd_tup rfl (bnds_cons (bnd_var rfl (bnds_cons (bnd_var rfl (bnds_nil (tr_start (tr_asg (tr_bin (tr_bin (tr_pe (x := eI found) (pe_d rfl) (tr_call (ta_var rfl rfl rfl (ta_var rfl rfl rfl (ta_nil (tr_callf (s_law_common d found n) (.cons (.val _) (.cons (.val _) .nil)) rfl (fun r1 => tr_div (fun z => tr_pe (x := eI n) (pe_d rfl) (tr_mul (fun z1 => tr_putD rfl (end_go rfl (.cons (.a _) (.cons (.r _) (.cons (.a _) (.cons (.a _) .nil)))))))))))))))))))))))))) (fun found1 => tr_ret (tr_pe (x := eI found1) (pe_d rfl) (end_fin rfl (.cons (.a _) (.cons (.a _) (.cons (.a _) (.cons (.a _) .nil))))))))))))))))), fun r => (.flat h0 rfl .nil)⟩
def f_law_lit (rows : (List (Int × Int))) (x : Int) : M Int := (M.optC (fun ((r, n) : (Int × Int)) => ((M.mod (x - r) n).bind fun z => if (decide (z = 0)) then .ok (some 1) else .ok none : M (Option Int))) rows).bind fun ys => .ok (ys.length : Int)
theorem s_law_lit (d : Nat) (rows : (List (Int × Int))) (x : Int) : SF (oRun fs (d + 1)) 29 [.dat ((eT (eP eI eI)) rows), .dat (eI x)] (f_law_lit rows x) (fun qq => .d (eI qq)) (fun qq => [.keep, .keep]) := sf_of (by rfl) rfl fun us hus => by
    obtain ⟨u0, u1, rfl, h0, h1⟩ := args2 hus
    exact ⟨fun qq => [.any, .any, .any, .any], [.dat ((eT (eP eI eI)) rows), .dat (eI x), .any, .any], (st_dat h0 (st_dat h1 (st_any (st_any st_nil)))), tr_start (tr_ret (tr_bf rfl (tl_cons (tr_comp rfl (ti_it (tr_pe (x := (eT (eP eI eI)) rows) (pe_d rfl) (tr_itT (e := (eP eI eI)) (xs := rows) rfl (by exact tr_optC (ei := (eP eI eI)) (vv := fun y => .d (eI y)) (own := [2, 3]) [.dat ((eT (eP eI eI)) rows), .dat (eI x), .any, .any] (.cons (.r _) (.cons (.r _) (.cons (.a _) (.cons (.a _) .nil)))) rfl (fun ⟨r, n⟩ => tr_turnO (bnd_tup rfl (bnds_cons (bnd_var rfl (bnds_cons (bnd_var rfl (bnds_nil (tr_cmp (tr_bin (tr_pe (x := eI (x - r)) (pe_bfA rfl (.cons (PE.v (pe_sub (pe_d rfl) (pe_d rfl))) .nil) rfl) (tr_pe (x := eI n) (pe_d rfl) (tr_mod (fun z => tr_pe (pe_con _) (tr_o (congrArg (Option.map _) (cmp_eq _ _)) (tr_brn (tru_b _) (fun _ => tr_pe (pe_con _) (end_rt rfl (.cons (.r _) (.cons (.r _) (.cons (.a _) (.cons (.a _) .nil)))))) (fun _ => end_ct rfl (.cons (.r _) (.cons (.r _) (.cons (.a _) (.cons (.a _) .nil)))))))))))))))))))) (fun ys => tl_nil (tr_o (bf_len _) (end_fin rfl (.cons (.a _) (.cons (.a _) (.cons (.a _) (.cons (.a _) .nil))))))))))))))), fun r => (.flat h0 rfl (.flat h1 rfl .nil))⟩
def f_law_longest (rows : (List (Int × Int))) : M (Option Int) := (f_law_whole rows).bind fun r => (M.range1 (2 * r)).bind fun ns => (M.fold (fun ((best, here) : (Int × Int)) (x : Int) => ((f_law_lit rows x).bind fun r1 => if (decide (0 < r1)) then .ok (here + 1) else .ok 0 : M Int).bind fun v => M.lt (imax best v) fun best2 => .ok (best2, v)) ((0, 0) : (Int × Int)) ns).bind fun (best1, here1) => .ok (if (decide (best1 = (2 * r))) then none else (some best1))
theorem s_law_longest (d : Nat) (rows : (List (Int × Int))) : SF (oRun fs (d + 3)) 31 [.dat ((eT (eP eI eI)) rows)] (f_law_longest rows) (fun qq => .d ((eO eI) qq)) (fun qq => [.keep]) := sf_of (by rfl) rfl fun us hus => by
    obtain ⟨u0, rfl, h0⟩ := args1 hus
    exact ⟨fun qq => [.any, .any, .any, .any, .any], [.dat ((eT (eP eI eI)) rows), .any, .any, .any, .any], (st_dat h0 (st_any (st_any (st_any (st_any st_nil))))), tr_start (tr_seq (tr_asg (tr_call (ta_var rfl rfl rfl (ta_nil (tr_callf (s_law_whole d rows) (.cons (.val _) .nil) rfl (fun r => tr_putD rfl (tr_seq (tr_par (tv_cons (tr_pe (pe_con _) (tv_cons (tr_pe (pe_con _) (tv_nil (tr_puts rfl (tr_seq (tr_for (ti_rng1 (tr_pe (x := eI (2 * r)) (pe_bin (PE.v (pe_con _)) (PE.v (pe_d rfl)) (bin_mulL rfl)) (tr_range1 (fun ns => by exact tr_fold (σ := (Int × Int)) (e := eI) (fun qq => [.dat ((eT (eP eI eI)) rows), .dat (eI r), .dat (eI qq.1), .dat (eI qq.2), .any]) (.cons (.r _) (.cons (.r _) (.cons (.r _) (.cons (.r _) (.cons (.a _) .nil))))) (fun ⟨best, here⟩ x => tr_turn (bnd_var rfl (tr_start (tr_seq (tr_asg (by exact tr_cutE (τ := Int) (v := fun qq => .d (eI qq)) (Γ1 := fun qq => [.dat ((eT (eP eI eI)) rows), .dat (eI r), .dat (eI best), .dat (eI here), .dat (eI x)]) (tr_iteE (tr_cmp (tr_call (ta_var rfl rfl rfl (ta_var rfl rfl rfl (ta_nil (tr_callf (s_law_lit (d + 1) rows x) (.cons (.val _) (.cons (.val _) .nil)) rfl (fun r1 => tr_pe (pe_con _) (tr_o (congrArg (Option.map _) (cmp_gt _ _)) (tr_brn (tru_b _) (fun _ => tr_pe (x := eI (here + 1)) (pe_add (pe_d rfl) (pe_con _)) (end_rt rfl (.cons (.r _) (.cons (.r _) (.cons (.r _) (.cons (.r _) (.cons (.r _) .nil))))))) (fun _ => tr_pe (pe_con _) (end_rt rfl (.cons (.r _) (.cons (.r _) (.cons (.r _) (.cons (.r _) (.cons (.r _) .nil))))))))))))))))) (fun v => tr_putD rfl (tr_asgL (e := eI) (x := (imax best v)) (pe_bfA rfl (.cons (PE.v (pe_d rfl)) (.cons (PE.v (pe_d rfl)) .nil)) (bf_max2 _ _)) rfl (fun best2 => end_go rfl (.cons (.r _) (.cons (.r _) (.cons (.r _) (.cons (.r _) (.cons (.a _) .nil)))))))))))))) (fun ⟨best1, here1⟩ => tr_ret (tr_pe (x := (eO eI) (if (decide (best1 = (2 * r))) then none else (some best1))) (pe_ite (p := (decide (best1 = (2 * r)))) (PE.v (pe_cmp (PE.v (pe_d rfl)) (PE.v (pe_bin (PE.v (pe_con _)) (PE.v (pe_d rfl)) (bin_mulL rfl))) (cmp_eq _ _))) (tru_b _) (fun _ => (pe_con _)) (fun _ => (pe_d rfl)) (apply_ite (eO eI) ((decide (best1 = (2 * r))) = true) (none : (Option Int)) (some best1))) (end_fin rfl (.cons (.a _) (.cons (.a _) (.cons (.a _) (.cons (.a _) (.cons (.a _) .nil))))))))))))))))))))))))))))), fun r => (.flat h0 rfl .nil)⟩
def f_is_integer (value : Int) : M Bool := .ok true
theorem s_is_integer (d : Nat) (value : Int) : SF (oRun fs (d + 1)) 0 [.dat (eI value)] (f_is_integer value) (fun qq => .d (eB qq)) (fun qq => [.keep]) := sf_of (by rfl) rfl fun us hus => by
    obtain ⟨u0, rfl, h0⟩ := args1 hus
    exact ⟨fun qq => [.any], [.dat (eI value)], (st_dat h0 st_nil), tr_start (tr_ret (tr_pe (x := .bl true) (pe_and (x := true) (y := true) (pe_bfA rfl (.cons (PE.v (pe_d rfl)) (.cons (PE.v (pe_con _)) .nil)) (isi_I _)) (fun _ => (pe_nt (b := false) (PE.v (pe_bfA rfl (.cons (PE.v (pe_d rfl)) (.cons (PE.v (pe_con _)) .nil)) (isi_Ib _))) rfl))) (end_fin rfl (.cons (.a _) .nil)))), fun r => (.flat h0 rfl .nil)⟩
def f_is_between (value : Int) (least : Int) (most : Int) : M Bool := ((f_is_integer value).bind fun r => if r then .ok ((decide (least ≤ value)) && (decide (value ≤ most))) else .ok false : M Bool).bind fun v => .ok v
theorem s_is_between (d : Nat) (value : Int) (least : Int) (most : Int) : SF (oRun fs (d + 2)) 1 [.dat (eI value), .dat (eI least), .dat (eI most)] (f_is_between value least most) (fun qq => .d (eB qq)) (fun qq => [.keep, .keep, .keep]) := sf_of (by rfl) rfl fun us hus => by
    obtain ⟨u0, u1, u2, rfl, h0, h1, h2⟩ := args3 hus
    exact ⟨fun qq => [.any, .any, .any], [.dat (eI value), .dat (eI least), .dat (eI most)], (st_dat h0 (st_dat h1 (st_dat h2 st_nil))), tr_start (tr_ret (by exact tr_cutE (τ := Bool) (v := fun qq => .d (eB qq)) (Γ1 := fun qq => [.dat (eI value), .dat (eI least), .dat (eI most)]) (tr_andE (tr_call (ta_var rfl rfl rfl (ta_nil (tr_callf (s_is_integer d value) (.cons (.val _) .nil) rfl (fun r => tr_andB (fun _ => tr_pe (x := eB ((decide (least ≤ value)) && (decide (value ≤ most)))) (pe_chain (p := (decide (least ≤ value))) (q := (decide (value ≤ most))) (PE.v (pe_d rfl)) (PE.v (pe_d rfl)) (PE.v (pe_d rfl)) (cmp_le _ _) (cmp_le _ _)) (end_rt rfl (.cons (.r _) (.cons (.r _) (.cons (.r _) .nil))))) (end_rt rfl (.cons (.r _) (.cons (.r _) (.cons (.r _) .nil)))))))))) (fun v => end_fin rfl (.cons (.a _) (.cons (.a _) (.cons (.a _) .nil)))))), fun r => (.flat h0 rfl (.flat h1 rfl (.flat h2 rfl .nil)))⟩
def f_is_fact (value : (Int × Int)) : M Bool := (((f_is_between value.2 (1 : Int) (1000000000000000000000000000000 : Int)).bind fun r => .ok (!r) : M Bool).bind fun v1 => .ok v1 : M Bool).bind fun v => if v then .ok false else (f_is_between value.1 (0 : Int) (value.2 - 1)).bind fun r1 => .ok r1
theorem s_is_fact (d : Nat) (value : (Int × Int)) : SF (oRun fs (d + 3)) 3 [.dat ((eP eI eI) value)] (f_is_fact value) (fun qq => .d (eB qq)) (fun qq => [.keep]) := sf_of (by rfl) rfl fun us hus => by
    obtain ⟨u0, rfl, h0⟩ := args1 hus
    exact ⟨fun qq => [.any], [.dat ((eP eI eI) value)], (st_dat h0 st_nil), tr_start (tr_seq (tr_iff (by exact tr_cutE (τ := Bool) (v := fun qq => .d (eB qq)) (Γ1 := fun qq => [.dat ((eP eI eI) value)]) (tr_orE (tr_pe (x := .bl false) (pe_nt (b := true) (PE.v (pe_bfA rfl (.cons (PE.v (pe_d rfl)) (.cons (PE.v (pe_con _)) .nil)) (isi_T _))) rfl) (tr_brnF rfl (by exact tr_cutE (τ := Bool) (v := fun qq => .d (eB qq)) (Γ1 := fun qq => [.dat ((eP eI eI) value)]) (tr_orE (tr_pe (x := .bl false) (pe_cmp (PE.v (pe_bfV rfl rfl rfl)) (PE.v (pe_con _)) rfl) (tr_brnF rfl (tr_nt (tr_call (ta_e rfl (tr_pe (x := eI value.2) (pe_idxV rfl rfl (PE.v (pe_con _)) rfl) (ta_e rfl (tr_pe (pe_con _) (ta_e rfl (tr_pe (pe_con _) (ta_nil (tr_callf (s_is_between d value.2 (1 : Int) (1000000000000000000000000000000 : Int)) (.cons (.val _) (.cons (.val _) (.cons (.val _) .nil))) rfl (fun r => tr_o (congrArg (Option.map _) (tru_b _)) (end_rt rfl (.cons (.r _) .nil)))))))))))))))) (fun v1 => end_rt rfl (.cons (.r _) .nil)))))) (fun v => tr_brn (tru_b _) (fun _ => tr_ret (tr_pe (x := .bl false) (pe_con _) (end_fin rfl (.cons (.a _) .nil)))) (fun _ => tr_pass (tr_ret (tr_call (ta_e rfl (tr_pe (x := eI value.1) (pe_idxV rfl rfl (PE.v (pe_con _)) rfl) (ta_e rfl (tr_pe (pe_con _) (ta_e rfl (tr_pe (x := eI (value.2 - 1)) (pe_sub (pe_idxV rfl rfl (PE.v (pe_con _)) rfl) (pe_con _)) (ta_nil (tr_callf (s_is_between d value.1 (0 : Int) (value.2 - 1)) (.cons (.val _) (.cons (.val _) (.cons (.val _) .nil))) rfl (fun r1 => end_fin rfl (.cons (.a _) .nil))))))))))))))))), fun r => (.flat h0 rfl .nil)⟩
def f_facts_fault (value : (List (Int × Int))) (most : Int) : M Int := (M.loop (fun (_ : Unit) ((index, fact) : (Int × (Int × Int))) => ((if (decide (index = most)) then .ok true else (f_is_fact fact).bind fun r => .ok (!r) : M Bool).bind fun v => if v then .ok (.rt index) else .ok (.nx ()) : M (Ct Unit Int))) (() : Unit) (enumI 0 value)).bind (M.fl (fun (_ : Unit) => .ok (-1)) (fun r => .ok r))
theorem s_facts_fault (d : Nat) (value : (List (Int × Int))) (most : Int) : SF (oRun fs (d + 4)) 4 [.dat ((eT (eP eI eI)) value), .dat (eI most)] (f_facts_fault value most) (fun qq => .d (eI qq)) (fun qq => [.keep, .keep]) := sf_of (by rfl) rfl fun us hus => by
    obtain ⟨u0, u1, rfl, h0, h1⟩ := args2 hus
    exact ⟨fun qq => [.any, .any, .any, .any], [.dat ((eT (eP eI eI)) value), .dat (eI most), .any, .any], (st_dat h0 (st_dat h1 (st_any (st_any st_nil)))), tr_start (tr_seq (tr_iff (tr_pe (x := .bl false) (pe_nt (b := true) (PE.v (pe_bfA rfl (.cons (PE.v (pe_d rfl)) (.cons (PE.v (pe_con _)) .nil)) (isi_T _))) rfl) (tr_brnF rfl (tr_pass (tr_seq (tr_for (ti_enum (tr_pe (x := (eT (eP eI eI)) value) (pe_d rfl) (tr_enumT (e := (eP eI eI)) (xs := value) (by exact tr_loop (σ := Unit) (ρ := Int) (e := (eP eI (eP eI eI))) (fun qq => [.any, .dat (eI most), .any, .any]) (fun qq => .d (eI qq)) (fun qq => [.any, .any, .any, .any]) (.cons (.a _) (.cons (.r _) (.cons (.a _) (.cons (.a _) .nil)))) (fun _ ⟨index, fact⟩ => tr_turn (bnd_tup rfl (bnds_cons (bnd_var rfl (bnds_cons (bnd_var rfl (bnds_nil (tr_start (tr_iff (by exact tr_cutE (τ := Bool) (v := fun qq => .d (eB qq)) (Γ1 := fun qq => [.any, .dat (eI most), .dat (eI index), .dat ((eP eI eI) fact)]) (tr_orE (tr_pe (x := eB (decide (index = most))) (pe_cmp (PE.v (pe_d rfl)) (PE.v (pe_d rfl)) (cmp_eq _ _)) (tr_orB (fun _ => tr_nt (tr_call (ta_var rfl rfl rfl (ta_nil (tr_callf (s_is_fact d fact) (.cons (.val _) .nil) rfl (fun r => tr_o (congrArg (Option.map _) (tru_b _)) (end_rt rfl (.cons (.a _) (.cons (.r _) (.cons (.r _) (.cons (.r _) .nil))))))))))) (end_rt rfl (.cons (.a _) (.cons (.r _) (.cons (.r _) (.cons (.r _) .nil)))))))) (fun v => tr_brn (tru_b _) (fun _ => tr_ret (tr_pe (x := eI index) (pe_d rfl) (end_rt rfl (.cons (.a _) (.cons (.a _) (.cons (.a _) (.cons (.a _) .nil))))))) (fun _ => tr_pass (end_go rfl (.cons (.a _) (.cons (.r _) (.cons (.a _) (.cons (.a _) .nil))))))))))))))))) (fun _ => tr_ret (tr_pe (pe_neg (pe_con _)) (end_fin rfl (.cons (.a _) (.cons (.a _) (.cons (.a _) (.cons (.a _) .nil))))))) (fun r => end_fin rfl (.cons (.a _) (.cons (.a _) (.cons (.a _) (.cons (.a _) .nil)))))))))))))))), fun r => (.flat h0 rfl (.flat h1 rfl .nil))⟩
def f_check_lamps (value : (List (Int × Int))) : M Unit := (f_facts_fault value (12 : Int)).bind fun r => if (!decide (r = (-1))) then M.no else .ok ()
theorem s_check_lamps (d : Nat) (value : (List (Int × Int))) : SF (oRun fs (d + 5)) 5 [.dat ((eT (eP eI eI)) value)] (f_check_lamps value) (fun qq => .d (eN qq)) (fun qq => [.keep]) := sf_of (by rfl) rfl fun us hus => by
    obtain ⟨u0, rfl, h0⟩ := args1 hus
    exact ⟨fun qq => [.any, .any], [.dat ((eT (eP eI eI)) value), .any], (st_dat h0 (st_any st_nil)), tr_start (tr_seq (tr_asg (tr_call (ta_var rfl rfl rfl (ta_e rfl (tr_pe (pe_con _) (ta_nil (tr_callf (s_facts_fault d value (12 : Int)) (.cons (.val _) (.cons (.val _) .nil)) rfl (fun r => tr_putD rfl (tr_iff (tr_pe (x := eB (!decide (r = (-1)))) (pe_cmp (PE.v (pe_d rfl)) (PE.v (pe_neg (pe_con _))) (cmp_ne _ _)) (tr_brn (tru_b _) (fun _ => Tr.no) (fun _ => tr_pass (end_finN rfl (.cons (.a _) (.cons (.a _) .nil)))))))))))))))), fun r => (.flat h0 rfl .nil)⟩
def f_raised (number : Int) (power : Int) : M Int := (M.whl (fun ((power1, found, here) : (Int × Int × Int)) => .ok (decide (0 < power1))) (fun ((power1, found, here) : (Int × Int × Int)) => (if (decide ((power1 % 2) = 1)) then (M.mul found here).bind fun z => .ok z else .ok found : M Int).bind fun found2 => M.lt (power1 / 2) fun power3 => (if (decide (0 < power3)) then (M.mul here here).bind fun z1 => .ok z1 else .ok here : M Int).bind fun v => .ok (power3, found2, v)) FUEL ((power, 1, number) : (Int × Int × Int))).bind fun (power2, found1, here1) => .ok found1
theorem s_raised (d : Nat) (number : Int) (power : Int) : SF (oRun fs (d + 1)) 9 [.dat (eI number), .dat (eI power)] (f_raised number power) (fun qq => .d (eI qq)) (fun qq => [.keep, .keep]) := sf_of (by rfl) rfl fun us hus => by
    obtain ⟨u0, u1, rfl, h0, h1⟩ := args2 hus
    exact ⟨fun qq => [.any, .any, .any, .any], [.dat (eI number), .dat (eI power), .any, .any], (st_dat h0 (st_dat h1 (st_any (st_any st_nil)))), tr_start (tr_seq (tr_par (tv_cons (tr_pe (pe_con _) (tv_cons (tr_pe (x := eI number) (pe_d rfl) (tv_nil (tr_puts rfl (tr_seq (by exact tr_whl (σ := (Int × Int × Int)) (fun qq => [.any, .dat (eI qq.1), .dat (eI qq.2.1), .dat (eI qq.2.2)]) (.cons (.a _) (.cons (.r _) (.cons (.r _) (.cons (.r _) .nil)))) (fun ⟨power1, found, here⟩ => tr_pe (x := eB (decide (0 < power1))) (pe_cmp (PE.v (pe_d rfl)) (PE.v (pe_con _)) (cmp_gt _ _)) (end_ts (tru_b _) rfl (.cons (.a _) (.cons (.r _) (.cons (.r _) (.cons (.r _) .nil)))))) (fun ⟨power1, found, here⟩ => tr_start (tr_seq (by exact tr_cut (τ := Int) (Γ1 := fun qq => [.any, .dat (eI power1), .dat (eI qq), .dat (eI here)]) (tr_start (tr_iff (tr_pe (x := eB (decide ((power1 % 2) = 1))) (pe_cmp (PE.v (pe_bin (PE.v (pe_d rfl)) (PE.v (pe_con _)) (bin_modC rfl))) (PE.v (pe_con _)) (cmp_eq _ _)) (tr_brn (tru_b _) (fun _ => tr_asg (tr_bin (tr_pe (x := eI found) (pe_d rfl) (tr_pe (x := eI here) (pe_d rfl) (tr_mul (fun z => tr_putD rfl (end_nx rfl (.cons (.a _) (.cons (.r _) (.cons (.r _) (.cons (.r _) .nil))))))))))) (fun _ => tr_pass (end_nx rfl (.cons (.a _) (.cons (.r _) (.cons (.r _) (.cons (.r _) .nil)))))))))) (fun found2 => tr_seq (tr_asgL (e := eI) (x := (power1 / 2)) (pe_bin (PE.v (pe_d rfl)) (PE.v (pe_con _)) (bin_divC rfl)) rfl (fun power3 => tr_asg (by exact tr_cutE (τ := Int) (v := fun qq => .d (eI qq)) (Γ1 := fun qq => [.any, .dat (eI power3), .dat (eI found2), .dat (eI here)]) (tr_iteE (tr_pe (x := eB (decide (0 < power3))) (pe_cmp (PE.v (pe_d rfl)) (PE.v (pe_con _)) (cmp_gt _ _)) (tr_brn (tru_b _) (fun _ => tr_bin (tr_pe (x := eI here) (pe_d rfl) (tr_pe (x := eI here) (pe_d rfl) (tr_mul (fun z1 => end_rt rfl (.cons (.a _) (.cons (.r _) (.cons (.r _) (.cons (.r _) .nil))))))))) (fun _ => tr_pe (x := eI here) (pe_d rfl) (end_rt rfl (.cons (.a _) (.cons (.r _) (.cons (.r _) (.cons (.r _) .nil))))))))) (fun v => tr_putD rfl (end_go rfl (.cons (.a _) (.cons (.r _) (.cons (.r _) (.cons (.r _) .nil))))))))))))) (fun ⟨power2, found1, here1⟩ => tr_ret (tr_pe (x := eI found1) (pe_d rfl) (end_fin rfl (.cons (.a _) (.cons (.a _) (.cons (.a _) (.cons (.a _) .nil))))))))))))))))), fun r => (.flat h0 rfl (.flat h1 rfl .nil))⟩
def f_does_fit (fact : (Int × Int)) (number : Int) : M Bool := (M.mod (number - fact.1) fact.2).bind fun z => .ok (decide (z = 0))
theorem s_does_fit (d : Nat) (fact : (Int × Int)) (number : Int) : SF (oRun fs (d + 1)) 12 [.dat ((eP eI eI) fact), .dat (eI number)] (f_does_fit fact number) (fun qq => .d (eB qq)) (fun qq => [.keep, .keep]) := sf_of (by rfl) rfl fun us hus => by
    obtain ⟨u0, u1, rfl, h0, h1⟩ := args2 hus
    exact ⟨fun qq => [.any, .any], [.dat ((eP eI eI) fact), .dat (eI number)], (st_dat h0 (st_dat h1 st_nil)), tr_start (tr_ret (tr_cmp (tr_bin (tr_pe (x := eI (number - fact.1)) (pe_sub (pe_d rfl) (pe_idxV rfl rfl (PE.v (pe_con _)) rfl)) (tr_pe (x := eI fact.2) (pe_idxV rfl rfl (PE.v (pe_con _)) rfl) (tr_mod (fun z => tr_pe (pe_con _) (tr_o (congrArg (Option.map _) (cmp_eq _ _)) (end_fin rfl (.cons (.a _) (.cons (.a _) .nil))))))))))), fun r => (.flat h0 rfl (.flat h1 rfl .nil))⟩
def f_is_lit (lamps : (List (Int × Int))) (number : Int) : M Bool := (M.mapC (fun (lamp : (Int × Int)) => ((f_does_fit lamp number).bind fun r => .ok r : M Bool)) lamps).bind fun ys => .ok (ys.any id)
theorem s_is_lit (d : Nat) (lamps : (List (Int × Int))) (number : Int) : SF (oRun fs (d + 2)) 14 [.dat ((eT (eP eI eI)) lamps), .dat (eI number)] (f_is_lit lamps number) (fun qq => .d (eB qq)) (fun qq => [.keep, .keep]) := sf_of (by rfl) rfl fun us hus => by
    obtain ⟨u0, u1, rfl, h0, h1⟩ := args2 hus
    exact ⟨fun qq => [.any, .any, .any], [.dat ((eT (eP eI eI)) lamps), .dat (eI number), .any], (st_dat h0 (st_dat h1 (st_any st_nil))), tr_start (tr_ret (tr_bf rfl (tl_cons (tr_comp rfl (ti_it (tr_pe (x := (eT (eP eI eI)) lamps) (pe_d rfl) (tr_itT (e := (eP eI eI)) (xs := lamps) rfl (by exact tr_mapC (ei := (eP eI eI)) (vv := fun y => .d (eB y)) (own := [2]) [.dat ((eT (eP eI eI)) lamps), .dat (eI number), .any] (.cons (.r _) (.cons (.r _) (.cons (.a _) .nil))) rfl (fun lamp => tr_turnO (bnd_var rfl (tr_yes (tr_call (ta_var rfl rfl rfl (ta_var rfl rfl rfl (ta_nil (tr_callf (s_does_fit d lamp number) (.cons (.val _) (.cons (.val _) .nil)) rfl (fun r => end_rt rfl (.cons (.r _) (.cons (.r _) (.cons (.a _) .nil)))))))))))) (fun ys => tl_nil (tr_o (bf_any _) (end_fin rfl (.cons (.a _) (.cons (.a _) (.cons (.a _) .nil)))))))))))))), fun r => (.flat h0 rfl (.flat h1 rfl .nil))⟩
def f_first_dark (lamps : (List (Int × Int))) (number : Int) : M (Option Int) := (f_raised (2 : Int) (lamps.length : Int)).bind fun r => (M.range1 r).bind fun ns => (M.loop (fun (_ : Unit) (step : Int) => ((f_is_lit lamps (number + step)).bind fun r1 => if (!r1) then .ok (.rt (some (number + step))) else .ok (.nx ()) : M (Ct Unit (Option Int)))) (() : Unit) ns).bind (M.fl (fun (_ : Unit) => .ok none) (fun r => .ok r))
theorem s_first_dark (d : Nat) (lamps : (List (Int × Int))) (number : Int) : SF (oRun fs (d + 3)) 15 [.dat ((eT (eP eI eI)) lamps), .dat (eI number)] (f_first_dark lamps number) (fun qq => .d ((eO eI) qq)) (fun qq => [.keep, .keep]) := sf_of (by rfl) rfl fun us hus => by
    obtain ⟨u0, u1, rfl, h0, h1⟩ := args2 hus
    exact ⟨fun qq => [.any, .any, .any], [.dat ((eT (eP eI eI)) lamps), .dat (eI number), .any], (st_dat h0 (st_dat h1 (st_any st_nil))), tr_start (tr_seq (tr_for (ti_rng1 (tr_call (ta_e rfl (tr_pe (pe_con _) (ta_e rfl (tr_pe (x := eI (lamps.length : Int)) (pe_bfV rfl rfl (bf_lenT _)) (ta_nil (tr_callf (s_raised (d + 1) (2 : Int) (lamps.length : Int)) (.cons (.val _) (.cons (.val _) .nil)) rfl (fun r => tr_range1 (fun ns => by exact tr_loop (σ := Unit) (ρ := (Option Int)) (e := eI) (fun qq => [.dat ((eT (eP eI eI)) lamps), .dat (eI number), .any]) (fun qq => .d ((eO eI) qq)) (fun qq => [.any, .any, .any]) (.cons (.r _) (.cons (.r _) (.cons (.a _) .nil))) (fun _ step => tr_turn (bnd_var rfl (tr_start (tr_iff (tr_nt (tr_call (ta_var rfl rfl rfl (ta_e rfl (tr_pe (x := eI (number + step)) (pe_add (pe_d rfl) (pe_d rfl)) (ta_nil (tr_callf (s_is_lit d lamps (number + step)) (.cons (.val _) (.cons (.val _) .nil)) rfl (fun r1 => tr_o (congrArg (Option.map _) (tru_b _)) (tr_brn (tru_b _) (fun _ => tr_ret (tr_pe (x := eI (number + step)) (pe_add (pe_d rfl) (pe_d rfl)) (end_rt rfl (.cons (.a _) (.cons (.a _) (.cons (.a _) .nil)))))) (fun _ => tr_pass (end_go rfl (.cons (.r _) (.cons (.r _) (.cons (.a _) .nil)))))))))))))))))) (fun _ => tr_ret (tr_pe (pe_con _) (end_fin rfl (.cons (.a _) (.cons (.a _) (.cons (.a _) .nil)))))) (fun r => end_fin rfl (.cons (.a _) (.cons (.a _) (.cons (.a _) .nil)))))))))))))))), fun r => (.flat h0 rfl (.flat h1 rfl .nil))⟩
def f_shifted (lamp : (Int × Int)) (step : Int) : M (Int × Int) := (M.mod (lamp.1 - step) lamp.2).bind fun z => .ok (z, lamp.2)
theorem s_shifted (d : Nat) (lamp : (Int × Int)) (step : Int) : SF (oRun fs (d + 1)) 16 [.dat ((eP eI eI) lamp), .dat (eI step)] (f_shifted lamp step) (fun qq => .d ((eP eI eI) qq)) (fun qq => [.keep, .keep]) := sf_of (by rfl) rfl fun us hus => by
    obtain ⟨u0, u1, rfl, h0, h1⟩ := args2 hus
    exact ⟨fun qq => [.any, .any], [.dat ((eP eI eI) lamp), .dat (eI step)], (st_dat h0 (st_dat h1 st_nil)), tr_start (tr_ret (tr_tup (tl_cons (tr_bin (tr_pe (x := eI (lamp.1 - step)) (pe_sub (pe_idxV rfl rfl (PE.v (pe_con _)) rfl) (pe_d rfl)) (tr_pe (x := eI lamp.2) (pe_idxV rfl rfl (PE.v (pe_con _)) rfl) (tr_mod (fun z => tl_cons (tr_pe (x := eI lamp.2) (pe_idxV rfl rfl (PE.v (pe_con _)) rfl) (tl_nil (tr_fit rfl (end_fin rfl (.cons (.a _) (.cons (.a _) .nil)))))))))))))), fun r => (.flat h0 rfl (.flat h1 rfl .nil))⟩
def f_does_tell (whole : (Int × Int)) (fact : (Int × Int)) : M Bool := ((M.mod whole.2 fact.2).bind fun z => if (decide (z = 0)) then (f_does_fit fact whole.1).bind fun r => .ok r else .ok false : M Bool).bind fun v => .ok v
theorem s_does_tell (d : Nat) (whole : (Int × Int)) (fact : (Int × Int)) : SF (oRun fs (d + 2)) 13 [.dat ((eP eI eI) whole), .dat ((eP eI eI) fact)] (f_does_tell whole fact) (fun qq => .d (eB qq)) (fun qq => [.keep, .keep]) := sf_of (by rfl) rfl fun us hus => by
    obtain ⟨u0, u1, rfl, h0, h1⟩ := args2 hus
    exact ⟨fun qq => [.any, .any], [.dat ((eP eI eI) whole), .dat ((eP eI eI) fact)], (st_dat h0 (st_dat h1 st_nil)), tr_start (tr_ret (by exact tr_cutE (τ := Bool) (v := fun qq => .d (eB qq)) (Γ1 := fun qq => [.dat ((eP eI eI) whole), .dat ((eP eI eI) fact)]) (tr_andE (tr_cmp (tr_bin (tr_pe (x := eI whole.2) (pe_idxV rfl rfl (PE.v (pe_con _)) rfl) (tr_pe (x := eI fact.2) (pe_idxV rfl rfl (PE.v (pe_con _)) rfl) (tr_mod (fun z => tr_pe (pe_con _) (tr_o (congrArg (Option.map _) (cmp_eq _ _)) (tr_andB (fun _ => tr_call (ta_var rfl rfl rfl (ta_e rfl (tr_pe (x := eI whole.1) (pe_idxV rfl rfl (PE.v (pe_con _)) rfl) (ta_nil (tr_callf (s_does_fit d fact whole.1) (.cons (.val _) (.cons (.val _) .nil)) rfl (fun r => end_rt rfl (.cons (.r _) (.cons (.r _) .nil))))))))) (end_rt rfl (.cons (.r _) (.cons (.r _) .nil)))))))))))) (fun v => end_fin rfl (.cons (.a _) (.cons (.a _) .nil))))), fun r => (.flat h0 rfl (.flat h1 rfl .nil))⟩
def f_is_lit_2 (lamps : (List (Int × Int))) (number : Int) : M Bool := (M.mapC (fun (lamp : (Int × Int)) => ((f_does_fit lamp number).bind fun r => .ok r : M Bool)) lamps).bind fun ys => .ok (ys.any id)
theorem s_is_lit_2 (d : Nat) (lamps : (List (Int × Int))) (number : Int) : SF (oRun fs (d + 2)) 14 [.dat ((eL (eP eI eI)) lamps), .dat (eI number)] (f_is_lit_2 lamps number) (fun qq => .d (eB qq)) (fun qq => [.keep, .keep]) := sf_of (by rfl) rfl fun us hus => by
    obtain ⟨u0, u1, rfl, h0, h1⟩ := args2 hus
    exact ⟨fun qq => [.prm u0, .any, .any], [.prm u0, .dat (eI number), .any], (st_prm (st_dat h1 (st_any st_nil))), tr_start (tr_ret (tr_bf rfl (tl_cons (tr_comp rfl (ti_it (tr_pe (x := (eL (eP eI eI)) lamps) (pe_p rfl h0) (tr_itL (e := (eP eI eI)) (xs := lamps) rfl (by exact tr_mapC (ei := (eP eI eI)) (vv := fun y => .d (eB y)) (own := [2]) [.prm u0, .dat (eI number), .any] (.cons (.r _) (.cons (.r _) (.cons (.a _) .nil))) rfl (fun lamp => tr_turnO (bnd_var rfl (tr_yes (tr_call (ta_var rfl rfl rfl (ta_var rfl rfl rfl (ta_nil (tr_callf (s_does_fit d lamp number) (.cons (.val _) (.cons (.val _) .nil)) rfl (fun r => end_rt rfl (.cons (.r _) (.cons (.r _) (.cons (.a _) .nil)))))))))))) (fun ys => tl_nil (tr_o (bf_any _) (end_fin rfl (.cons (.r _) (.cons (.a _) (.cons (.a _) .nil)))))))))))))), fun r => (.keep (.flat h1 rfl .nil))⟩
def f_is_hopeless (lamps : (List (Int × Int))) (whole : (Int × Int)) (step : Int) (goal : Int) : M Bool := (M.optC (fun (lamp : (Int × Int)) => ((M.mod whole.2 lamp.2).bind fun z => if (decide (z = 0)) then .ok (some lamp) else .ok none : M (Option (Int × Int)))) lamps).bind fun ys => (M.range step goal).bind fun ns => (M.optC (fun (here : Int) => ((f_is_lit_2 ys (whole.1 + here)).bind fun r => if (!r) then .ok (some here) else .ok none : M (Option Int))) ns).bind fun ys1 => (M.optC (fun ((rest, base) : (Int × Int)) => ((M.mod whole.2 base).bind fun z1 => if (!decide (z1 = 0)) then (M.div (((goal - step) + base) - 1) base).bind fun z2 => .ok (some z2) else .ok none : M (Option Int))) lamps).bind fun ys2 => .ok (decide (ys2.sum < (ys1.length : Int)))
theorem s_is_hopeless (d : Nat) (lamps : (List (Int × Int))) (whole : (Int × Int)) (step : Int) (goal : Int) : SF (oRun fs (d + 3)) 17 [.dat ((eT (eP eI eI)) lamps), .dat ((eP eI eI) whole), .dat (eI step), .dat (eI goal)] (f_is_hopeless lamps whole step goal) (fun qq => .d (eB qq)) (fun qq => [.keep, .keep, .keep, .keep]) := sf_of (by rfl) rfl fun us hus => by
    obtain ⟨u0, u1, u2, u3, rfl, h0, h1, h2, h3⟩ := args4 hus
    exact ⟨fun qq => [.any, .any, .any, .any, .any, .any, .any, .any, .any, .any], [.dat ((eT (eP eI eI)) lamps), .dat ((eP eI eI) whole), .dat (eI step), .dat (eI goal), .any, .any, .any, .any, .any, .any], (st_dat h0 (st_dat h1 (st_dat h2 (st_dat h3 (st_any (st_any (st_any (st_any (st_any (st_any st_nil)))))))))), tr_start (tr_seq (tr_asg (tr_comp rfl (ti_it (tr_pe (x := (eT (eP eI eI)) lamps) (pe_d rfl) (tr_itT (e := (eP eI eI)) (xs := lamps) rfl (by exact tr_optC (ei := (eP eI eI)) (vv := fun y => .d ((eP eI eI) y)) (own := [6]) [.dat ((eT (eP eI eI)) lamps), .dat ((eP eI eI) whole), .dat (eI step), .dat (eI goal), .any, .any, .any, .any, .any, .any] (.cons (.r _) (.cons (.r _) (.cons (.r _) (.cons (.r _) (.cons (.a _) (.cons (.a _) (.cons (.a _) (.cons (.a _) (.cons (.a _) (.cons (.a _) .nil)))))))))) rfl (fun lamp => tr_turnO (bnd_var rfl (tr_cmp (tr_bin (tr_pe (x := eI whole.2) (pe_idxV rfl rfl (PE.v (pe_con _)) rfl) (tr_pe (x := eI lamp.2) (pe_idxV rfl rfl (PE.v (pe_con _)) rfl) (tr_mod (fun z => tr_pe (pe_con _) (tr_o (congrArg (Option.map _) (cmp_eq _ _)) (tr_brn (tru_b _) (fun _ => tr_pe (x := (eP eI eI) lamp) (pe_d rfl) (end_rt rfl (.cons (.r _) (.cons (.r _) (.cons (.r _) (.cons (.r _) (.cons (.a _) (.cons (.a _) (.cons (.a _) (.cons (.a _) (.cons (.a _) (.cons (.a _) .nil)))))))))))) (fun _ => end_ct rfl (.cons (.r _) (.cons (.r _) (.cons (.r _) (.cons (.r _) (.cons (.a _) (.cons (.a _) (.cons (.a _) (.cons (.a _) (.cons (.a _) (.cons (.a _) .nil))))))))))))))))))))) (fun ys => tr_putL rfl (tr_seq (tr_asg (tr_bf rfl (tl_cons (tr_comp rfl (ti_rng2 (tr_pe (x := eI step) (pe_d rfl) (tr_pe (x := eI goal) (pe_d rfl) (tr_range (fun ns => by exact tr_optC (ei := eI) (vv := fun y => .d (eI y)) (own := [7]) [.dat ((eT (eP eI eI)) lamps), .dat ((eP eI eI) whole), .dat (eI step), .dat (eI goal), .dat ((eL (eP eI eI)) ys), .any, .any, .any, .any, .any] (.cons (.r _) (.cons (.r _) (.cons (.r _) (.cons (.r _) (.cons (.r _) (.cons (.a _) (.cons (.a _) (.cons (.a _) (.cons (.a _) (.cons (.a _) .nil)))))))))) rfl (fun here => tr_turnO (bnd_var rfl (tr_nt (tr_call (ta_varL rfl rfl (fun a0_ag ha0_ag => ta_e rfl (tr_pe (x := eI (whole.1 + here)) (pe_add (pe_idxV rfl rfl (PE.v (pe_con _)) rfl) (pe_d rfl)) (ta_nil (tr_callf (s_is_lit_2 d ys (whole.1 + here)) (.cons (.list ha0_ag rfl rfl rfl) (.cons (.val _) .nil)) rfl (fun r => tr_o (congrArg (Option.map _) (tru_b _)) (tr_brn (tru_b _) (fun _ => tr_pe (x := eI here) (pe_d rfl) (end_rt rfl (.cons (.r _) (.cons (.r _) (.cons (.r _) (.cons (.r _) (.cons (.r _) (.cons (.a _) (.cons (.a _) (.cons (.a _) (.cons (.a _) (.cons (.a _) .nil)))))))))))) (fun _ => end_ct rfl (.cons (.r _) (.cons (.r _) (.cons (.r _) (.cons (.r _) (.cons (.r _) (.cons (.a _) (.cons (.a _) (.cons (.a _) (.cons (.a _) (.cons (.a _) .nil)))))))))))))))))))))) (fun ys1 => tl_nil (tr_o (bf_len _) (tr_putD rfl (tr_ret (tr_cmp (tr_pe (x := eI (ys1.length : Int)) (pe_d rfl) (tr_bf rfl (tl_cons (tr_comp rfl (ti_it (tr_pe (x := (eT (eP eI eI)) lamps) (pe_d rfl) (tr_itT (e := (eP eI eI)) (xs := lamps) rfl (by exact tr_optC (ei := (eP eI eI)) (vv := fun y => .d (eI y)) (own := [8, 9]) [.dat ((eT (eP eI eI)) lamps), .dat ((eP eI eI) whole), .dat (eI step), .dat (eI goal), .dat ((eL (eP eI eI)) ys), .dat (eI (ys1.length : Int)), .any, .any, .any, .any] (.cons (.r _) (.cons (.r _) (.cons (.r _) (.cons (.r _) (.cons (.r _) (.cons (.r _) (.cons (.a _) (.cons (.a _) (.cons (.a _) (.cons (.a _) .nil)))))))))) rfl (fun ⟨rest, base⟩ => tr_turnO (bnd_tup rfl (bnds_cons (bnd_var rfl (bnds_cons (bnd_var rfl (bnds_nil (tr_cmp (tr_bin (tr_pe (x := eI whole.2) (pe_idxV rfl rfl (PE.v (pe_con _)) rfl) (tr_pe (x := eI base) (pe_d rfl) (tr_mod (fun z1 => tr_pe (pe_con _) (tr_o (congrArg (Option.map _) (cmp_ne _ _)) (tr_brn (tru_b _) (fun _ => tr_bin (tr_pe (x := eI (((goal - step) + base) - 1)) (pe_sub (pe_add (pe_sub (pe_d rfl) (pe_d rfl)) (pe_d rfl)) (pe_con _)) (tr_pe (x := eI base) (pe_d rfl) (tr_div (fun z2 => end_rt rfl (.cons (.r _) (.cons (.r _) (.cons (.r _) (.cons (.r _) (.cons (.r _) (.cons (.r _) (.cons (.a _) (.cons (.a _) (.cons (.a _) (.cons (.a _) .nil))))))))))))))) (fun _ => end_ct rfl (.cons (.r _) (.cons (.r _) (.cons (.r _) (.cons (.r _) (.cons (.r _) (.cons (.r _) (.cons (.a _) (.cons (.a _) (.cons (.a _) (.cons (.a _) .nil)))))))))))))))))))))))))) (fun ys2 => tl_nil (tr_o (bf_sum _) (tr_o (congrArg (Option.map _) (cmp_gt _ _)) (end_fin rfl (.cons (.a _) (.cons (.a _) (.cons (.a _) (.cons (.a _) (.cons (.a _) (.cons (.a _) (.cons (.a _) (.cons (.a _) (.cons (.a _) (.cons (.a _) .nil))))))))))))))))))))))))))))))))))))))))))))), fun r => (.flat h0 rfl (.flat h1 rfl (.flat h2 rfl (.flat h3 rfl .nil))))⟩
def f_common_of (one : Int) (other : Int) : M Int := (M.whl (fun ((one1, other1) : (Int × Int)) => .ok (decide (0 < other1))) (fun ((one1, other1) : (Int × Int)) => (M.mod one1 other1).bind fun z => .ok (other1, z)) FUEL (((one.natAbs : Int), (other.natAbs : Int)) : (Int × Int))).bind fun (one2, other2) => .ok one2
theorem s_common_of (d : Nat) (one : Int) (other : Int) : SF (oRun fs (d + 1)) 6 [.dat (eI one), .dat (eI other)] (f_common_of one other) (fun qq => .d (eI qq)) (fun qq => [.keep, .keep]) := sf_of (by rfl) rfl fun us hus => by
    obtain ⟨u0, u1, rfl, h0, h1⟩ := args2 hus
    exact ⟨fun qq => [.any, .any], [.dat (eI one), .dat (eI other)], (st_dat h0 (st_dat h1 st_nil)), tr_start (tr_seq (tr_par (tv_cons (tr_pe (x := eI (one.natAbs : Int)) (pe_bfV rfl rfl (bf_abs _)) (tv_cons (tr_pe (x := eI (other.natAbs : Int)) (pe_bfV rfl rfl (bf_abs _)) (tv_nil (tr_puts rfl (tr_seq (by exact tr_whl (σ := (Int × Int)) (fun qq => [.dat (eI qq.1), .dat (eI qq.2)]) (.cons (.r _) (.cons (.r _) .nil)) (fun ⟨one1, other1⟩ => tr_pe (x := eB (decide (0 < other1))) (pe_cmp (PE.v (pe_d rfl)) (PE.v (pe_con _)) (cmp_gt _ _)) (end_ts (tru_b _) rfl (.cons (.r _) (.cons (.r _) .nil)))) (fun ⟨one1, other1⟩ => tr_start (tr_par (tv_cons (tr_pe (x := eI other1) (pe_d rfl) (tv_cons (tr_bin (tr_pe (x := eI one1) (pe_d rfl) (tr_pe (x := eI other1) (pe_d rfl) (tr_mod (fun z => tv_nil (tr_puts rfl (end_go rfl (.cons (.r _) (.cons (.r _) .nil)))))))))))))) (fun ⟨one2, other2⟩ => tr_ret (tr_pe (x := eI one2) (pe_d rfl) (end_fin rfl (.cons (.a _) (.cons (.a _) .nil))))))))))))))), fun r => (.flat h0 rfl (.flat h1 rfl .nil))⟩
def f_do_quarrel (one : (Int × Int)) (other : (Int × Int)) : M Bool := (f_common_of one.2 other.2).bind fun r => (M.mod (one.1 - other.1) r).bind fun z => .ok (!decide (z = 0))
theorem s_do_quarrel (d : Nat) (one : (Int × Int)) (other : (Int × Int)) : SF (oRun fs (d + 2)) 10 [.dat ((eP eI eI) one), .dat ((eP eI eI) other)] (f_do_quarrel one other) (fun qq => .d (eB qq)) (fun qq => [.keep, .keep]) := sf_of (by rfl) rfl fun us hus => by
    obtain ⟨u0, u1, rfl, h0, h1⟩ := args2 hus
    exact ⟨fun qq => [.any, .any], [.dat ((eP eI eI) one), .dat ((eP eI eI) other)], (st_dat h0 (st_dat h1 st_nil)), tr_start (tr_ret (tr_cmp (tr_bin (tr_pe (x := eI (one.1 - other.1)) (pe_sub (pe_idxV rfl rfl (PE.v (pe_con _)) rfl) (pe_idxV rfl rfl (PE.v (pe_con _)) rfl)) (tr_call (ta_e rfl (tr_pe (x := eI one.2) (pe_idxV rfl rfl (PE.v (pe_con _)) rfl) (ta_e rfl (tr_pe (x := eI other.2) (pe_idxV rfl rfl (PE.v (pe_con _)) rfl) (ta_nil (tr_callf (s_common_of d one.2 other.2) (.cons (.val _) (.cons (.val _) .nil)) rfl (fun r => tr_mod (fun z => tr_pe (pe_con _) (tr_o (congrArg (Option.map _) (cmp_ne _ _)) (end_fin rfl (.cons (.a _) (.cons (.a _) .nil))))))))))))))))), fun r => (.flat h0 rfl (.flat h1 rfl .nil))⟩
def f_combined_of (one : Int) (other : Int) : M (Int × Int) := (M.whl (fun ((left, right, first, second) : (Int × Int × (Int × Int) × (Int × Int))) => .ok (!decide (right = 0))) (fun ((left, right, first, second) : (Int × Int × (Int × Int) × (Int × Int))) => (M.div left right).bind fun z => (M.mul z right).bind fun z1 => (M.mul z second.1).bind fun z2 => (M.mul z second.2).bind fun z3 => .ok (right, (left - z1), second, ((first.1 - z2), (first.2 - z3)))) FUEL ((one, other, (1, 0), (0, 1)) : (Int × Int × (Int × Int) × (Int × Int)))).bind fun (left1, right1, first1, second1) => .ok (if (decide (0 ≤ left1)) then first1 else ((-first1.1), (-first1.2)))
theorem s_combined_of (d : Nat) (one : Int) (other : Int) : SF (oRun fs (d + 1)) 7 [.dat (eI one), .dat (eI other)] (f_combined_of one other) (fun qq => .d ((eP eI eI) qq)) (fun qq => [.keep, .keep]) := sf_of (by rfl) rfl fun us hus => by
    obtain ⟨u0, u1, rfl, h0, h1⟩ := args2 hus
    exact ⟨fun qq => [.any, .any, .any, .any, .any, .any, .any], [.dat (eI one), .dat (eI other), .any, .any, .any, .any, .any], (st_dat h0 (st_dat h1 (st_any (st_any (st_any (st_any (st_any st_nil))))))), tr_start (tr_seq (tr_par (tv_cons (tr_pe (x := eI one) (pe_d rfl) (tv_cons (tr_pe (x := eI other) (pe_d rfl) (tv_cons (tr_pe (x := (eP eI eI) (1, 0)) (pe_tup (.cons (PE.v (pe_con _)) (.cons (PE.v (pe_con _)) .nil)) rfl) (tv_cons (tr_pe (x := (eP eI eI) (0, 1)) (pe_tup (.cons (PE.v (pe_con _)) (.cons (PE.v (pe_con _)) .nil)) rfl) (tv_nil (tr_puts rfl (tr_seq (by exact tr_whl (σ := (Int × Int × (Int × Int) × (Int × Int))) (fun qq => [.any, .any, .dat (eI qq.1), .dat (eI qq.2.1), .dat ((eP eI eI) qq.2.2.1), .dat ((eP eI eI) qq.2.2.2), .any]) (.cons (.a _) (.cons (.a _) (.cons (.r _) (.cons (.r _) (.cons (.r _) (.cons (.r _) (.cons (.a _) .nil))))))) (fun ⟨left, right, first, second⟩ => tr_pe (x := eB (!decide (right = 0))) (pe_cmp (PE.v (pe_d rfl)) (PE.v (pe_con _)) (cmp_ne _ _)) (end_ts (tru_b _) rfl (.cons (.a _) (.cons (.a _) (.cons (.r _) (.cons (.r _) (.cons (.r _) (.cons (.r _) (.cons (.a _) .nil))))))))) (fun ⟨left, right, first, second⟩ => tr_start (tr_seq (tr_asg (tr_bin (tr_pe (x := eI left) (pe_d rfl) (tr_pe (x := eI right) (pe_d rfl) (tr_div (fun z => tr_putD rfl (tr_seq (tr_par (tv_cons (tr_pe (x := eI right) (pe_d rfl) (tv_cons (tr_bin (tr_pe (x := eI left) (pe_d rfl) (tr_bin (tr_pe (x := eI z) (pe_d rfl) (tr_pe (x := eI right) (pe_d rfl) (tr_mul (fun z1 => tr_o rfl (tv_nil (tr_puts rfl (tr_par (tv_cons (tr_pe (x := (eP eI eI) second) (pe_d rfl) (tv_cons (tr_tup (tl_cons (tr_bin (tr_pe (x := eI first.1) (pe_idxV rfl rfl (PE.v (pe_con _)) rfl) (tr_bin (tr_pe (x := eI z) (pe_d rfl) (tr_pe (x := eI second.1) (pe_idxV rfl rfl (PE.v (pe_con _)) rfl) (tr_mul (fun z2 => tr_o rfl (tl_cons (tr_bin (tr_pe (x := eI first.2) (pe_idxV rfl rfl (PE.v (pe_con _)) rfl) (tr_bin (tr_pe (x := eI z) (pe_d rfl) (tr_pe (x := eI second.2) (pe_idxV rfl rfl (PE.v (pe_con _)) rfl) (tr_mul (fun z3 => tr_o rfl (tl_nil (tr_fit rfl (tv_nil (tr_puts rfl (end_go rfl (.cons (.a _) (.cons (.a _) (.cons (.r _) (.cons (.r _) (.cons (.r _) (.cons (.r _) (.cons (.a _) .nil))))))))))))))))))))))))))))))))))))))))))))))))))))))) (fun ⟨left1, right1, first1, second1⟩ => tr_ret (tr_pe (x := (eP eI eI) (if (decide (0 ≤ left1)) then first1 else ((-first1.1), (-first1.2)))) (pe_ite (p := (decide (0 ≤ left1))) (PE.v (pe_cmp (PE.v (pe_d rfl)) (PE.v (pe_con _)) (cmp_ge _ _))) (tru_b _) (fun _ => (pe_d rfl)) (fun _ => (pe_tup (.cons (PE.v (pe_neg (pe_idxV rfl rfl (PE.v (pe_con _)) rfl))) (.cons (PE.v (pe_neg (pe_idxV rfl rfl (PE.v (pe_con _)) rfl))) .nil)) rfl)) (apply_ite (eP eI eI) ((decide (0 ≤ left1)) = true) first1 ((-first1.1), (-first1.2)))) (end_fin rfl (.cons (.a _) (.cons (.a _) (.cons (.a _) (.cons (.a _) (.cons (.a _) (.cons (.a _) (.cons (.a _) .nil)))))))))))))))))))))))), fun r => (.flat h0 rfl (.flat h1 rfl .nil))⟩
def f_back_of (number : Int) (base : Int) : M Int := (M.mod number base).bind fun z => (f_combined_of z base).bind fun r => (M.mod r.1 base).bind fun z1 => .ok z1
theorem s_back_of (d : Nat) (number : Int) (base : Int) : SF (oRun fs (d + 2)) 8 [.dat (eI number), .dat (eI base)] (f_back_of number base) (fun qq => .d (eI qq)) (fun qq => [.keep, .keep]) := sf_of (by rfl) rfl fun us hus => by
    obtain ⟨u0, u1, rfl, h0, h1⟩ := args2 hus
    exact ⟨fun qq => [.any, .any], [.dat (eI number), .dat (eI base)], (st_dat h0 (st_dat h1 st_nil)), tr_start (tr_ret (tr_bin (tr_idx rfl (tr_call (ta_e rfl (tr_bin (tr_pe (x := eI number) (pe_d rfl) (tr_pe (x := eI base) (pe_d rfl) (tr_mod (fun z => ta_var rfl rfl rfl (ta_nil (tr_callf (s_combined_of d z base) (.cons (.val _) (.cons (.val _) .nil)) rfl (fun r => tr_pe (pe_con _) (tr_o rfl (tr_pe (x := eI base) (pe_d rfl) (tr_mod (fun z1 => end_fin rfl (.cons (.a _) (.cons (.a _) .nil))))))))))))))))))), fun r => (.flat h0 rfl (.flat h1 rfl .nil))⟩
def f_put_together (one : (Int × Int)) (other : (Int × Int)) : M (Int × Int) := (f_common_of one.2 other.2).bind fun r => (M.div (other.1 - one.1) r).bind fun z => (M.div one.2 r).bind fun z1 => (M.div other.2 r).bind fun z2 => (f_back_of z1 z2).bind fun r1 => (M.mul z r1).bind fun z3 => (M.div other.2 r).bind fun z4 => (M.mod z3 z4).bind fun z5 => (M.div one.2 r).bind fun z6 => (M.mul z6 other.2).bind fun z7 => (M.mul one.2 z5).bind fun z8 => (M.mod (one.1 + z8) z7).bind fun z9 => .ok (z9, z7)
theorem s_put_together (d : Nat) (one : (Int × Int)) (other : (Int × Int)) : SF (oRun fs (d + 3)) 11 [.dat ((eP eI eI) one), .dat ((eP eI eI) other)] (f_put_together one other) (fun qq => .d ((eP eI eI) qq)) (fun qq => [.keep, .keep]) := sf_of (by rfl) rfl fun us hus => by
    obtain ⟨u0, u1, rfl, h0, h1⟩ := args2 hus
    exact ⟨fun qq => [.any, .any, .any, .any, .any], [.dat ((eP eI eI) one), .dat ((eP eI eI) other), .any, .any, .any], (st_dat h0 (st_dat h1 (st_any (st_any (st_any st_nil))))), tr_start (tr_seq (tr_asg (tr_call (ta_e rfl (tr_pe (x := eI one.2) (pe_idxV rfl rfl (PE.v (pe_con _)) rfl) (ta_e rfl (tr_pe (x := eI other.2) (pe_idxV rfl rfl (PE.v (pe_con _)) rfl) (ta_nil (tr_callf (s_common_of (d + 1) one.2 other.2) (.cons (.val _) (.cons (.val _) .nil)) rfl (fun r => tr_putD rfl (tr_seq (tr_asg (tr_bin (tr_bin (tr_bin (tr_pe (x := eI (other.1 - one.1)) (pe_sub (pe_idxV rfl rfl (PE.v (pe_con _)) rfl) (pe_idxV rfl rfl (PE.v (pe_con _)) rfl)) (tr_pe (x := eI r) (pe_d rfl) (tr_div (fun z => tr_call (ta_e rfl (tr_bin (tr_pe (x := eI one.2) (pe_idxV rfl rfl (PE.v (pe_con _)) rfl) (tr_pe (x := eI r) (pe_d rfl) (tr_div (fun z1 => ta_e rfl (tr_bin (tr_pe (x := eI other.2) (pe_idxV rfl rfl (PE.v (pe_con _)) rfl) (tr_pe (x := eI r) (pe_d rfl) (tr_div (fun z2 => ta_nil (tr_callf (s_back_of d z1 z2) (.cons (.val _) (.cons (.val _) .nil)) rfl (fun r1 => tr_mul (fun z3 => tr_bin (tr_pe (x := eI other.2) (pe_idxV rfl rfl (PE.v (pe_con _)) rfl) (tr_pe (x := eI r) (pe_d rfl) (tr_div (fun z4 => tr_mod (fun z5 => tr_putD rfl (tr_seq (tr_asg (tr_bin (tr_bin (tr_pe (x := eI one.2) (pe_idxV rfl rfl (PE.v (pe_con _)) rfl) (tr_pe (x := eI r) (pe_d rfl) (tr_div (fun z6 => tr_pe (x := eI other.2) (pe_idxV rfl rfl (PE.v (pe_con _)) rfl) (tr_mul (fun z7 => tr_putD rfl (tr_ret (tr_tup (tl_cons (tr_bin (tr_bin (tr_pe (x := eI one.1) (pe_idxV rfl rfl (PE.v (pe_con _)) rfl) (tr_bin (tr_pe (x := eI one.2) (pe_idxV rfl rfl (PE.v (pe_con _)) rfl) (tr_pe (x := eI z5) (pe_d rfl) (tr_mul (fun z8 => tr_o rfl (tr_pe (x := eI z7) (pe_d rfl) (tr_mod (fun z9 => tl_cons (tr_pe (x := eI z7) (pe_d rfl) (tl_nil (tr_fit rfl (end_fin rfl (.cons (.a _) (.cons (.a _) (.cons (.a _) (.cons (.a _) (.cons (.a _) .nil))))))))))))))))))))))))))))))))))))))))))))))))))))))))))))))))))))))), fun r => (.flat h0 rfl (.flat h1 rfl .nil))⟩
def f_start_of_r : Nat → (List (Int × Int)) → (Int × Int) → Int → Int → M (Option Int)
  | 0, _, _, _, _ => M.no
  | n + 1, lamps, whole, step, goal => (M.whl (fun (step1 : Int) => (if (decide (step1 < goal)) then (M.mapC (fun (lamp : (Int × Int)) => ((f_shifted lamp step1).bind fun r => (f_does_tell whole r).bind fun r1 => .ok r1 : M Bool)) lamps).bind fun ys => .ok (ys.any id) else .ok false : M Bool).bind fun v => .ok v) (fun (step1 : Int) => M.lt (step1 + 1) fun step3 => .ok step3) FUEL (step : Int)).bind fun step2 => if (decide (step2 = goal)) then .ok (some whole.1) else (f_is_hopeless lamps whole step2 goal).bind fun r2 => if r2 then .ok none else (M.loop (fun (_ : Unit) (lamp1 : (Int × Int)) => ((f_shifted lamp1 step2).bind fun r3 => (f_do_quarrel whole r3).bind fun r4 => if (!r4) then (f_put_together whole r3).bind fun r5 => (f_start_of_r n lamps r5 step2 goal).bind fun r6 => M.opt r6 (.ok (.nx ())) fun found => .ok (.rt (some found)) else .ok (.nx ()) : M (Ct Unit (Option Int)))) (() : Unit) lamps).bind (M.fl (fun (_ : Unit) => .ok none) (fun r => .ok r))
def f_start_of (lamps : (List (Int × Int))) (whole : (Int × Int)) (step : Int) (goal : Int) : M (Option Int) := f_start_of_r 20 lamps whole step goal
theorem s_start_of_r (n : Nat) : ∀ (e d : Nat) (lamps : (List (Int × Int))) (whole : (Int × Int)) (step : Int) (goal : Int), e = d + n + 3 → SF (oRun fs e) 18 [.dat ((eT (eP eI eI)) lamps), .dat ((eP eI eI) whole), .dat (eI step), .dat (eI goal)] (f_start_of_r n lamps whole step goal) (fun qq => .d ((eO eI) qq)) (fun qq => [.keep, .keep, .keep, .keep]) := by
  induction n with
  | zero => exact fun e d lamps whole step goal _ => sf_no
  | succ n ih0 =>
    intro e0 d0 lamps whole step goal he
    obtain ⟨d, hd⟩ : ∃ d, d = d0 + n := ⟨_, rfl⟩
    obtain rfl : e0 = d + 4 := by omega
    have ih := fun (lamps : (List (Int × Int))) (whole : (Int × Int)) (step : Int) (goal : Int) => ih0 (d + 3) d0 lamps whole step goal (by omega)
    exact sf_of (by rfl) rfl fun us hus => by
      obtain ⟨u0, u1, u2, u3, rfl, h0, h1, h2, h3⟩ := args4 hus
      exact ⟨fun qq => [.any, .any, .any, .any, .any, .any, .any], [.dat ((eT (eP eI eI)) lamps), .dat ((eP eI eI) whole), .dat (eI step), .dat (eI goal), .any, .any, .any], (st_dat h0 (st_dat h1 (st_dat h2 (st_dat h3 (st_any (st_any (st_any st_nil))))))), tr_start (tr_seq (by exact tr_whl (σ := Int) (fun qq => [.dat ((eT (eP eI eI)) lamps), .dat ((eP eI eI) whole), .dat (eI qq), .dat (eI goal), .any, .any, .any]) (.cons (.r _) (.cons (.r _) (.cons (.r _) (.cons (.r _) (.cons (.a _) (.cons (.a _) (.cons (.a _) .nil))))))) (fun step1 => by exact tr_cutE (τ := Bool) (v := fun qq => .d (eB qq)) (Γ1 := fun qq => [.dat ((eT (eP eI eI)) lamps), .dat ((eP eI eI) whole), .dat (eI step1), .dat (eI goal), .any, .any, .any]) (tr_andE (tr_pe (x := eB (decide (step1 < goal))) (pe_cmp (PE.v (pe_d rfl)) (PE.v (pe_d rfl)) (cmp_lt _ _)) (tr_andB (fun _ => tr_bf rfl (tl_cons (tr_comp rfl (ti_it (tr_pe (x := (eT (eP eI eI)) lamps) (pe_d rfl) (tr_itT (e := (eP eI eI)) (xs := lamps) rfl (by exact tr_mapC (ei := (eP eI eI)) (vv := fun y => .d (eB y)) (own := [4]) [.dat ((eT (eP eI eI)) lamps), .dat ((eP eI eI) whole), .dat (eI step1), .dat (eI goal), .any, .any, .any] (.cons (.r _) (.cons (.r _) (.cons (.r _) (.cons (.r _) (.cons (.a _) (.cons (.a _) (.cons (.a _) .nil))))))) rfl (fun lamp => tr_turnO (bnd_var rfl (tr_yes (tr_call (ta_var rfl rfl rfl (ta_e rfl (tr_call (ta_var rfl rfl rfl (ta_var rfl rfl rfl (ta_nil (tr_callf (s_shifted (d + 2) lamp step1) (.cons (.val _) (.cons (.val _) .nil)) rfl (fun r => ta_nil (tr_callf (s_does_tell (d + 1) whole r) (.cons (.val _) (.cons (.val _) .nil)) rfl (fun r1 => end_rt rfl (.cons (.r _) (.cons (.r _) (.cons (.r _) (.cons (.r _) (.cons (.a _) (.cons (.a _) (.cons (.a _) .nil))))))))))))))))))))) (fun ys => tl_nil (tr_o (bf_any _) (end_rt rfl (.cons (.r _) (.cons (.r _) (.cons (.r _) (.cons (.r _) (.cons (.a _) (.cons (.a _) (.cons (.a _) .nil))))))))))))))))) (end_rt rfl (.cons (.r _) (.cons (.r _) (.cons (.r _) (.cons (.r _) (.cons (.a _) (.cons (.a _) (.cons (.a _) .nil))))))))))) (fun v => end_ts (tru_b _) rfl (.cons (.r _) (.cons (.r _) (.cons (.r _) (.cons (.r _) (.cons (.a _) (.cons (.a _) (.cons (.a _) .nil))))))))) (fun step1 => tr_start (tr_aug rfl rfl (tr_pe (pe_con _) (tr_augA (x := step1) (y := 1) (fun step3 => end_go rfl (.cons (.r _) (.cons (.r _) (.cons (.r _) (.cons (.r _) (.cons (.a _) (.cons (.a _) (.cons (.a _) .nil)))))))))))) (fun step2 => tr_seq (tr_iff (tr_pe (x := eB (decide (step2 = goal))) (pe_cmp (PE.v (pe_d rfl)) (PE.v (pe_d rfl)) (cmp_eq _ _)) (tr_brn (tru_b _) (fun _ => tr_ret (tr_pe (x := eI whole.1) (pe_idxV rfl rfl (PE.v (pe_con _)) rfl) (end_fin rfl (.cons (.a _) (.cons (.a _) (.cons (.a _) (.cons (.a _) (.cons (.a _) (.cons (.a _) (.cons (.a _) .nil)))))))))) (fun _ => tr_pass (tr_seq (tr_iff (tr_call (ta_var rfl rfl rfl (ta_var rfl rfl rfl (ta_var rfl rfl rfl (ta_var rfl rfl rfl (ta_nil (tr_callf (s_is_hopeless d lamps whole step2 goal) (.cons (.val _) (.cons (.val _) (.cons (.val _) (.cons (.val _) .nil)))) rfl (fun r2 => tr_brn (tru_b _) (fun _ => tr_ret (tr_pe (pe_con _) (end_fin rfl (.cons (.a _) (.cons (.a _) (.cons (.a _) (.cons (.a _) (.cons (.a _) (.cons (.a _) (.cons (.a _) .nil)))))))))) (fun _ => tr_pass (tr_seq (tr_for (ti_it (tr_pe (x := (eT (eP eI eI)) lamps) (pe_d rfl) (tr_itT (e := (eP eI eI)) (xs := lamps) rfl (by exact tr_loop (σ := Unit) (ρ := (Option Int)) (e := (eP eI eI)) (fun qq => [.dat ((eT (eP eI eI)) lamps), .dat ((eP eI eI) whole), .dat (eI step2), .dat (eI goal), .any, .any, .any]) (fun qq => .d ((eO eI) qq)) (fun qq => [.any, .any, .any, .any, .any, .any, .any]) (.cons (.r _) (.cons (.r _) (.cons (.r _) (.cons (.r _) (.cons (.a _) (.cons (.a _) (.cons (.a _) .nil))))))) (fun _ lamp1 => tr_turn (bnd_var rfl (tr_start (tr_seq (tr_asg (tr_call (ta_var rfl rfl rfl (ta_var rfl rfl rfl (ta_nil (tr_callf (s_shifted (d + 2) lamp1 step2) (.cons (.val _) (.cons (.val _) .nil)) rfl (fun r3 => tr_putD rfl (tr_iff (tr_nt (tr_call (ta_var rfl rfl rfl (ta_var rfl rfl rfl (ta_nil (tr_callf (s_do_quarrel (d + 1) whole r3) (.cons (.val _) (.cons (.val _) .nil)) rfl (fun r4 => tr_o (congrArg (Option.map _) (tru_b _)) (tr_brn (tru_b _) (fun _ => tr_seq (tr_asg (tr_call (ta_var rfl rfl rfl (ta_e rfl (tr_call (ta_var rfl rfl rfl (ta_var rfl rfl rfl (ta_nil (tr_callf (s_put_together d whole r3) (.cons (.val _) (.cons (.val _) .nil)) rfl (fun r5 => ta_var rfl rfl rfl (ta_var rfl rfl rfl (ta_nil (tr_callf (ih lamps r5 step2 goal) (.cons (.val _) (.cons (.val _) (.cons (.val _) (.cons (.val _) .nil)))) rfl (fun r6 => tr_putD rfl (by cases r6 with | none => exact (tr_iff (tr_pe (x := .bl false) (pe_cmp (PE.v (pe_d rfl)) (PE.v (pe_con _)) rfl) (tr_brnF rfl (tr_pass (end_go rfl (.cons (.r _) (.cons (.r _) (.cons (.r _) (.cons (.r _) (.cons (.a _) (.cons (.a _) (.cons (.a _) .nil)))))))))))) | some found => exact (tr_iff (tr_pe (x := .bl true) (pe_cmp (PE.v (pe_d rfl)) (PE.v (pe_con _)) rfl) (tr_brnT rfl (tr_ret (tr_pe (x := eI found) (pe_d rfl) (end_rt rfl (.cons (.a _) (.cons (.a _) (.cons (.a _) (.cons (.a _) (.cons (.a _) (.cons (.a _) (.cons (.a _) .nil))))))))))))))))))))))))))))) (fun _ => tr_pass (end_go rfl (.cons (.r _) (.cons (.r _) (.cons (.r _) (.cons (.r _) (.cons (.a _) (.cons (.a _) (.cons (.a _) .nil))))))))))))))))))))))))))))) (fun _ => tr_ret (tr_pe (pe_con _) (end_fin rfl (.cons (.a _) (.cons (.a _) (.cons (.a _) (.cons (.a _) (.cons (.a _) (.cons (.a _) (.cons (.a _) .nil)))))))))) (fun r => end_fin rfl (.cons (.a _) (.cons (.a _) (.cons (.a _) (.cons (.a _) (.cons (.a _) (.cons (.a _) (.cons (.a _) .nil)))))))))))))))))))))))))))))))), fun r => (.flat h0 rfl (.flat h1 rfl (.flat h2 rfl (.flat h3 rfl .nil))))⟩
theorem s_start_of (d : Nat) (lamps : (List (Int × Int))) (whole : (Int × Int)) (step : Int) (goal : Int) : SF (oRun fs (d + 24)) 18 [.dat ((eT (eP eI eI)) lamps), .dat ((eP eI eI) whole), .dat (eI step), .dat (eI goal)] (f_start_of lamps whole step goal) (fun qq => .d ((eO eI) qq)) (fun qq => [.keep, .keep, .keep, .keep]) := s_start_of_r 20 _ (d + 1) lamps whole step goal (by omega)
def f_first_dark_2 (lamps : (List (Int × Int))) (number : (Option Int)) : M (Option Int) := (f_raised (2 : Int) (lamps.length : Int)).bind fun r => (M.range1 r).bind fun ns => (M.loop (fun (_ : Unit) (step : Int) => (M.opt number .no fun y => (f_is_lit lamps (y + step)).bind fun r1 => if (!r1) then .ok (.rt (some (y + step))) else .ok (.nx ()) : M (Ct Unit (Option Int)))) (() : Unit) ns).bind (M.fl (fun (_ : Unit) => .ok none) (fun r => .ok r))
theorem s_first_dark_2 (d : Nat) (lamps : (List (Int × Int))) (number : (Option Int)) : SF (oRun fs (d + 3)) 15 [.dat ((eT (eP eI eI)) lamps), .dat ((eO eI) number)] (f_first_dark_2 lamps number) (fun qq => .d ((eO eI) qq)) (fun qq => [.keep, .keep]) := sf_of (by rfl) rfl fun us hus => by
    obtain ⟨u0, u1, rfl, h0, h1⟩ := args2 hus
    exact ⟨fun qq => [.any, .any, .any], [.dat ((eT (eP eI eI)) lamps), .dat ((eO eI) number), .any], (st_dat h0 (st_dat h1 (st_any st_nil))), tr_start (tr_seq (tr_for (ti_rng1 (tr_call (ta_e rfl (tr_pe (pe_con _) (ta_e rfl (tr_pe (x := eI (lamps.length : Int)) (pe_bfV rfl rfl (bf_lenT _)) (ta_nil (tr_callf (s_raised (d + 1) (2 : Int) (lamps.length : Int)) (.cons (.val _) (.cons (.val _) .nil)) rfl (fun r => tr_range1 (fun ns => by exact tr_loop (σ := Unit) (ρ := (Option Int)) (e := eI) (fun qq => [.dat ((eT (eP eI eI)) lamps), .dat ((eO eI) number), .any]) (fun qq => .d ((eO eI) qq)) (fun qq => [.any, .any, .any]) (.cons (.r _) (.cons (.r _) (.cons (.a _) .nil))) (fun _ step => tr_turn (bnd_var rfl (tr_start (tr_iff (tr_nt (tr_call (ta_var rfl rfl rfl (ta_e rfl (tr_bin (tr_pe (x := (eO eI) number) (pe_d rfl) (tr_pe (x := eI step) (pe_d rfl) (by cases number with | none => exact Tr.no | some y => exact (tr_o rfl (ta_nil (tr_callf (s_is_lit d lamps (y + step)) (.cons (.val _) (.cons (.val _) .nil)) rfl (fun r1 => tr_o (congrArg (Option.map _) (tru_b _)) (tr_brn (tru_b _) (fun _ => tr_ret (tr_pe (x := eI (y + step)) (pe_add (pe_d rfl) (pe_d rfl)) (end_rt rfl (.cons (.a _) (.cons (.a _) (.cons (.a _) .nil)))))) (fun _ => tr_pass (end_go rfl (.cons (.r _) (.cons (.r _) (.cons (.a _) .nil)))))))))))))))))))))) (fun _ => tr_ret (tr_pe (pe_con _) (end_fin rfl (.cons (.a _) (.cons (.a _) (.cons (.a _) .nil)))))) (fun r => end_fin rfl (.cons (.a _) (.cons (.a _) (.cons (.a _) .nil)))))))))))))))), fun r => (.flat h0 rfl (.flat h1 (nl_O (fun _ => rfl) _) .nil))⟩
def f_longest_lit (lamps : (List (Int × Int))) : M (Option Int) := (f_check_lamps lamps).bind fun r => (f_first_dark lamps (0 : Int)).bind fun r1 => if r1.isNone then .ok none else (f_start_of lamps (0, 1) (0 : Int) (1 : Int)).bind fun r2 => (M.whl (fun ((found, start) : (Int × (Option Int))) => .ok start.isSome) (fun ((found, start) : (Int × (Option Int))) => (f_first_dark_2 lamps start).bind fun r3 => M.opt r3 .no fun y => M.opt start .no fun y1 => (f_start_of lamps (0, 1) (0 : Int) ((y - y1) + 1)).bind fun r4 => .ok ((y - y1), r4)) FUEL ((0, r2) : (Int × (Option Int)))).bind fun (found1, start1) => .ok (some found1)
theorem s_longest_lit (d : Nat) (lamps : (List (Int × Int))) : SF (oRun fs (d + 25)) 19 [.dat ((eT (eP eI eI)) lamps)] (f_longest_lit lamps) (fun qq => .d ((eO eI) qq)) (fun qq => [.keep]) := sf_of (by rfl) rfl fun us hus => by
    obtain ⟨u0, rfl, h0⟩ := args1 hus
    exact ⟨fun qq => [.any, .any, .any], [.dat ((eT (eP eI eI)) lamps), .any, .any], (st_dat h0 (st_any (st_any st_nil))), tr_start (tr_seq (tr_ex (tr_call (ta_var rfl rfl rfl (ta_nil (tr_callf (s_check_lamps (d + 19) lamps) (.cons (.val _) .nil) rfl (fun r => tr_seq (tr_iff (tr_cmp (tr_call (ta_var rfl rfl rfl (ta_e rfl (tr_pe (pe_con _) (ta_nil (tr_callf (s_first_dark (d + 21) lamps (0 : Int)) (.cons (.val _) (.cons (.val _) .nil)) rfl (fun r1 => tr_pe (pe_con _) (tr_o (congrArg (Option.map _) (is_O (fun _ => rfl) _)) (tr_brn (tru_b _) (fun _ => tr_ret (tr_pe (pe_con _) (end_fin rfl (.cons (.a _) (.cons (.a _) (.cons (.a _) .nil)))))) (fun _ => tr_pass (tr_seq (tr_par (tv_cons (tr_pe (pe_con _) (tv_cons (tr_call (ta_var rfl rfl rfl (ta_e rfl (tr_pe (pe_con _) (ta_e rfl (tr_pe (pe_con _) (ta_e rfl (tr_pe (pe_con _) (ta_nil (tr_callf (s_start_of d lamps (0, 1) (0 : Int) (1 : Int)) (.cons (.val _) (.cons (.val _) (.cons (.val _) (.cons (.val _) .nil)))) rfl (fun r2 => tv_nil (tr_puts rfl (tr_seq (by exact tr_whl (σ := (Int × (Option Int))) (fun qq => [.dat ((eT (eP eI eI)) lamps), .dat (eI qq.1), .dat ((eO eI) qq.2)]) (.cons (.r _) (.cons (.r _) (.cons (.r _) .nil))) (fun ⟨found, start⟩ => tr_pe (x := eB start.isSome) (pe_cmp (PE.v (pe_d rfl)) (PE.v (pe_con _)) (isnt_O (fun _ => rfl) _)) (end_ts (tru_b _) rfl (.cons (.r _) (.cons (.r _) (.cons (.r _) .nil))))) (fun ⟨found, start⟩ => tr_start (tr_seq (tr_asg (tr_bin (tr_call (ta_var rfl rfl rfl (ta_var rfl rfl (nl_O (fun _ => rfl) _) (ta_nil (tr_callf (s_first_dark_2 (d + 21) lamps start) (.cons (.val _) (.cons (.val _) .nil)) rfl (fun r3 => tr_pe (x := (eO eI) start) (pe_d rfl) (by cases r3 with | none => exact Tr.no | some y => exact (by cases start with | none => exact Tr.no | some y1 => exact (tr_o rfl (tr_putD rfl (tr_asg (tr_call (ta_var rfl rfl rfl (ta_e rfl (tr_pe (pe_con _) (ta_e rfl (tr_pe (pe_con _) (ta_e rfl (tr_pe (x := eI ((y - y1) + 1)) (pe_add (pe_d rfl) (pe_con _)) (ta_nil (tr_callf (s_start_of d lamps (0, 1) (0 : Int) ((y - y1) + 1)) (.cons (.val _) (.cons (.val _) (.cons (.val _) (.cons (.val _) .nil)))) rfl (fun r4 => tr_putD rfl (end_go rfl (.cons (.r _) (.cons (.r _) (.cons (.r _) .nil)))))))))))))))))))))))))))))) (fun ⟨found1, start1⟩ => tr_ret (tr_pe (x := eI found1) (pe_d rfl) (end_fin rfl (.cons (.a _) (.cons (.a _) (.cons (.a _) .nil)))))))))))))))))))))))))))))))))))))))))))), fun r => (.flat h0 rfl .nil)⟩
def f_do_cover (lamps : (List (Int × Int))) : M Bool := (f_first_dark lamps (0 : Int)).bind fun r => .ok r.isNone
theorem s_do_cover (d : Nat) (lamps : (List (Int × Int))) : SF (oRun fs (d + 4)) 21 [.dat ((eT (eP eI eI)) lamps)] (f_do_cover lamps) (fun qq => .d (eB qq)) (fun qq => [.keep]) := sf_of (by rfl) rfl fun us hus => by
    obtain ⟨u0, rfl, h0⟩ := args1 hus
    exact ⟨fun qq => [.any], [.dat ((eT (eP eI eI)) lamps)], (st_dat h0 st_nil), tr_start (tr_ret (tr_cmp (tr_call (ta_var rfl rfl rfl (ta_e rfl (tr_pe (pe_con _) (ta_nil (tr_callf (s_first_dark d lamps (0 : Int)) (.cons (.val _) (.cons (.val _) .nil)) rfl (fun r => tr_pe (pe_con _) (tr_o (congrArg (Option.map _) (is_O (fun _ => rfl) _)) (end_fin rfl (.cons (.a _) .nil)))))))))))), fun r => (.flat h0 rfl .nil)⟩
def f_covers (lamps : (List (Int × Int))) : M Bool := (f_check_lamps lamps).bind fun r => (f_do_cover lamps).bind fun r1 => .ok r1
theorem s_covers (d : Nat) (lamps : (List (Int × Int))) : SF (oRun fs (d + 6)) 22 [.dat ((eT (eP eI eI)) lamps)] (f_covers lamps) (fun qq => .d (eB qq)) (fun qq => [.keep]) := sf_of (by rfl) rfl fun us hus => by
    obtain ⟨u0, rfl, h0⟩ := args1 hus
    exact ⟨fun qq => [.any], [.dat ((eT (eP eI eI)) lamps)], (st_dat h0 st_nil), tr_start (tr_seq (tr_ex (tr_call (ta_var rfl rfl rfl (ta_nil (tr_callf (s_check_lamps d lamps) (.cons (.val _) .nil) rfl (fun r => tr_ret (tr_call (ta_var rfl rfl rfl (ta_nil (tr_callf (s_do_cover (d + 1) lamps) (.cons (.val _) .nil) rfl (fun r1 => end_fin rfl (.cons (.a _) .nil))))))))))))), fun r => (.flat h0 rfl .nil)⟩
def f_check_between (value : Int) (least : Int) (most : Int) : M Unit := (f_is_between value least most).bind fun r => if (!r) then M.no else .ok ()
theorem s_check_between (d : Nat) (value : Int) (least : Int) (most : Int) : SF (oRun fs (d + 3)) 2 [.dat (eI value), .dat (eI least), .dat (eI most)] (f_check_between value least most) (fun qq => .d (eN qq)) (fun qq => [.keep, .keep, .keep]) := sf_of (by rfl) rfl fun us hus => by
    obtain ⟨u0, u1, u2, rfl, h0, h1, h2⟩ := args3 hus
    exact ⟨fun qq => [.any, .any, .any], [.dat (eI value), .dat (eI least), .dat (eI most)], (st_dat h0 (st_dat h1 (st_dat h2 st_nil))), tr_start (tr_iff (tr_nt (tr_call (ta_var rfl rfl rfl (ta_var rfl rfl rfl (ta_var rfl rfl rfl (ta_nil (tr_callf (s_is_between d value least most) (.cons (.val _) (.cons (.val _) (.cons (.val _) .nil))) rfl (fun r => tr_o (congrArg (Option.map _) (tru_b _)) (tr_brn (tru_b _) (fun _ => Tr.no) (fun _ => tr_pass (end_finN rfl (.cons (.a _) (.cons (.a _) (.cons (.a _) .nil))))))))))))))), fun r => (.flat h0 rfl (.flat h1 rfl (.flat h2 rfl .nil)))⟩
def f_lit_from (lamps : (List (Int × Int))) (many : Int) : M (Option Int) := (f_check_lamps lamps).bind fun r => (f_check_between many (0 : Int) (1000000 : Int)).bind fun r1 => (f_first_dark lamps (0 : Int)).bind fun r2 => if r2.isNone then .ok (some 0) else ((f_raised (2 : Int) (lamps.length : Int)).bind fun r3 => if (decide (many < r3)) then (f_start_of lamps (0, 1) (0 : Int) many).bind fun r4 => .ok r4 else .ok none : M (Option Int)).bind fun v => .ok v
theorem s_lit_from (d : Nat) (lamps : (List (Int × Int))) (many : Int) : SF (oRun fs (d + 25)) 20 [.dat ((eT (eP eI eI)) lamps), .dat (eI many)] (f_lit_from lamps many) (fun qq => .d ((eO eI) qq)) (fun qq => [.keep, .keep]) := sf_of (by rfl) rfl fun us hus => by
    obtain ⟨u0, u1, rfl, h0, h1⟩ := args2 hus
    exact ⟨fun qq => [.any, .any], [.dat ((eT (eP eI eI)) lamps), .dat (eI many)], (st_dat h0 (st_dat h1 st_nil)), tr_start (tr_seq (tr_ex (tr_call (ta_var rfl rfl rfl (ta_nil (tr_callf (s_check_lamps (d + 19) lamps) (.cons (.val _) .nil) rfl (fun r => tr_seq (tr_ex (tr_call (ta_var rfl rfl rfl (ta_e rfl (tr_pe (pe_con _) (ta_e rfl (tr_pe (pe_con _) (ta_nil (tr_callf (s_check_between (d + 21) many (0 : Int) (1000000 : Int)) (.cons (.val _) (.cons (.val _) (.cons (.val _) .nil))) rfl (fun r1 => tr_seq (tr_iff (tr_cmp (tr_call (ta_var rfl rfl rfl (ta_e rfl (tr_pe (pe_con _) (ta_nil (tr_callf (s_first_dark (d + 21) lamps (0 : Int)) (.cons (.val _) (.cons (.val _) .nil)) rfl (fun r2 => tr_pe (pe_con _) (tr_o (congrArg (Option.map _) (is_O (fun _ => rfl) _)) (tr_brn (tru_b _) (fun _ => tr_ret (tr_pe (pe_con _) (end_fin rfl (.cons (.a _) (.cons (.a _) .nil))))) (fun _ => tr_pass (tr_ret (by exact tr_cutE (τ := (Option Int)) (v := fun qq => .d ((eO eI) qq)) (Γ1 := fun qq => [.dat ((eT (eP eI eI)) lamps), .dat (eI many)]) (tr_iteE (tr_cmp (tr_pe (x := eI many) (pe_d rfl) (tr_call (ta_e rfl (tr_pe (pe_con _) (ta_e rfl (tr_pe (x := eI (lamps.length : Int)) (pe_bfV rfl rfl (bf_lenT _)) (ta_nil (tr_callf (s_raised (d + 23) (2 : Int) (lamps.length : Int)) (.cons (.val _) (.cons (.val _) .nil)) rfl (fun r3 => tr_o (congrArg (Option.map _) (cmp_lt _ _)) (tr_brn (tru_b _) (fun _ => tr_call (ta_var rfl rfl rfl (ta_e rfl (tr_pe (pe_con _) (ta_e rfl (tr_pe (pe_con _) (ta_var rfl rfl rfl (ta_nil (tr_callf (s_start_of d lamps (0, 1) (0 : Int) many) (.cons (.val _) (.cons (.val _) (.cons (.val _) (.cons (.val _) .nil)))) rfl (fun r4 => end_rt rfl (.cons (.r _) (.cons (.r _) .nil)))))))))))) (fun _ => tr_pe (pe_con _) (end_rt rfl (.cons (.r _) (.cons (.r _) .nil)))))))))))))))) (fun v => end_fin rfl (.cons (.a _) (.cons (.a _) .nil)))))))))))))))))))))))))))))))))), fun r => (.flat h0 rfl (.flat h1 rfl .nil))⟩
def f_law_right (jar : (List Int)) : M (Bool × (List Int)) := (f_law_rows jar (5 : Int)).bind fun (r, jar1) => (f_law_longest r).bind fun r1 => (f_longest_lit r).bind fun r2 => (f_longest_lit r).bind fun r3 => (M.cat r.reverse r).bind fun zs => (f_longest_lit zs).bind fun r4 => (M.rep ([r1] : (List (Option Int))) 3).bind fun zs1 => if (!decide (([r2, r3, r4] : (List (Option Int))) = zs1)) then .ok (false, jar1) else M.opt r1 ((f_covers r).bind fun r5 => (M.repr (eB r5)).bind fun z => (M.repr (eB true)).bind fun z1 => if (!decide (z = z1)) then .ok (false, jar1) else (M.lrg 0 (30 + 1)).bind fun ns => (M.cat ns ([(30 + 1), (30 + 7), 1000000] : (List Int))).bind fun zs2 => (M.loop (fun (_ : Unit) (size : Int) => ((f_lit_from r size).bind fun r6 => (f_lit_from r size).bind fun r7 => (M.loop (fun (_ : Unit) (x : (Option Int)) => (M.opt x (.ok (.rt (false, jar1))) fun x1 => ((M.lrg 0 (imin size 50)).bind fun ns1 => .ok ns1 : M (List Int)).bind fun v => (M.optC (fun (k' : Int) => ((f_law_lit r (x1 + k')).bind fun r8 => if (decide (r8 = 0)) then .ok (some k') else .ok none : M (Option Int))) v).bind fun ys => if (!decide (ys = [])) then .ok (.rt (false, jar1)) else .ok (.nx ()) : M (Ct Unit (Bool × (List Int))))) (() : Unit) ([r6, r7] : (List (Option Int)))).bind (M.fl (fun (_ : Unit) => .ok (.nx ())) (fun r => .ok (.rt r))) : M (Ct Unit (Bool × (List Int))))) (() : Unit) zs2).bind (M.fl (fun (_ : Unit) => .ok (true, jar1)) (fun r => .ok r))) fun due => (f_covers r).bind fun r9 => (M.repr (eB r9)).bind fun z2 => (M.repr (eB false)).bind fun z3 => if (!decide (z2 = z3)) then .ok (false, jar1) else (M.lrg 0 (due + 1)).bind fun ns2 => (M.cat ns2 ([(due + 1), (due + 7), 1000000] : (List Int))).bind fun zs3 => (M.loop (fun (_ : Unit) (size1 : Int) => ((f_lit_from r size1).bind fun r10 => (f_lit_from r size1).bind fun r11 => (M.loop (fun (_ : Unit) (x2 : (Option Int)) => (M.opt x2 (if (!decide (true = (decide (due < size1)))) then .ok (.rt (false, jar1)) else (.ok [] : M (List Int)).bind fun v1 => (M.optC (fun (_ : Int) => (M.no : M (Option Int))) v1).bind fun ys1 => if (!decide (ys1 = [])) then .ok (.rt (false, jar1)) else .ok (.nx ())) fun x3 => if (!decide (false = (decide (due < size1)))) then .ok (.rt (false, jar1)) else ((M.lrg 0 (imin size1 50)).bind fun ns3 => .ok ns3 : M (List Int)).bind fun v2 => (M.optC (fun (k'1 : Int) => ((f_law_lit r (x3 + k'1)).bind fun r12 => if (decide (r12 = 0)) then .ok (some k'1) else .ok none : M (Option Int))) v2).bind fun ys2 => if (!decide (ys2 = [])) then .ok (.rt (false, jar1)) else .ok (.nx ()) : M (Ct Unit (Bool × (List Int))))) (() : Unit) ([r10, r11] : (List (Option Int)))).bind (M.fl (fun (_ : Unit) => .ok (.nx ())) (fun r => .ok (.rt r))) : M (Ct Unit (Bool × (List Int))))) (() : Unit) zs3).bind (M.fl (fun (_ : Unit) => .ok (true, jar1)) (fun r => .ok r))
theorem s_law_right (d : Nat) (jar : (List Int)) : SF (oRun fs (d + 26)) 32 [.own (jar.map eI)] (f_law_right jar) (fun qq => .d (eB qq.1)) (fun qq => [.own (qq.2.map eI)]) := sf_of (by rfl) rfl fun us hus => by
    obtain ⟨u0, rfl, h0⟩ := args1 hus
    obtain ⟨t0, rfl⟩ : ∃ t, u0 = .own t (jar.map eI) := h0
    exact ⟨fun qq => [.own t0 (qq.2.map eI), .any, .any, .any, .any, .any, .any, .any], [.own t0 (jar.map eI), .any, .any, .any, .any, .any, .any, .any], (st_own (st_any (st_any (st_any (st_any (st_any (st_any (st_any st_nil)))))))), tr_start (tr_seq (tr_asg (tr_call (ta_own rfl (ta_e rfl (tr_pe (pe_con _) (ta_nil (tr_callf (s_law_rows (d + 22) jar (5 : Int)) (.cons (.lent rfl) (.cons (.val _) .nil)) rfl (fun ⟨r, jar1⟩ => tr_putD rfl (tr_seq (tr_asg (tr_call (ta_var rfl rfl rfl (ta_nil (tr_callf (s_law_longest (d + 22) r) (.cons (.val _) .nil) rfl (fun r1 => tr_putD rfl (tr_seq (tr_iff (tr_cmp (tr_lst (tl_cons (tr_call (ta_var rfl rfl rfl (ta_nil (tr_callf (s_longest_lit d r) (.cons (.val _) .nil) rfl (fun r2 => tl_cons (tr_callk (tl_nil (tl_cons (tr_pe (x := (eT (eP eI eI)) r) (pe_d rfl) (tl_nil (tr_callkf (xs := [(eT (eP eI eI)) r]) (s_longest_lit d r) rfl (fun r3 => tl_cons (tr_call (ta_e rfl (tr_bin (tr_pe (x := (eT (eP eI eI)) r.reverse) (pe_rev (e := (eP eI eI)) (xs := r) (PE.v (pe_d rfl))) (tr_pe (x := (eT (eP eI eI)) r) (pe_d rfl) (tr_catT (e := (eP eI eI)) (xs := r.reverse) (ys := r) (fun zs => ta_nil (tr_callf (s_longest_lit d zs) (.cons (.val _) .nil) rfl (fun r4 => tl_nil (tr_fit rfl (tr_bin (tr_pf (x := ([r1] : (List (Option Int))).map (eO eI)) ((pf_lst (.cons (PE.v (pe_d rfl)) .nil) rfl)) (tr_pe (pe_con _) (tr_rep (e := (eO eI)) (xs := ([r1] : (List (Option Int)))) (fun zs1 => tr_o (congrArg (Option.map _) ((eqp_L (eqp_O eqp_I nn_I)).cmpNe rfl ([r2, r3, r4] : (List (Option Int))) zs1)) (tr_brn (tru_b _) (fun _ => tr_ret (tr_pe (x := .bl false) (pe_con _) (end_fin rfl (.cons (.r _) (.cons (.a _) (.cons (.a _) (.cons (.a _) (.cons (.a _) (.cons (.a _) (.cons (.a _) (.cons (.a _) .nil))))))))))) (fun _ => tr_pass (tr_seq (by cases r1 with | none => exact (tr_iff (tr_cmp (tr_bf rfl (tl_cons (tr_call (ta_var rfl rfl rfl (ta_nil (tr_callf (s_covers (d + 19) r) (.cons (.val _) .nil) rfl (fun r5 => tl_nil (tr_repr (fun z => tr_bf rfl (tl_cons (tr_pe (x := .bl true) (pe_cmp (PE.v (pe_d rfl)) (PE.v (pe_con _)) rfl) (tl_nil (tr_repr (fun z1 => tr_o rfl (tr_brn (tru_b _) (fun _ => tr_ret (tr_pe (x := .bl false) (pe_con _) (end_fin rfl (.cons (.r _) (.cons (.a _) (.cons (.a _) (.cons (.a _) (.cons (.a _) (.cons (.a _) (.cons (.a _) (.cons (.a _) .nil))))))))))) (fun _ => tr_pass (tr_seq (tr_asg (tr_pe (x := eI (30 : Int)) (pe_ite (p := true) (x := eI (30 : Int)) (y := eN ()) (PE.v (pe_cmp (PE.v (pe_d rfl)) (PE.v (pe_con _)) rfl)) rfl (fun _ => (pe_con _)) (fun _ => (pe_d rfl)) rfl) (tr_putD rfl (tr_seq (tr_for (ti_it (tr_bin (tr_lrg (tl_cons (tr_pe (x := eI (30 + 1)) (pe_add (pe_d rfl) (pe_con _)) (tl_nil (tr_lrgV (fun ns => tr_pf (x := ([(30 + 1), (30 + 7), 1000000] : (List Int)).map eI) ((pf_lst (.cons (PE.v (pe_add (pe_d rfl) (pe_con _))) (.cons (PE.v (pe_add (pe_d rfl) (pe_con _))) (.cons (PE.v (pe_bin (z := .int 1000000) (PE.v (pe_con _)) (PE.v (pe_con _)) (by kernel_rfl))) .nil))) rfl)) (tr_catL (e := eI) (xs := ns) (ys := ([(30 + 1), (30 + 7), 1000000] : (List Int))) (fun zs2 => tr_itL (e := eI) (xs := zs2) rfl (by exact tr_loop (σ := Unit) (ρ := (Bool × (List Int))) (e := eI) (fun qq => [.own t0 (jar1.map eI), .dat ((eT (eP eI eI)) r), .dat (eN ()), .any, .any, .any, .any, .any]) (fun qq => .d (eB qq.1)) (fun qq => [.own t0 (qq.2.map eI), .any, .any, .any, .any, .any, .any, .any]) (.cons (.r _) (.cons (.r _) (.cons (.r _) (.cons (.a _) (.cons (.a _) (.cons (.a _) (.cons (.a _) (.cons (.a _) .nil)))))))) (fun _ size => tr_turn (bnd_var rfl (tr_start (tr_for (ti_it (tr_lst (tl_cons (tr_call (ta_var rfl rfl rfl (ta_var rfl rfl rfl (ta_nil (tr_callf (s_lit_from d r size) (.cons (.val _) (.cons (.val _) .nil)) rfl (fun r6 => tl_cons (tr_callk (tl_nil (tl_cons (tr_pe (x := eI size) (pe_d rfl) (tl_cons (tr_pe (x := (eT (eP eI eI)) r) (pe_d rfl) (tl_nil (tr_callkf (xs := [(eT (eP eI eI)) r, eI size]) (s_lit_from d r size) rfl (fun r7 => tl_nil (tr_fit rfl (tr_itL (e := (eO eI)) (xs := ([r6, r7] : (List (Option Int)))) rfl (by exact tr_loop (σ := Unit) (ρ := (Bool × (List Int))) (e := (eO eI)) (fun qq => [.own t0 (jar1.map eI), .dat ((eT (eP eI eI)) r), .dat (eN ()), .any, .dat (eI size), .any, .any, .any]) (fun qq => .d (eB qq.1)) (fun qq => [.own t0 (qq.2.map eI), .any, .any, .any, .any, .any, .any, .any]) (.cons (.r _) (.cons (.r _) (.cons (.r _) (.cons (.a _) (.cons (.r _) (.cons (.a _) (.cons (.a _) (.cons (.a _) .nil)))))))) (fun _ x => tr_turn (bnd_var rfl (tr_start (tr_seq (by cases x with | none => exact (tr_iff (tr_pe (x := .bl true) (pe_cmp (PE.v (pe_cmp (PE.v (pe_d rfl)) (PE.v (pe_con _)) rfl)) (PE.v (pe_and (x := false) (y := false) (pe_cmp (PE.v (pe_d rfl)) (PE.v (pe_con _)) rfl) (fun z => by cases z))) rfl) (tr_brnT rfl (tr_ret (tr_pe (x := .bl false) (pe_con _) (end_rt rfl (.cons (.r _) (.cons (.a _) (.cons (.a _) (.cons (.a _) (.cons (.a _) (.cons (.a _) (.cons (.a _) (.cons (.a _) .nil)))))))))))))) | some x1 => exact (tr_iff (tr_pe (x := .bl false) (pe_cmp (PE.v (pe_cmp (PE.v (pe_d rfl)) (PE.v (pe_con _)) rfl)) (PE.v (pe_and (x := false) (y := false) (pe_cmp (PE.v (pe_d rfl)) (PE.v (pe_con _)) rfl) (fun z => by cases z))) rfl) (tr_brnF rfl (tr_pass (tr_seq (tr_asg (by exact tr_cutE (τ := (List Int)) (v := fun qq => .own false (qq.map eI)) (Γ1 := fun qq => [.own t0 (jar1.map eI), .dat ((eT (eP eI eI)) r), .dat (eN ()), .any, .dat (eI size), .dat (eI x1), .any, .any]) (tr_iteE (tr_pe (x := .bl true) (pe_cmp (PE.v (pe_d rfl)) (PE.v (pe_con _)) rfl) (tr_brnT rfl (tr_lrg (tl_cons (tr_pe (x := eI (imin size 50)) (pe_bfA rfl (.cons (PE.v (pe_d rfl)) (.cons (PE.v (pe_con _)) .nil)) (bf_min2 _ _)) (tl_nil (tr_lrgV (fun ns1 => end_rt rfl (.cons (.r _) (.cons (.r _) (.cons (.r _) (.cons (.a _) (.cons (.r _) (.cons (.r _) (.cons (.a _) (.cons (.a _) .nil))))))))))))))))) (fun v => tr_putL rfl (tr_iff (tr_cmp (tr_comp rfl (ti_it (tr_pe (x := (eL eI) v) (pe_d rfl) (tr_itL (e := eI) (xs := v) rfl (by exact tr_optC (ei := eI) (vv := fun y => .d (eI y)) (own := [7]) [.own t0 (jar1.map eI), .dat ((eT (eP eI eI)) r), .dat (eN ()), .any, .dat (eI size), .dat (eI x1), .dat ((eL eI) v), .any] (.cons (.r _) (.cons (.r _) (.cons (.r _) (.cons (.a _) (.cons (.r _) (.cons (.r _) (.cons (.r _) (.cons (.a _) .nil)))))))) rfl (fun k' => tr_turnO (bnd_var rfl (tr_cmp (tr_call (ta_var rfl rfl rfl (ta_e rfl (tr_pe (x := eI (x1 + k')) (pe_add (pe_d rfl) (pe_d rfl)) (ta_nil (tr_callf (s_law_lit (d + 24) r (x1 + k')) (.cons (.val _) (.cons (.val _) .nil)) rfl (fun r8 => tr_pe (pe_con _) (tr_o (congrArg (Option.map _) (cmp_eq _ _)) (tr_brn (tru_b _) (fun _ => tr_pe (x := eI k') (pe_d rfl) (end_rt rfl (.cons (.r _) (.cons (.r _) (.cons (.r _) (.cons (.a _) (.cons (.r _) (.cons (.r _) (.cons (.r _) (.cons (.a _) .nil)))))))))) (fun _ => end_ct rfl (.cons (.r _) (.cons (.r _) (.cons (.r _) (.cons (.a _) (.cons (.r _) (.cons (.r _) (.cons (.r _) (.cons (.a _) .nil))))))))))))))))))))) (fun ys => tr_pf (x := ([] : (List Int)).map eI) ((pf_lst .nil rfl)) (tr_o (congrArg (Option.map _) ((eqp_L eqp_I).cmpNe rfl ys ([] : (List Int)))) (tr_brn (tru_b _) (fun _ => tr_ret (tr_pe (x := .bl false) (pe_con _) (end_rt rfl (.cons (.r _) (.cons (.a _) (.cons (.a _) (.cons (.a _) (.cons (.a _) (.cons (.a _) (.cons (.a _) (.cons (.a _) .nil))))))))))) (fun _ => tr_pass (end_go rfl (.cons (.r _) (.cons (.r _) (.cons (.r _) (.cons (.a _) (.cons (.r _) (.cons (.a _) (.cons (.a _) (.cons (.a _) .nil))))))))))))))))))))))))))))))))) (fun _ => end_go rfl (.cons (.r _) (.cons (.r _) (.cons (.r _) (.cons (.a _) (.cons (.a _) (.cons (.a _) (.cons (.a _) (.cons (.a _) .nil))))))))) (fun r => end_rt rfl (.cons (.r _) (.cons (.a _) (.cons (.a _) (.cons (.a _) (.cons (.a _) (.cons (.a _) (.cons (.a _) (.cons (.a _) .nil)))))))))))))))))))))))))))))))))) (fun _ => tr_ret (tr_pe (x := .bl true) (pe_con _) (end_fin rfl (.cons (.r _) (.cons (.a _) (.cons (.a _) (.cons (.a _) (.cons (.a _) (.cons (.a _) (.cons (.a _) (.cons (.a _) .nil))))))))))) (fun r => end_fin rfl (.cons (.r _) (.cons (.a _) (.cons (.a _) (.cons (.a _) (.cons (.a _) (.cons (.a _) (.cons (.a _) (.cons (.a _) .nil)))))))))))))))))))))))))))))))))))))))))))) | some due => exact (tr_iff (tr_cmp (tr_bf rfl (tl_cons (tr_call (ta_var rfl rfl rfl (ta_nil (tr_callf (s_covers (d + 19) r) (.cons (.val _) .nil) rfl (fun r9 => tl_nil (tr_repr (fun z2 => tr_bf rfl (tl_cons (tr_pe (x := .bl false) (pe_cmp (PE.v (pe_d rfl)) (PE.v (pe_con _)) rfl) (tl_nil (tr_repr (fun z3 => tr_o rfl (tr_brn (tru_b _) (fun _ => tr_ret (tr_pe (x := .bl false) (pe_con _) (end_fin rfl (.cons (.r _) (.cons (.a _) (.cons (.a _) (.cons (.a _) (.cons (.a _) (.cons (.a _) (.cons (.a _) (.cons (.a _) .nil))))))))))) (fun _ => tr_pass (tr_seq (tr_asg (tr_pe (x := eI due) (pe_ite (p := false) (x := eI (30 : Int)) (y := eI due) (PE.v (pe_cmp (PE.v (pe_d rfl)) (PE.v (pe_con _)) rfl)) rfl (fun _ => (pe_con _)) (fun _ => (pe_d rfl)) rfl) (tr_putD rfl (tr_seq (tr_for (ti_it (tr_bin (tr_lrg (tl_cons (tr_pe (x := eI (due + 1)) (pe_add (pe_d rfl) (pe_con _)) (tl_nil (tr_lrgV (fun ns2 => tr_pf (x := ([(due + 1), (due + 7), 1000000] : (List Int)).map eI) ((pf_lst (.cons (PE.v (pe_add (pe_d rfl) (pe_con _))) (.cons (PE.v (pe_add (pe_d rfl) (pe_con _))) (.cons (PE.v (pe_bin (z := .int 1000000) (PE.v (pe_con _)) (PE.v (pe_con _)) (by kernel_rfl))) .nil))) rfl)) (tr_catL (e := eI) (xs := ns2) (ys := ([(due + 1), (due + 7), 1000000] : (List Int))) (fun zs3 => tr_itL (e := eI) (xs := zs3) rfl (by exact tr_loop (σ := Unit) (ρ := (Bool × (List Int))) (e := eI) (fun qq => [.own t0 (jar1.map eI), .dat ((eT (eP eI eI)) r), .dat (eI due), .any, .any, .any, .any, .any]) (fun qq => .d (eB qq.1)) (fun qq => [.own t0 (qq.2.map eI), .any, .any, .any, .any, .any, .any, .any]) (.cons (.r _) (.cons (.r _) (.cons (.r _) (.cons (.a _) (.cons (.a _) (.cons (.a _) (.cons (.a _) (.cons (.a _) .nil)))))))) (fun _ size1 => tr_turn (bnd_var rfl (tr_start (tr_for (ti_it (tr_lst (tl_cons (tr_call (ta_var rfl rfl rfl (ta_var rfl rfl rfl (ta_nil (tr_callf (s_lit_from d r size1) (.cons (.val _) (.cons (.val _) .nil)) rfl (fun r10 => tl_cons (tr_callk (tl_nil (tl_cons (tr_pe (x := eI size1) (pe_d rfl) (tl_cons (tr_pe (x := (eT (eP eI eI)) r) (pe_d rfl) (tl_nil (tr_callkf (xs := [(eT (eP eI eI)) r, eI size1]) (s_lit_from d r size1) rfl (fun r11 => tl_nil (tr_fit rfl (tr_itL (e := (eO eI)) (xs := ([r10, r11] : (List (Option Int)))) rfl (by exact tr_loop (σ := Unit) (ρ := (Bool × (List Int))) (e := (eO eI)) (fun qq => [.own t0 (jar1.map eI), .dat ((eT (eP eI eI)) r), .dat (eI due), .any, .dat (eI size1), .any, .any, .any]) (fun qq => .d (eB qq.1)) (fun qq => [.own t0 (qq.2.map eI), .any, .any, .any, .any, .any, .any, .any]) (.cons (.r _) (.cons (.r _) (.cons (.r _) (.cons (.a _) (.cons (.r _) (.cons (.a _) (.cons (.a _) (.cons (.a _) .nil)))))))) (fun _ x2 => tr_turn (bnd_var rfl (tr_start (tr_seq (by cases x2 with | none => exact (tr_iff (tr_pe (x := eB (!decide (true = (decide (due < size1))))) (pe_cmp (PE.v (pe_cmp (PE.v (pe_d rfl)) (PE.v (pe_con _)) rfl)) (PE.v (pe_and (x := true) (y := (decide (due < size1))) (pe_cmp (PE.v (pe_d rfl)) (PE.v (pe_con _)) rfl) (fun _ => (pe_cmp (PE.v (pe_d rfl)) (PE.v (pe_d rfl)) (cmp_gt _ _))))) (eqp_B.cmpNe rfl true (decide (due < size1)))) (tr_brn (tru_b _) (fun _ => tr_ret (tr_pe (x := .bl false) (pe_con _) (end_rt rfl (.cons (.r _) (.cons (.a _) (.cons (.a _) (.cons (.a _) (.cons (.a _) (.cons (.a _) (.cons (.a _) (.cons (.a _) .nil))))))))))) (fun _ => tr_pass (tr_seq (tr_asg (by exact tr_cutE (τ := (List Int)) (v := fun qq => .own false (qq.map eI)) (Γ1 := fun qq => [.own t0 (jar1.map eI), .dat ((eT (eP eI eI)) r), .dat (eI due), .any, .dat (eI size1), .dat (eN ()), .any, .any]) (tr_iteE (tr_pe (x := .bl false) (pe_cmp (PE.v (pe_d rfl)) (PE.v (pe_con _)) rfl) (tr_brnF rfl (tr_pf (x := ([] : (List Int)).map eI) ((pf_lst .nil rfl)) (end_rt rfl (.cons (.r _) (.cons (.r _) (.cons (.r _) (.cons (.a _) (.cons (.r _) (.cons (.r _) (.cons (.a _) (.cons (.a _) .nil))))))))))))) (fun v1 => tr_putL rfl (tr_iff (tr_cmp (tr_comp rfl (ti_it (tr_pe (x := (eL eI) v1) (pe_d rfl) (tr_itL (e := eI) (xs := v1) rfl (by exact tr_optC (ei := eI) (vv := fun y => .d (eI y)) (own := [7]) [.own t0 (jar1.map eI), .dat ((eT (eP eI eI)) r), .dat (eI due), .any, .dat (eI size1), .dat (eN ()), .dat ((eL eI) v1), .any] (.cons (.r _) (.cons (.r _) (.cons (.r _) (.cons (.a _) (.cons (.r _) (.cons (.r _) (.cons (.r _) (.cons (.a _) .nil)))))))) rfl (fun _ => Tr.no) (fun ys1 => tr_pf (x := ([] : (List Int)).map eI) ((pf_lst .nil rfl)) (tr_o (congrArg (Option.map _) ((eqp_L eqp_I).cmpNe rfl ys1 ([] : (List Int)))) (tr_brn (tru_b _) (fun _ => tr_ret (tr_pe (x := .bl false) (pe_con _) (end_rt rfl (.cons (.r _) (.cons (.a _) (.cons (.a _) (.cons (.a _) (.cons (.a _) (.cons (.a _) (.cons (.a _) (.cons (.a _) .nil))))))))))) (fun _ => tr_pass (end_go rfl (.cons (.r _) (.cons (.r _) (.cons (.r _) (.cons (.a _) (.cons (.r _) (.cons (.a _) (.cons (.a _) (.cons (.a _) .nil)))))))))))))))))))))))))))) | some x3 => exact (tr_iff (tr_pe (x := eB (!decide (false = (decide (due < size1))))) (pe_cmp (PE.v (pe_cmp (PE.v (pe_d rfl)) (PE.v (pe_con _)) rfl)) (PE.v (pe_and (x := true) (y := (decide (due < size1))) (pe_cmp (PE.v (pe_d rfl)) (PE.v (pe_con _)) rfl) (fun _ => (pe_cmp (PE.v (pe_d rfl)) (PE.v (pe_d rfl)) (cmp_gt _ _))))) (eqp_B.cmpNe rfl false (decide (due < size1)))) (tr_brn (tru_b _) (fun _ => tr_ret (tr_pe (x := .bl false) (pe_con _) (end_rt rfl (.cons (.r _) (.cons (.a _) (.cons (.a _) (.cons (.a _) (.cons (.a _) (.cons (.a _) (.cons (.a _) (.cons (.a _) .nil))))))))))) (fun _ => tr_pass (tr_seq (tr_asg (by exact tr_cutE (τ := (List Int)) (v := fun qq => .own false (qq.map eI)) (Γ1 := fun qq => [.own t0 (jar1.map eI), .dat ((eT (eP eI eI)) r), .dat (eI due), .any, .dat (eI size1), .dat (eI x3), .any, .any]) (tr_iteE (tr_pe (x := .bl true) (pe_cmp (PE.v (pe_d rfl)) (PE.v (pe_con _)) rfl) (tr_brnT rfl (tr_lrg (tl_cons (tr_pe (x := eI (imin size1 50)) (pe_bfA rfl (.cons (PE.v (pe_d rfl)) (.cons (PE.v (pe_con _)) .nil)) (bf_min2 _ _)) (tl_nil (tr_lrgV (fun ns3 => end_rt rfl (.cons (.r _) (.cons (.r _) (.cons (.r _) (.cons (.a _) (.cons (.r _) (.cons (.r _) (.cons (.a _) (.cons (.a _) .nil))))))))))))))))) (fun v2 => tr_putL rfl (tr_iff (tr_cmp (tr_comp rfl (ti_it (tr_pe (x := (eL eI) v2) (pe_d rfl) (tr_itL (e := eI) (xs := v2) rfl (by exact tr_optC (ei := eI) (vv := fun y => .d (eI y)) (own := [7]) [.own t0 (jar1.map eI), .dat ((eT (eP eI eI)) r), .dat (eI due), .any, .dat (eI size1), .dat (eI x3), .dat ((eL eI) v2), .any] (.cons (.r _) (.cons (.r _) (.cons (.r _) (.cons (.a _) (.cons (.r _) (.cons (.r _) (.cons (.r _) (.cons (.a _) .nil)))))))) rfl (fun k'1 => tr_turnO (bnd_var rfl (tr_cmp (tr_call (ta_var rfl rfl rfl (ta_e rfl (tr_pe (x := eI (x3 + k'1)) (pe_add (pe_d rfl) (pe_d rfl)) (ta_nil (tr_callf (s_law_lit (d + 24) r (x3 + k'1)) (.cons (.val _) (.cons (.val _) .nil)) rfl (fun r12 => tr_pe (pe_con _) (tr_o (congrArg (Option.map _) (cmp_eq _ _)) (tr_brn (tru_b _) (fun _ => tr_pe (x := eI k'1) (pe_d rfl) (end_rt rfl (.cons (.r _) (.cons (.r _) (.cons (.r _) (.cons (.a _) (.cons (.r _) (.cons (.r _) (.cons (.r _) (.cons (.a _) .nil)))))))))) (fun _ => end_ct rfl (.cons (.r _) (.cons (.r _) (.cons (.r _) (.cons (.a _) (.cons (.r _) (.cons (.r _) (.cons (.r _) (.cons (.a _) .nil))))))))))))))))))))) (fun ys2 => tr_pf (x := ([] : (List Int)).map eI) ((pf_lst .nil rfl)) (tr_o (congrArg (Option.map _) ((eqp_L eqp_I).cmpNe rfl ys2 ([] : (List Int)))) (tr_brn (tru_b _) (fun _ => tr_ret (tr_pe (x := .bl false) (pe_con _) (end_rt rfl (.cons (.r _) (.cons (.a _) (.cons (.a _) (.cons (.a _) (.cons (.a _) (.cons (.a _) (.cons (.a _) (.cons (.a _) .nil))))))))))) (fun _ => tr_pass (end_go rfl (.cons (.r _) (.cons (.r _) (.cons (.r _) (.cons (.a _) (.cons (.r _) (.cons (.a _) (.cons (.a _) (.cons (.a _) .nil))))))))))))))))))))))))))))))))) (fun _ => end_go rfl (.cons (.r _) (.cons (.r _) (.cons (.r _) (.cons (.a _) (.cons (.a _) (.cons (.a _) (.cons (.a _) (.cons (.a _) .nil))))))))) (fun r => end_rt rfl (.cons (.r _) (.cons (.a _) (.cons (.a _) (.cons (.a _) (.cons (.a _) (.cons (.a _) (.cons (.a _) (.cons (.a _) .nil)))))))))))))))))))))))))))))))))) (fun _ => tr_ret (tr_pe (x := .bl true) (pe_con _) (end_fin rfl (.cons (.r _) (.cons (.a _) (.cons (.a _) (.cons (.a _) (.cons (.a _) (.cons (.a _) (.cons (.a _) (.cons (.a _) .nil))))))))))) (fun r => end_fin rfl (.cons (.r _) (.cons (.a _) (.cons (.a _) (.cons (.a _) (.cons (.a _) (.cons (.a _) (.cons (.a _) (.cons (.a _) .nil)))))))))))))))))))))))))))))))))))))))))))))))))))))))))))))))))))))))))))))))))))))))))))))))), fun r => (.own .nil)⟩
def f_law (cells : (List Int)) : M Bool := (M.range1 (imax 2 (imin (cells.length : Int) 3))).bind fun ns => (M.mapC (fun (k' : Int) => ((f_law_jar cells k').bind fun r => (f_law_right r).bind fun (r1, left) => .ok r1 : M Bool)) ns).bind fun ys => .ok (ys.all id)
theorem s_law (d : Nat) (cells : (List Int)) : SF (oRun fs (d + 27)) 33 [.dat ((eL eI) cells)] (f_law cells) (fun qq => .d (eB qq)) (fun qq => [.keep]) := sf_of (by rfl) rfl fun us hus => by
    obtain ⟨u0, rfl, h0⟩ := args1 hus
    exact ⟨fun qq => [.prm u0, .any], [.prm u0, .any], (st_prm (st_any st_nil)), tr_start (tr_ret (tr_bf rfl (tl_cons (tr_comp rfl (ti_rng1 (tr_pe (x := eI (imax 2 (imin (cells.length : Int) 3))) (pe_bfA rfl (.cons (PE.v (pe_con _)) (.cons (PE.v (pe_bfA rfl (.cons (PE.v (pe_bfV rfl h0 (bf_len _))) (.cons (PE.v (pe_con _)) .nil)) (bf_min2 _ _))) .nil)) (bf_max2 _ _)) (tr_range1 (fun ns => by exact tr_mapC (ei := eI) (vv := fun y => .d (eB y)) (own := [1]) [.prm u0, .any] (.cons (.r _) (.cons (.a _) .nil)) rfl (fun k' => tr_turnO (bnd_var rfl (tr_yes (tr_call (ta_e rfl (tr_call (ta_varL rfl h0 (fun a0_ag ha0_ag => ta_var rfl rfl rfl (ta_nil (tr_callf (s_law_jar (d + 24) cells k') (.cons (.list ha0_ag rfl h0 rfl) (.cons (.val _) .nil)) rfl (fun r => ta_nil (tr_callf (s_law_right d r) (.cons (.new _ _) .nil) rfl (fun ⟨r1, left⟩ => end_rt rfl (.cons (.r _) (.cons (.a _) .nil))))))))))))))) (fun ys => tl_nil (tr_o (bf_all _) (end_fin rfl (.cons (.r _) (.cons (.a _) .nil))))))))))))), fun r => (.keep .nil)⟩
end G22

set_option Elab.async false
set_option linter.all false
set_option maxRecDepth 100000
set_option maxHeartbeats 4000000
namespace K22
open MK MI LB LJ LC
theorem e_law_cell : G22.f_law_cell = LJ.f_law_cell := rfl
theorem e_law_jar : G22.f_law_jar = LJ.f_law_jar := rfl
theorem e_law_dig : G22.f_law_dig = LJ.f_law_dig := rfl
theorem e_law_take : G22.f_law_take = LJ.f_law_take := rfl
theorem e_law_take_2 : G22.f_law_take_2 = LJ.f_law_take_2 := rfl
theorem e_law_rows : G22.f_law_rows = LJ.f_law_rows := rfl
theorem e_law_common : G22.f_law_common = LJ.f_law_common := rfl
theorem e_law_whole : G22.f_law_whole = LJ.f_law_whole := rfl
theorem e_law_lit : G22.f_law_lit = LJ.f_law_lit := rfl
theorem e_is_integer : G22.f_is_integer = LB.f_is_integer := rfl
theorem e_is_between : G22.f_is_between = LB.f_is_between := rfl
theorem e_is_fact : G22.f_is_fact = LB.f_is_fact := rfl
theorem e_facts_fault : G22.f_facts_fault = LB.f_facts_fault := rfl
theorem e_check_lamps : G22.f_check_lamps = LB.f_check_lamps := rfl
theorem e_raised : G22.f_raised = LC.f_raised := rfl
theorem e_does_fit : G22.f_does_fit = LB.f_does_fit := rfl
theorem e_is_lit : G22.f_is_lit = LC.f_is_lit := rfl
theorem e_first_dark : G22.f_first_dark = LC.f_first_dark := rfl
theorem e_shifted : G22.f_shifted = LC.f_shifted := rfl
theorem e_does_tell : G22.f_does_tell = LC.f_does_tell := rfl
theorem e_is_lit_2 : G22.f_is_lit_2 = LC.f_is_lit := rfl
theorem e_common_of : G22.f_common_of = LB.f_common_of := rfl
theorem e_do_quarrel : G22.f_do_quarrel = LB.f_do_quarrel := rfl
theorem e_combined_of : G22.f_combined_of = LB.f_combined_of := rfl
theorem e_back_of : G22.f_back_of = LB.f_back_of := rfl
theorem e_put_together : G22.f_put_together = LB.f_put_together := rfl
theorem e_start_of_r : G22.f_start_of_r = LC.f_start_of_r := by kernel_rfl
theorem e_start_of : G22.f_start_of = LC.f_start_of := rfl
theorem e_first_dark_2 : G22.f_first_dark_2 = LC.f_first_dark_2 := rfl
theorem e_longest_lit : G22.f_longest_lit = LC.f_longest_lit := rfl
theorem e_do_cover : G22.f_do_cover = LC.f_do_cover := rfl
theorem e_covers : G22.f_covers = LC.f_covers := rfl
theorem e_check_between : G22.f_check_between = LB.f_check_between := rfl
theorem e_lit_from : G22.f_lit_from = LC.f_lit_from := rfl

theorem e_law_rows' (j : List Int) (t : Int) : G22.f_law_rows j t = LJ.f_law_rows j t := rfl
theorem lrg {i j : Int} (h : -4611686018427387904 ≤ i) (h2 : i < 4611686018427387904) (h3 : -4611686018427387904 ≤ j) (h4 : j < 4611686018427387904) (h5 : j - i ≤ 16777216) : M.lrg i j = .ok (rngL i (j - i).toNat) := by
  have := Sat.range h h2 h3 h4
  unfold M.range at this
  unfold M.lrg
  by_cases q : (in62 i && in62 j) = true
  · rw [q, Sat.fits (by omega)]
    rfl
  · rw [if_neg q] at this
    cases this
/-- the longest run, ending here or before -/
structure Run (r : List (Int × Int)) (m : Int) (s : Int × Int) : Prop where
  h0 : 0 ≤ s.2
  hb : s.2 ≤ s.1
  hm : s.1 ≤ m
  at' : All r (m - s.2) 0 s.2
  nx : s.2 = m ∨ ¬ Lit r (m - s.2 - 1)
  be : ∃ x, 0 ≤ x ∧ x + s.1 ≤ m ∧ All r x 0 s.1
  mx : ∀ x n, 0 ≤ x → x + n ≤ m → All r x 0 n → n ≤ s.1
theorem run_lit {r : List (Int × Int)} {m : Int} {s : Int × Int} (h : Run r m s) (hl : Lit r m) : Run r (m + 1) (imax s.1 (s.2 + 1), s.2 + 1) := by
  obtain ⟨b, k⟩ := s
  obtain ⟨h0, hb, hm, at', nx, ⟨x, x0, x1, x2⟩, mx⟩ := h
  dsimp only at *
  have ei : imax b (k + 1) = if k + 1 ≤ b then b else k + 1 := by
    unfold imax
    split <;> split <;> omega
  have a2 : All r (m + 1 - (k + 1)) 0 (k + 1) := fun j j0 j1 => by
    rw [show m + 1 - (k + 1) + j = m - k + j by omega]
    by_cases q : j = k
    · rw [q, show m - k + k = m by omega]; exact hl
    · exact at' j j0 (by omega)
  refine ⟨by dsimp only; omega, by dsimp only; rw [ei]; split <;> omega, by dsimp only; rw [ei]; split <;> omega, a2, ?_, ?_, ?_⟩
  · dsimp only
    rcases nx with q | q
    · exact .inl (by omega)
    · right
      rwa [show m + 1 - (k + 1) - 1 = m - k - 1 by omega]
  · dsimp only
    rw [ei]
    split
    · exact ⟨x, x0, by omega, x2⟩
    · exact ⟨m + 1 - (k + 1), by omega, by omega, a2⟩
  · dsimp only
    intro y n y0 y1 y2
    rw [ei]
    by_cases q : y + n ≤ m
    · have := mx y n y0 q y2
      split <;> omega
    · have e : y + n = m + 1 := by omega
      have : n ≤ k + 1 := by
        apply Classical.byContradiction
        intro z
        rcases nx with w | w
        · omega
        · have := y2 (m - k - 1 - y) (by omega) (by omega)
          rw [show y + (m - k - 1 - y) = m - k - 1 by omega] at this
          exact w this
      split <;> omega
theorem run_dark {r : List (Int × Int)} {m : Int} {s : Int × Int} (h : Run r m s) (hl : ¬ Lit r m) : Run r (m + 1) (imax s.1 0, 0) := by
  obtain ⟨b, k⟩ := s
  obtain ⟨h0, hb, hm, at', nx, ⟨x, x0, x1, x2⟩, mx⟩ := h
  dsimp only at *
  have ei : imax b 0 = b := by
    unfold imax
    split <;> omega
  rw [ei]
  refine ⟨Int.le_refl _, by dsimp only; omega, by dsimp only; omega, fun j a c => by dsimp only at c; omega, .inr ?_, ⟨x, x0, by dsimp only; omega, x2⟩, fun y n y0 y1 y2 => ?_⟩
  · dsimp only
    rwa [show m + 1 - 0 - 1 = m by omega]
  · dsimp only
    by_cases q : y + n ≤ m
    · exact mx y n y0 q y2
    · by_cases z : n ≤ 0
      · omega
      · exfalso
        have := y2 (m - y) (by omega) (by omega)
        rw [show y + (m - y) = m by omega] at this
        exact hl this
theorem lit_per {r : List (Int × Int)} {x y : Int} (h : (lcmb r : Int) ∣ y - x) : Lit r y ↔ Lit r x := by
  constructor
  · rintro ⟨f, hf, q⟩
    refine ⟨f, hf, ?_⟩
    have := Int.dvd_sub (show f.2 ∣ y - f.1 from q) (Int.dvd_trans (dvd_lcmb hf) h)
    rwa [show y - f.1 - (y - x) = x - f.1 by omega] at this
  · rintro ⟨f, hf, q⟩
    refine ⟨f, hf, ?_⟩
    have := Int.dvd_add (show f.2 ∣ x - f.1 from q) (Int.dvd_trans (dvd_lcmb hf) h)
    rwa [show x - f.1 + (y - x) = y - f.1 by omega] at this
theorem law_longest {r : List (Int × Int)} (h : Rows 5 r) : Sat (G22.f_law_longest r) (Lg r) := by
  have hb := h.fb
  have hl := h.len
  have hw := h.w
  obtain ⟨w0, _⟩ := lcmb_lt hb (by omega)
  unfold G22.f_law_longest
  rw [e_law_whole, whole hb (by omega), M.ok_bind, Sat.range1 (by omega) (by omega), M.ok_bind]
  refine Sat.bind (Sat.fold (I := fun d _ s => Run r d.length s) (done := []) ?_ fun d x rr s e hs => ?_) fun s hs => ?_
  · exact ⟨Int.le_refl _, Int.le_refl _, by simp, fun k a b => by dsimp only at b; omega, .inl (by simp), ⟨0, Int.le_refl _, by simp, fun k a b => by dsimp only at b; omega⟩, fun x n a b _ => by simp at b; dsimp only; omega⟩
  · rw [List.nil_append] at e
    obtain ⟨rfl, hk⟩ := rng_at e
    obtain ⟨b, k⟩ := s
    have e0 : (0 : Int) + (d.length : Int) = d.length := by omega
    dsimp only
    rw [e0, e_law_lit, law_lit hb (by omega), M.ok_bind, List.length_append, List.length_singleton]
    by_cases q : Lit r d.length
    · have : lit r d.length ≠ 0 := fun z => lit_zero.mp z q
      rw [decide_eq_true (by omega), if_pos rfl, M.ok_bind]
      exact Sat.lt (Sat.ok (run_lit hs q))
    · have : lit r d.length = 0 := lit_zero.mpr q
      rw [decide_eq_false (by omega), if_neg (by decide), M.ok_bind]
      exact Sat.lt (Sat.ok (run_dark hs q))
  · rw [List.nil_append, Sat.rngL_len] at hs
    obtain ⟨b, k⟩ := s
    obtain ⟨h0, hbk, hm, at', nx, ⟨x, x0, x1, x2⟩, mx⟩ := hs
    dsimp only at *
    have em : ((2 * (lcmb r : Int)).toNat : Int) = 2 * lcmb r := by omega
    rw [em] at hm x1 mx
    have full : ∀ y, All r y 0 (lcmb r) → ∀ z, Lit r z := fun y hy z => by
      have := hy ((z - y) % (lcmb r : Int)) (Int.emod_nonneg _ (by omega)) (Int.emod_lt_of_pos _ (by omega))
      refine (lit_per ⟨(z - y) / (lcmb r : Int), ?_⟩).mpr this
      have := Int.mul_ediv_add_emod (z - y) (lcmb r : Int)
      omega
    by_cases q : b = 2 * (lcmb r : Int)
    · rw [decide_eq_true q, if_pos rfl]
      exact Sat.ok (.inl ⟨rfl, full x fun j a c => x2 j a (by omega)⟩)
    · rw [decide_eq_false q, if_neg (by decide)]
      have nd : ∃ y, ¬ Lit r y := by
        apply Classical.byContradiction
        intro z
        have all : ∀ y, Lit r y := fun y => Classical.byContradiction fun w => z ⟨y, w⟩
        have := mx 0 (2 * (lcmb r : Int)) (Int.le_refl _) (by omega) fun j _ _ => all _
        omega
      obtain ⟨y, hy⟩ := nd
      refine Sat.ok (.inr ⟨b, rfl, by omega, all_lt x2 hy, ⟨y, hy⟩, ⟨x, x2⟩, fun z hz => ?_⟩)
      by_cases c : (lcmb r : Int) ≤ b + 1
      · exact hy (full z (hz.mono c) y)
      · have m0 := Int.emod_nonneg z (b := (lcmb r : Int)) (by omega)
        have m1 := Int.emod_lt_of_pos z (b := (lcmb r : Int)) (by omega)
        have := mx (z % (lcmb r : Int)) (b + 1) m0 (by omega) fun j a c => by
          refine (lit_per ⟨-(z / (lcmb r : Int)), ?_⟩).mpr (hz j a c)
          have := Int.mul_ediv_add_emod z (lcmb r : Int)
          grind
        omega
theorem repr_b (b : Bool) : ∃ s, M.repr (eB b) = .ok s := repr_ok (shw_bl b) (by decide) (by decide)
/-- one lit_from told -/
theorem near {r : List (Int × Int)} (h : Rows 5 r) {size x : Int} (hs : 0 ≤ size) (hx : All r x 0 size) {β : Type} (a : M β) (k : M β) : (((M.lrg 0 (imin size 50)).bind fun ns1 => .ok ns1 : M (List Int)).bind fun v => (M.optC (fun (k' : Int) => ((G22.f_law_lit r (x + k')).bind fun r8 => if (decide (r8 = 0)) then .ok (some k') else .ok none : M (Option Int))) v).bind fun ys => if (!decide (ys = [])) then a else k) = k := by
  have hm : 0 ≤ imin size 50 ∧ imin size 50 ≤ size ∧ imin size 50 ≤ 50 := by
    unfold imin
    split <;> omega
  have hb := h.fb
  have hl := h.len
  rw [lrg (by omega) (by omega) (by omega) (by omega) (by omega), M.ok_bind, M.ok_bind]
  rw [Sat.optC (g := fun _ => none) (fun j hj => by
    have := Sat.mem_rng hj
    rw [e_law_lit, law_lit hb (by omega), M.ok_bind]
    have q : Lit r (x + j) := hx j (by omega) (by omega)
    have : lit r (x + j) ≠ 0 := fun z => lit_zero.mp z q
    rw [decide_eq_false (by omega), if_neg (by decide)]) (by rw [Sat.rngL_len]; omega), M.ok_bind]
  have : (rngL 0 (imin size 50 - 0).toNat).filterMap (fun _ => (none : Option Int)) = [] := by
    rw [List.filterMap_eq_nil_iff]
    intro _ _
    rfl
  rw [this]
  rfl
theorem right {jar : List Int} (h : jar.length = 3) : Sat (G22.f_law_right jar) fun p => p.1 = true := by
  unfold G22.f_law_right
  rw [e_law_rows']
  refine Sat.bind (rows h (by decide) (by decide)) fun p hp => ?_
  obtain ⟨r, jar1⟩ := p
  obtain ⟨hr, h1⟩ := hp
  dsimp only at hr h1 ⊢
  have hb := hr.fb
  have hl : r.length ≤ 5 := hr.len
  obtain ⟨o, eo, ho⟩ := law_longest hr
  obtain ⟨o2, eo2, ho2⟩ := longest hb (by omega)
  cases ho.eq (d := 0) ho2 (fun x => by rw [Int.add_zero])
  rw [eo, M.ok_bind, e_longest_lit, eo2, M.ok_bind, M.ok_bind, Sat.cat (by rw [List.length_reverse]; omega), M.ok_bind]
  obtain ⟨o3, eo3, ho3⟩ := longest (l := r.reverse ++ r) (fun f hf => by
    rcases List.mem_append.mp hf with q | q
    · exact hb f (List.mem_reverse.mp q)
    · exact hb f q) (by rw [List.length_append, List.length_reverse]; omega)
  cases ho.eq (d := 0) ho3 (fun x => by
    rw [Int.add_zero]
    constructor
    · rintro ⟨f, hf, q⟩
      rcases List.mem_append.mp hf with z | z
      · exact ⟨f, List.mem_reverse.mp z, q⟩
      · exact ⟨f, z, q⟩
    · rintro ⟨f, hf, q⟩
      exact ⟨f, List.mem_append_right _ hf, q⟩)
  rw [eo3, M.ok_bind, Sat.rep (by decide) (by decide) (by simp), M.ok_bind]
  have e3 : (List.replicate (3 : Int).toNat [o]).flatten = [o, o, o] := rfl
  rw [e3, decide_eq_true rfl, Bool.not_true, if_neg (by decide)]
  obtain ⟨b, eb, hcv⟩ := covers hb (by omega)
  rcases ho with ⟨rfl, hall⟩ | ⟨n, rfl, n0, n1, ⟨y, hy⟩, ⟨x, hx⟩, hno⟩
  · show Sat ((G22.f_covers r).bind _) _
    have hbt : b = true := hcv.mpr hall
    obtain ⟨s, es⟩ := repr_b true
    rw [e_covers, eb, hbt, M.ok_bind, es, M.ok_bind, M.ok_bind, decide_eq_true rfl, Bool.not_true, if_neg (by decide)]
    rw [lrg (by decide) (by decide) (by decide) (by decide) (by decide), M.ok_bind, Sat.cat (by rw [Sat.rngL_len]; decide), M.ok_bind]
    refine Sat.loopK (I := fun _ => True) trivial (fun u size hsz _ => ?_) fun _ _ => Sat.ok rfl
    have hs : 0 ≤ size ∧ size ≤ 1000000 := by
      rcases List.mem_append.mp hsz with q | q
      · have := Sat.mem_rng q
        omega
      · simp at q
        omega
    obtain ⟨o4, e4, h4⟩ := lit_from hb (by omega) hs.1 hs.2
    rw [e_lit_from, e4, M.ok_bind, M.ok_bind]
    rcases h4 with ⟨rfl, h4⟩ | ⟨x, rfl, h4⟩
    · exact absurd (fun j _ _ => hall _) (h4 0)
    · refine Sat.loopK (I := fun _ => True) trivial (fun u ox hox _ => ?_) fun _ _ => Sat.ok ⟨(), rfl, trivial⟩
      have : ox = some x := by simpa using hox
      subst this
      rw [M.opt_some, near hr hs.1 h4]
      exact Sat.ok ⟨(), rfl, trivial⟩
  · show Sat ((G22.f_covers r).bind _) _
    have hbf : b = false := by
      cases b with
      | false => rfl
      | true => exact absurd (hcv.mp rfl y) hy
    obtain ⟨s, es⟩ := repr_b false
    have p32 : (2 : Int) ^ r.length ≤ 4096 := (two_pow (n := r.length) (by omega)).2.1
    rw [e_covers, eb, hbf, M.ok_bind, es, M.ok_bind, M.ok_bind, decide_eq_true rfl, Bool.not_true, if_neg (by decide)]
    rw [lrg (by decide) (by decide) (by omega) (by omega) (by omega), M.ok_bind, Sat.cat (by rw [Sat.rngL_len]; simp only [List.length_cons, List.length_nil]; omega), M.ok_bind]
    refine Sat.loopK (I := fun _ => True) trivial (fun u size hsz _ => ?_) fun _ _ => Sat.ok rfl
    have hs : 0 ≤ size ∧ size ≤ 1000000 := by
      rcases List.mem_append.mp hsz with q | q
      · have := Sat.mem_rng q
        omega
      · simp at q
        omega
    obtain ⟨o4, e4, h4⟩ := lit_from hb (by omega) hs.1 hs.2
    rw [e_lit_from, e4, M.ok_bind, M.ok_bind]
    rcases h4 with ⟨rfl, h4⟩ | ⟨z, rfl, h4⟩
    · refine Sat.loopK (I := fun _ => True) trivial (fun u ox hox _ => ?_) fun _ _ => Sat.ok ⟨(), rfl, trivial⟩
      have : ox = none := by simpa using hox
      subst this
      have lt : n < size := by
        apply Classical.byContradiction
        intro q
        exact h4 x (hx.mono (by omega))
      rw [M.opt_none, decide_eq_true lt, decide_eq_true rfl, Bool.not_true, if_neg (by decide), M.ok_bind]
      exact Sat.ok ⟨(), rfl, trivial⟩
    · refine Sat.loopK (I := fun _ => True) trivial (fun u ox hox _ => ?_) fun _ _ => Sat.ok ⟨(), rfl, trivial⟩
      have : ox = some z := by simpa using hox
      subst this
      have nlt : ¬ n < size := fun q => hno z (h4.mono (by omega))
      rw [M.opt_some, decide_eq_false nlt, decide_eq_true rfl, Bool.not_true, if_neg (by decide), near hr hs.1 h4]
      exact Sat.ok ⟨(), rfl, trivial⟩
theorem law (cells : List Int) : G22.f_law cells = .ok true := by
  unfold G22.f_law
  have hr : 0 ≤ imax 2 (imin (cells.length : Int) 3) ∧ imax 2 (imin (cells.length : Int) 3) ≤ 3 := by
    unfold imax imin
    split <;> split <;> omega
  rw [Sat.range1 (by omega) (by omega), M.ok_bind]
  rw [Sat.mapC (g := fun _ => true) (fun x hx => by
    have hx := (Sat.mem_rng hx).1
    obtain ⟨l, e, hl⟩ := jar (cells := cells) hx
    obtain ⟨p, e2, hp⟩ := right hl
    show ((G22.f_law_jar cells x).bind _ : M Bool) = _
    rw [e_law_jar, e, M.ok_bind, e2, M.ok_bind]
    obtain ⟨a, b⟩ := p
    show M.ok a = _
    rw [show a = true from hp]) (by rw [Sat.rngL_len]; omega), M.ok_bind]
  congr 1
  rw [List.all_map, List.all_eq_true]
  intro x _
  rfl
end K22

set_option Elab.async false
set_option linter.all false
set_option maxRecDepth 100000
set_option maxHeartbeats 0
namespace MI.HD
open PySem PySem.Spec PyProof.Rows L2 MI
abbrev R : PySem.W.OpenRow := PySem.W.OpenLaw.row PySem.Challenge.rw_restlands_k22_whole_lit_stretches
def m : Md := ⟨desX PySem.Challenge.pw_restlands_k22_whole_lit_stretches [("is_lit", ["lamp"]), ("is_hopeless", ["lamp", "here", "rest", "base"]), ("start_of", ["lamp"]), ("_law_lit", ["r", "n"]), ("_law_right", ["k"]), ("law", ["k"])], [("MOST_FACT", 10 ^ 30), ("MOST_LAMPS", 12), ("MOST_LIT", 10 ^ 6)], [("ALL", [0, 1])]⟩
def lawAt : Nat := 33
def topAt : Nat := 46
def loose : List PySem.Str := (["NotRight", "InvalidNumber", "InvalidFacts", "MOST_FACT", "MOST_LAMPS", "is_integer", "is_between", "check_between", "is_fact", "facts_fault", "check_lamps", "common_of", "combined_of", "back_of", "raised", "ALL", "do_quarrel", "put_together", "does_fit", "does_tell", "MOST_LIT", "is_lit", "first_dark", "shifted", "is_hopeless", "start_of", "longest_lit", "lit_from", "do_cover", "covers"] : List PySem.Str) ++ (["_law_cell", "_law_jar", "_law_dig", "_law_take", "_law_common", "_law_whole", "_law_lit", "_law_rows", "_law_longest", "_law_right"] : List PySem.Str)
abbrev hk : PySem.W.Hook := hookM 4 m
def ob (s : PySem.W.SharedT) : AlM := obsMG 4 m (HandSHeadRun.getT s)
theorem ob_eq (s : PySem.W.SharedT) : ob s = hk.obs s.abs := obsMG_eq (HandSHeadRun.getT_eq s)
theorem m_ok : m.ok = true := by kernel_rfl
theorem run (w : World) : HandSHeadRun.RunEq R (PySem.W.view R.prog [topAt]) hk ob 6000 loose w := by
  intro os
  kernel_rfl
theorem room : Room 60 callerA := ⟨rfl, by decide, by decide⟩
theorem holds (go : ∀ ns : List Int, ns.length ≤ 63 → (∀ z ∈ ns, Builtin.Int.intBits z ≤ 1048576) → ∃ os s, MI.run m.fns 60 lawAt [.d (.lst (ns.map .int))] = .ok (.d (.bl true), os) s) : PySem.Challenge.rw_restlands_k22_whole_lit_stretches.Holds := by
  w_on; o_law
  refine HandSHeadRun.head_any (r := PySem.W.OpenLaw.row PySem.Challenge.rw_restlands_k22_whole_lit_stretches) (q := PySem.W.view (PySem.W.OpenLaw.row PySem.Challenge.rw_restlands_k22_whole_lit_stretches).prog [topAt]) (H := hk) (ob := ob) (M := 6000) (loose := loose) (d := HandSHeadRun.topDef (PySem.W.OpenLaw.row PySem.Challenge.rw_restlands_k22_whole_lit_stretches).prog topAt) (kwd := []) ob_eq
    (by kernel_rfl) (fun s => by kernel_rfl) run (by kernel_rfl) (by kernel_rfl) (by kernel_rfl) (by rfl) (by first | assumption | decide +kernel) (by decide +kernel) ⟨rfl, rfl, rfl, rfl, rfl, by decide +kernel⟩ ?hw ?hc
  case hw => w_witness2
  case hc => exact law_end (l := PySem.Challenge.rw_restlands_k22_whole_lit_stretches) (i := lawAt) (x := "cells") m m_ok rfl (by decide) (by kernel_rfl) room (by kernel_rfl) go
end MI.HD

theorem MI.HD.fns_eq : MI.HD.m.fns = G22.fs := by kernel_rfl
theorem MI.go_law (ns : List Int) : ∃ os, MI.oRun G22.fs 60 33 [.d (.lst (ns.map .int))] = .ok (.d (.bl true), os) [] := by
  have h := (G22.s_law 33 ns).run [.d (.lst (ns.map .int))] (.cons rfl .nil)
  rw [K22.law ns] at h
  obtain ⟨os, e, _⟩ := h
  exact ⟨os, e⟩
theorem PySem.Challenge.cw_restlands_k22_whole_lit_stretches_holds : PySem.Challenge.rw_restlands_k22_whole_lit_stretches.Holds := by
  refine MI.HD.holds fun ns _ _ => ?_
  obtain ⟨os, e⟩ := MI.go_law ns
  refine ⟨os, [], ?_⟩
  rw [MI.HD.fns_eq, ← MI.oRun_eq]
  exact e
