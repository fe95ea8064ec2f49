import PyProof.Rows.All
import Wide.All
import OpenK.AllK
import Wide.FinOn
import HandS.ForMost
import HandS.Flow
import HandS.Wide
import HandS.IsInst
import HandS.TupAny
import HandS.WideBits
import HandS.ForExc
import KE.KStar
import HandS.SortInts
import HandS.Style
import HandS.Head0
import HandS.Head1
import HandS.Head2
import HandS.HeadEnd
import HandS.HeadHook1
import HandS.HeadHook2
import HandS.EndBits
import HandS.Words
import HandS.WordsExc
import HandS.Defaults
import PySem.Challenge.RW_restlands_k01_whole_divisors_of_two
set_option Elab.async false
set_option linter.all false
set_option maxRecDepth 100000
set_option maxHeartbeats 4000000
/-! A small functional reading of the programs' language: values without addresses, slots, a total evaluator. -/
namespace MI
open PySem PySem.Spec PyProof.Rows L2

/-! ### values -/
inductive D where
  | non | bl (b : Bool) | int (i : Int) | str (x : Str) | ty (n : String) | fn (k : Nat) | cl (k : Nat)
  | lst (xs : List D) | tup (xs : List D)
/-- what a slot or an expression holds: a datum; a list that nobody else holds (tag: a parameter's own list); a parameter's list that was handed on -/
inductive Vl where
  | d (x : D) | own (tag : Bool) (xs : List D) | fz (xs : List D)
abbrev S := List (Option Vl)
inductive R (α : Type) where
  | ok (a : α) (s : S) | ex (c : Nat) (fs : List D) (s : S) | no
def R.bind {α β : Type} (r : R α) (f : α → S → R β) : R β := match r with
  | .ok a s => f a s
  | .ex c fs s => .ex c fs s
  | .no => .no
/-- a value as a slot takes it: an own list is no parameter's -/
def Vl.fresh : Vl → Vl
  | .own _ xs => .own false xs
  | .fz xs => .d (.lst xs)
  | .d x => .d x
def Vl.dat : Vl → D
  | .d x => x
  | .own _ xs => .lst xs
  | .fz xs => .lst xs
def R.ofO {α : Type} (o : Option α) (s : S) : R α := match o with
  | some a => .ok a s
  | none => .no

/-! ### the text -/
inductive Bf where
  | len | abs | max | min | int | isinst | divmod | repr | all | any | sum | sorted | list | tuple | bool | str
  deriving DecidableEq
inductive T where
  | var (i : Nat) | con (x : D) | nil | cons (a r : T) | star (a r : T)
  | bin (op : Operator) (a b : T) | neg (a : T) | nt (a : T) | cmp (op : CmpOp) (a b : T) | chain (op op' : CmpOp) (a b c : T)
  | and (a b : T) | or (a b : T) | ite (c a b : T)
  | tup (es : T) | lst (es : T) | idx (a i : T) | slc (a lo hi : T) | sl1 (a : T)
  | call (f : Nat) (args : T) | callk (f : Nat) (perm : List Nat) (args kw : T) | bf (b : Bf) (args : T)
  | comp (own : List Nat) (p it c e : T)
  | par (is : List Nat) (es : T) | rng (args : T) | enum (a : T) | zip (a b : T) | it (a : T) | part (a : T)
  | asg (p e : T) | ex (e : T) | app (i : Nat) (e : T) | pop (i : Nat) | iff (c a b : T) | whl (c b : T) | for (p it b : T) | ret (e : T) | retN | pass | brk | cont | seq (a b : T)

/-! ### operators -/
def W64 : Nat := 2 ^ 64
def W4 : Nat := 2 ^ 4000
def WM : Nat := 2 ^ 100000
def mulOk (i j : Int) : Bool := decide (i.natAbs < W64) || decide (j.natAbs < W64) || (decide (i.natAbs < WM) && decide (j.natAbs < WM))
def divOk (j : Int) : Bool := decide (j ≠ 0) && decide (j.natAbs < W4)
def fitsL (n : Nat) : Bool := decide (n ≤ 16777216)
def bin (op : Operator) (a b : D) : Option Vl := match op, a, b with
  | .Add, .int i, .int j => some (.d (.int (i + j)))
  | .Sub, .int i, .int j => some (.d (.int (i - j)))
  | .Mult, .int i, .int j => if mulOk i j then some (.d (.int (i * j))) else none
  | .FloorDiv, .int i, .int j => if divOk j then some (.d (.int (if 0 < j then i / j else i.fdiv j))) else none
  | .Mod, .int i, .int j => if j = 0 then none else some (.d (.int (if 0 < j then i % j else i.fmod j)))
  | .Pow, .int i, .int j => if decide (0 ≤ j) && decide (j ≤ 1000000) && decide (i.natAbs < W64) then some (.d (.int (i ^ j.toNat))) else none
  | .Add, .lst xs, .lst ys => if fitsL (xs.length + ys.length) then some (.own false (xs ++ ys)) else none
  | .Add, .tup xs, .tup ys => if fitsL (xs.length + ys.length) then some (.d (.tup (xs ++ ys))) else none
  | .Mult, .lst xs, .int k => if decide (-(2 ^ 63) ≤ k) && decide (k < 2 ^ 63) && fitsL (xs.length * k.toNat) then some (.own false (List.replicate k.toNat xs).flatten) else none
  | _, _, _ => none
mutual
def toPy : D → Option PyData
  | .non => some .none
  | .bl b => some (.bool b)
  | .int i => some (.int i)
  | .str x => some (.str x)
  | .lst xs => (toPys xs).map .list
  | .tup xs => (toPys xs).map .tuple
  | _ => none
def toPys : List D → Option (List PyData)
  | [] => some []
  | x :: xs => match toPy x, toPys xs with
    | some d, some ds => some (d :: ds)
    | _, _ => none
end
def eqD (a b : D) : Option Bool := match a, b with
  | .int i, .int j => some (decide (i = j))
  | .str i, .str j => some (decide (i = j))
  | a, b => match toPy a, toPy b with
    | some d, some e => if SeqAt.shaped d && SeqAt.shaped e then some (PyData.eqv d e) else none
    | _, _ => none
def cmp (op : CmpOp) (a b : D) : Option Bool := match op with
  | .Eq => eqD a b
  | .NotEq => (eqD a b).map not
  | .Lt => (match a, b with | .int i, .int j => some (decide (i < j)) | _, _ => none)
  | .LtE => (match a, b with | .int i, .int j => some (decide (i ≤ j)) | _, _ => none)
  | .Gt => (match a, b with | .int i, .int j => some (decide (j < i)) | _, _ => none)
  | .GtE => (match a, b with | .int i, .int j => some (decide (j ≤ i)) | _, _ => none)
  | .Is => (match a, b with | .non, .non => some true | .lst _, .non => some false | .tup _, .non => some false | .int _, .non => some false | .bl _, .non => some false | .str _, .non => some false | _, _ => none)
  | .IsNot => (match a, b with | .non, .non => some false | .lst _, .non => some true | .tup _, .non => some true | .int _, .non => some true | .bl _, .non => some true | .str _, .non => some true | _, _ => none)
  | _ => none
def tru : D → Option Bool
  | .non => some false
  | .bl b => some b
  | .int i => some (i != 0)
  | .lst xs => some (!xs.isEmpty)
  | .tup xs => some (!xs.isEmpty)
  | _ => none
def at_ (xs : List D) (i : Int) : Option D := if 0 ≤ i then xs[i.toNat]? else if -(xs.length : Int) ≤ i then xs[(i + xs.length).toNat]? else none
def index (a i : D) : Option D := match a, i with
  | .lst xs, .int k => at_ xs k
  | .tup xs, .int k => at_ xs k
  | _, _ => none
def clip (n d : Nat) (o : Option Int) : Nat := match o with
  | none => d
  | some i => if i < 0 then (i + n).toNat else min i.toNat n
def cut (xs : List D) (lo hi : Option Int) : List D := (xs.drop (clip xs.length 0 lo)).take (clip xs.length xs.length hi - clip xs.length 0 lo)
def slice (a : D) (lo hi : Option Int) : Option Vl := match a with
  | .lst xs => some (.own false (cut xs lo hi))
  | .tup xs => some (.d (.tup (cut xs lo hi)))
  | _ => none

/-! ### built-in functions -/
def tyNames : List String := ["int", "bool", "tuple", "list", "str", "dict"]
def isTy (x : D) (n : String) : Option Bool := match x with
  | .non => some false
  | .bl _ => some (n == "bool" || n == "int")
  | .int _ => some (n == "int")
  | .str _ => some (n == "str")
  | .lst _ => some (n == "list")
  | .tup _ => some (n == "tuple")
  | _ => none
def intsOf : List D → Option (List Int)
  | [] => some []
  | .int i :: r => (intsOf r).map (i :: ·)
  | _ => none
def boolsOf : List D → Option (List Bool)
  | [] => some []
  | .bl i :: r => (boolsOf r).map (i :: ·)
  | _ => none
def bf1 (b : Bf) (args : List D) : Option Vl := match b, args with
  | .len, [.lst xs] => some (.d (.int xs.length))
  | .len, [.tup xs] => some (.d (.int xs.length))
  | .abs, [.int i] => some (.d (.int i.natAbs))
  | .max, [.int i, .int j] => some (.d (.int (if j > i then j else i)))
  | .min, [.int i, .int j] => some (.d (.int (if j < i then j else i)))
  | .int, [.int i] => some (.d (.int i))
  | .isinst, [x, .ty n] => if tyNames.contains n then (isTy x n).map (.d ∘ .bl) else none
  | .divmod, [.int i, .int j] => if decide (0 < j) && decide (j.natAbs < W4) then some (.d (.tup [.int (i / j), .int (i % j)])) else none
  | .repr, [x] => match toPy x with
    | some d => if d.showable && !d.hasDict && decide (d.depth ≤ 64) && fitsL d.shown.length then some (.d (.str d.shown)) else none
    | none => none
  | .all, [.lst xs] => (boolsOf xs).map fun bs => .d (.bl (bs.all id))
  | .any, [.lst xs] => (boolsOf xs).map fun bs => .d (.bl (bs.any id))
  | .sum, [.lst xs] => (intsOf xs).map fun ns => .d (.int ns.sum)
  | .max, [.lst xs] => (intsOf xs).bind fun ns => ns.max?.map fun m => .d (.int m)
  | .min, [.lst xs] => (intsOf xs).bind fun ns => ns.min?.map fun m => .d (.int m)
  | .sorted, [.lst xs] => (intsOf xs).map fun ns => .own false ((ns.mergeSort fun a b => decide (a ≤ b)).map .int)
  | .bool, [.int i] => some (.d (.bl (i != 0)))
  | .bool, [.bl b] => some (.d (.bl b))
  | .tuple, [.lst xs] => some (.d (.tup xs))
  | .tuple, [.tup xs] => some (.d (.tup xs))
  | .list, [.lst xs] => some (.own false xs)
  | .list, [.tup xs] => some (.own false xs)
  | _, _ => none

/-! ### the evaluator -/
structure Fn where
  np : Nat
  n : Nat
  body : T
/-- a call: the function, the arguments; its value, what its parameters' own lists have become -/
abbrev Call := Nat → List Vl → R (Vl × List (Option Vl))

def rdV (i : Nat) (s : S) : R Vl := match s[i]? with
  | some (some (.d x)) => .ok (.d x) s
  | some (some (.own true xs)) => .ok (.d (.lst xs)) (s.set i (some (.fz xs)))
  | some (some (.own false xs)) => .ok (.d (.lst xs)) (s.set i (some (.d (.lst xs))))
  | some (some (.fz xs)) => .ok (.d (.lst xs)) s
  | _ => .no
/-- a slot's datum, as it stands -/
def peek (i : Nat) (s : S) : Option D := match s[i]? with
  | some (some v) => some v.dat
  | _ => none
/-- an argument: a value, or a slot whose own list is lent -/
inductive Ag where
  | val (v : Vl) | ref (i : Nat)
def lend : List Ag → S → Option (List Vl × S)
  | [], s => some ([], s)
  | .val v :: r, s => (lend r s).map fun p => (v :: p.1, p.2)
  | .ref i :: r, s => match s[i]? with
    | some (some (.own _ xs)) => (lend r (s.set i none)).map fun p => (.own true xs :: p.1, p.2)
    | some (some (.fz xs)) => (lend r s).map fun p => (.d (.lst xs) :: p.1, p.2)
    | some (some (.d x)) => (lend r s).map fun p => (.d x :: p.1, p.2)
    | _ => none
/-- a lent list, back in its slot -/
def back1 (o : Option Vl) (tag : Bool) : Option Vl := match o with
  | some (.own _ ys) => some (.own tag ys)
  | some (.fz ys) => some (if tag then .fz ys else .d (.lst ys))
  | _ => none
/-- behind the call: s as it stood ahead of the lending -/
def back : List Ag → List (Option Vl) → S → S
  | .ref i :: r, o :: os, s => back r os (match s[i]? with
    | some (some (.own tag _)) => s.set i (back1 o tag)
    | _ => s)
  | .val _ :: r, _ :: os, s => back r os s
  | _, _, s => s
/-- what is left of the parameters' own lists -/
def outs (args : List Vl) (s : S) : List (Option Vl) := (args.zip (s ++ List.replicate args.length none)).map fun p => match p.1, p.2 with
  | .own _ _, some (.own true ys) => some (.own true ys)
  | .own _ _, some (.fz ys) => some (.fz ys)
  | _, _ => none
/-- the arguments in the parameters' order -/
def pick {α : Type} (perm : List Nat) (vs : List α) : List α := perm.filterMap fun j => vs[j]?

/-- what a target does with a value -/
inductive P where
  | slot (i : Nat) | tup (ps : List P) | sub (i : Nat) (ix : T)

inductive O where
  | nx (s : S) | rt (v : Vl) (s : S) | bk (s : S) | ct (s : S) | ex (c : Nat) (fs : List D) (s : S) | no

def onlyN : O → O
  | .nx s => .nx s
  | .ex c fs s => .ex c fs s
  | _ => .no
def loopN (n : Nat) (step : S → O) (s : S) : O := match n with
  | 0 => .no
  | n + 1 => match step s with
    | .nx s' => loopN n step s'
    | .bk s' => .nx s'
    | o => o
/-- one turn after another over what is walked -/
def loopL (step : D → S → O) : List D → S → O
  | [], s => .nx s
  | x :: r, s => match step x s with
    | .nx s' => loopL step r s'
    | .ct s' => loopL step r s'
    | .bk s' => .nx s'
    | o => o
def joinO : Option D → List D → List D
  | some y, r => y :: r
  | none, r => r
def compL (step : D → S → Option (Option D × S)) : List D → S → Option (List D × S)
  | [], s => some ([], s)
  | x :: r, s => match step x s with
    | none => none
    | some (y, s1) => match compL step r s1 with
      | none => none
      | some (ys, s2) => some (joinO y ys, s2)
def wipeS (s : S) : List Nat → S
  | [] => s
  | i :: r => (wipeS s r).set i none
/-- the slots own of s as they stand in s0 -/
def unwipe (s0 s : S) : List Nat → S
  | [] => s
  | i :: r => (unwipe s0 s r).set i (match s0[i]? with | some (some (.d x)) => some (.d x) | _ => none)
def rangeL (lo : Int) (n : Nat) : List D := (List.range n).map fun (k : Nat) => .int (lo + (k : Int))
def rangeL3 (lo c : Int) (n : Nat) : List D := (List.range n).map fun (k : Nat) => .int (lo + (k : Int) * c)
def items : D → Option (List D)
  | .lst xs => some xs
  | .tup xs => some xs
  | _ => none
def in62 (i : Int) : Bool := decide (-(2 ^ 62) ≤ i) && decide (i < 2 ^ 62)
def enumL : Nat → List D → List D
  | _, [] => []
  | k, x :: r => .tup [.int k, x] :: enumL (k + 1) r
def zipL : List D → List D → List D
  | x :: r, y :: q => .tup [x, y] :: zipL r q
  | _, _ => []
def setAll : List Nat → List Vl → S → S
  | i :: is, v :: vs, s => setAll is vs (s.set i (some v))
  | _, _, s => s
def FUEL : Nat := 1000000000000
/-- a value behind which nobody else holds its list -/
def evD (r : R Vl) : R D := r.bind fun v s => .ok v.dat s

/-- how many of them, none with a star -/
def plainLen : T → Option Nat
  | .nil => some 0
  | .cons _ r => (plainLen r).map (· + 1)
  | _ => none
section
variable (Φ : Call)
mutual
def evE : T → S → R Vl
  | .var i, s => rdV i s
  | .con x, s => .ok (.d x) s
  | .bin op a b, s => (evE a s).bind fun x s => (evE b s).bind fun y s => R.ofO (bin op x.dat y.dat) s
  | .neg a, s => (evE a s).bind fun x s => match x with
    | .d (.int i) => .ok (.d (.int (-i))) s
    | _ => .no
  | .nt a, s => (evE a s).bind fun x s => R.ofO ((tru x.dat).map fun b => .d (.bl (!b))) s
  | .cmp op a b, s => (evE a s).bind fun x s => (evE b s).bind fun y s => R.ofO ((cmp op x.dat y.dat).map fun b => .d (.bl b)) s
  | .chain op op' a b c, s => (evE a s).bind fun x s => (evE b s).bind fun y s => match cmp op x.dat y.dat with
    | some true => (evE c s).bind fun z s => R.ofO ((cmp op' y.dat z.dat).map fun b => .d (.bl b)) s
    | some false => .ok (.d (.bl false)) s
    | none => .no
  | .and a b, s => (evE a s).bind fun x s => match tru x.dat with
    | some true => evE b s
    | some false => .ok (.d x.dat) s
    | none => .no
  | .or a b, s => (evE a s).bind fun x s => match tru x.dat with
    | some true => .ok (.d x.dat) s
    | some false => evE b s
    | none => .no
  | .ite c a b, s => (evE c s).bind fun x s => match tru x.dat with
    | some true => evE a s
    | some false => evE b s
    | none => .no
  | .tup es, s => (evL es s).bind fun xs s => if fitsL xs.length then .ok (.d (.tup xs)) s else .no
  | .lst es, s => (evL es s).bind fun xs s => if fitsL xs.length then .ok (.own false xs) s else .no
  | .idx (.var i) e, s => match peek i s with
    | none => .no
    | some _ => (evE e s).bind fun y s => match peek i s with
      | some x => R.ofO ((index x y.dat).map .d) s
      | none => .no
  | .idx a e, s => (evE a s).bind fun x s => (evE e s).bind fun y s => R.ofO ((index x.dat y.dat).map .d) s
  | .slc a lo hi, s => (evE a s).bind fun x s => (evP lo s).bind fun l s => (evP hi s).bind fun h s => R.ofO (slice x.dat l h) s
  | .call f args, s => (evA args s).bind fun vs s => match lend vs s with
    | none => .no
    | some (us, _) => match Φ f us with
      | .ok (v, os) _ => .ok v (back vs os s)
      | .ex c fs os => .ex c fs (back vs os s)
      | .no => .no
  | .callk f perm args kw, s => (evL args s).bind fun xs s => (evL kw s).bind fun ys s => match Φ f ((pick perm (xs ++ ys)).map .d) with
    | .ok (v, _) _ => .ok v s
    | .ex c fs _ => .ex c fs s
    | .no => .no
  | .bf b (.cons (.var i) .nil), s => match peek i s with
    | some x => R.ofO (bf1 b [x]) s
    | none => .no
  | .bf b args, s => (evL args s).bind fun xs s => R.ofO (bf1 b xs) s
  | .comp own p it c e, s => (evI it s).bind fun xs s =>
      match compL (fun x s => match bindP p x s with
        | .nx s => (match evE c s with
          | .ok b s => (match tru b.dat with
            | some true => (match evE e s with
              | .ok v s => some (some v.dat, wipeS s own)
              | _ => none)
            | some false => some (none, wipeS s own)
            | none => none)
          | _ => none)
        | _ => none) xs (wipeS s own) with
      | some (ys, s') => if fitsL ys.length then .ok (.own false ys) (unwipe s s' own) else .no
      | none => .no
  | _, _ => .no
termination_by structural t => t
/-- the items of a display -/
def evL : T → S → R (List D)
  | .nil, s => .ok [] s
  | .cons a r, s => (evE a s).bind fun x s => (evL r s).bind fun xs s => .ok (x.dat :: xs) s
  | .star (.var i) r, s => match (peek i s).bind items with
    | some ys => (evL r s).bind fun xs s => .ok (ys ++ xs) s
    | none => .no
  | .star a r, s => (evE a s).bind fun x s => match items x.dat with
    | some ys => (evL r s).bind fun xs s => .ok (ys ++ xs) s
    | none => .no
  | _, _ => .no
termination_by structural t => t
/-- a call's arguments -/
def evA : T → S → R (List Ag)
  | .nil, s => .ok [] s
  | .cons (.var i) r, s => match s[i]? with
    | some (some (.own _ _)) => (evA r s).bind fun vs s => .ok (.ref i :: vs) s
    | _ => (rdV i s).bind fun x s => (evA r s).bind fun vs s => .ok (.val x :: vs) s
  | .cons a r, s => (evE a s).bind fun x s => (evA r s).bind fun vs s => .ok (.val x :: vs) s
  | _, _ => .no
termination_by structural t => t
/-- values side by side -/
def evV : T → S → R (List Vl)
  | .nil, s => .ok [] s
  | .cons a r, s => (evE a s).bind fun x s => (evV r s).bind fun vs s => .ok (x :: vs) s
  | _, _ => .no
termination_by structural t => t
/-- a part of a slice -/
def evP : T → S → R (Option Int)
  | .nil, s => .ok none s
  | .part a, s => (evE a s).bind fun x s => match x with
    | .d (.int i) => .ok (some i) s
    | _ => .no
  | _, _ => .no
termination_by structural t => t
/-- what a for walks -/
def evI : T → S → R (List D)
  | .rng (.cons a .nil), s => (evE a s).bind fun x s => match x with
    | .d (.int j) => if in62 j then .ok (rangeL 0 j.toNat) s else .no
    | _ => .no
  | .rng (.cons a (.cons b .nil)), s => (evE a s).bind fun x s => (evE b s).bind fun y s => match x, y with
    | .d (.int i), .d (.int j) => if in62 i && in62 j then .ok (rangeL i (j - i).toNat) s else .no
    | _, _ => .no
  | .enum a, s => (evE a s).bind fun x s => match x.dat with
    | .lst xs => .ok (enumL 0 xs) s
    | .tup xs => .ok (enumL 0 xs) s
    | _ => .no
  | .zip a b, s => (evE a s).bind fun x s => (evE b s).bind fun y s => match x.dat, y.dat with
    | .lst xs, .lst ys => .ok (zipL xs ys) s
    | .tup xs, .tup ys => .ok (zipL xs ys) s
    | _, _ => .no
  | .it a, s => (evE a s).bind fun x s => match items x.dat with
    | some xs => .ok xs s
    | none => .no
  | _, _ => .no
termination_by structural t => t
/-- a target takes a datum -/
def bindP : T → D → S → O
  | .var i, x, s => if i < s.length then .nx (s.set i (some (.d x))) else .no
  | .tup ps, x, s => match x with
    | .tup xs => if plainLen ps = some xs.length then bindPs ps xs s else .no
    | _ => .no
  | .idx (.var i) e, x, s => match peek i s with
    | none => .no
    | some _ => match evE e s with
      | .ok (.d (.int k)) s => (match s[i]? with
        | some (some (.own tag xs)) => if 0 ≤ k && k.toNat < xs.length then .nx (s.set i (some (.own tag (xs.set k.toNat x)))) else .no
        | _ => .no)
      | .ex c fs s => .ex c fs s
      | _ => .no
  | _, _, _ => .no
termination_by structural t => t
def bindPs : T → List D → S → O
  | .nil, [], s => .nx s
  | .cons p r, x :: xs, s => match bindP p x s with
    | .nx s => bindPs r xs s
    | o => o
  | _, _, _ => .no
termination_by structural t => t
def exS : T → S → O
  | .seq a b, s => match exS a s with
    | .nx s => exS b s
    | o => o
  | .pass, s => .nx s
  | .brk, s => .bk s
  | .cont, s => .ct s
  | .asg (.var i) e, s => match evE e s with
    | .ok v s => if i < s.length then .nx (s.set i (some v.fresh)) else .no
    | .ex c fs s => .ex c fs s
    | .no => .no
  | .par is es, s => match evV es s with
    | .ok vs s => if is.length = vs.length && is.all (fun i => decide (i < s.length)) then .nx (setAll is (vs.map Vl.fresh) s) else .no
    | .ex c fs s => .ex c fs s
    | .no => .no
  | .asg p e, s => match evE e s with
    | .ok v s => onlyN (bindP p v.dat s)
    | .ex c fs s => .ex c fs s
    | .no => .no
  | .ex e, s => match evE e s with
    | .ok _ s => .nx s
    | .ex c fs s => .ex c fs s
    | .no => .no
  | .app i e, s => match s[i]? with
    | some (some (.own _ _)) => (match evE e s with
      | .ok v s => (match s[i]? with
        | some (some (.own tag xs)) => if fitsL (xs.length + 1) then .nx (s.set i (some (.own tag (xs ++ [v.dat])))) else .no
        | _ => .no)
      | .ex c fs s => .ex c fs s
      | .no => .no)
    | _ => .no
  | .pop i, s => match s[i]? with
    | some (some (.own tag xs)) => if xs.isEmpty then .no else .nx (s.set i (some (.own tag xs.dropLast)))
    | _ => .no
  | .iff c a b, s => match evE c s with
    | .ok v s => (match tru v.dat with
      | some true => exS a s
      | some false => exS b s
      | none => .no)
    | .ex c fs s => .ex c fs s
    | .no => .no
  | .whl c b, s => loopN FUEL (fun s => match evE c s with
    | .ok v s => (match tru v.dat with
      | some true => (match exS b s with | .ct s => .nx s | o => o)
      | some false => .bk s
      | none => .no)
    | .ex c fs s => .ex c fs s
    | .no => .no) s
  | .for p it b, s => match evI it s with
    | .ok xs s => loopL (fun x s => match onlyN (bindP p x s) with
      | .nx s => exS b s
      | o => o) xs s
    | .ex c fs s => .ex c fs s
    | .no => .no
  | .ret e, s => match evE e s with
    | .ok v s => .rt v s
    | .ex c fs s => .ex c fs s
    | .no => .no
  | .retN, s => .rt (.d .non) s
  | _, _ => .no
termination_by structural t => t
end
end
def startS (n : Nat) (args : List Vl) : S := args.map some ++ List.replicate (n - args.length) none
/-- a call of the k-th function, calls nested d deep -/
def run (fns : List Fn) : Nat → Call
  | 0, _, _ => .no
  | d + 1, k, args => match fns[k]? with
    | none => .no
    | some f => if args.length = f.np then (match exS (run fns d) f.body (startS f.n args) with
      | .rt v s => .ok (v, outs args s) []
      | .nx s => .ok (.d .non, outs args s) []
      | .ex c fs s => .ex c fs (outs args s)
      | _ => .no) else .no
end MI

set_option Elab.async false
set_option linter.all false
set_option maxRecDepth 100000
set_option maxHeartbeats 4000000
/-! A parameter's own list stays in its slot, or is gone: no other slot is marked as one. -/
namespace MI
def Tg (s : S) (i : Nat) : Prop := ∃ ys, s[i]? = some (some (.own true ys)) ∨ s[i]? = some (some (.fz ys))
def TL (s' s : S) : Prop := ∀ i, Tg s' i → Tg s i
def RT {α : Type} (s : S) (r : R α) : Prop := match r with
  | .ok _ s' => TL s' s
  | .ex _ _ s' => TL s' s
  | .no => True
def OT (s : S) (o : O) : Prop := match o with
  | .nx s' => TL s' s
  | .ex _ _ s' => TL s' s
  | .rt _ s' => TL s' s
  | .bk s' => TL s' s
  | .ct s' => TL s' s
  | .no => True
theorem TL.refl {s : S} : TL s s := fun _ h => h
theorem TL.trans {a b c : S} (h : TL a b) (k : TL b c) : TL a c := fun i q => k i (h i q)
theorem RT.le {α : Type} {s s1 : S} {r : R α} (k : TL s1 s) (h : RT s1 r) : RT s r := by
  cases r with
  | ok v s' => exact TL.trans h k
  | ex c fs s' => exact TL.trans h k
  | no => trivial
theorem OT.le {s s1 : S} {r : O} (k : TL s1 s) (h : OT s1 r) : OT s r := by
  cases r <;> first | exact TL.trans h k | trivial
theorem RT.bind {α β : Type} {s : S} {r : R α} {f : α → S → R β} (h : RT s r) (k : ∀ v s', RT s' (f v s')) : RT s (r.bind f) := by
  cases r with
  | ok v s' => exact (k v s').le h
  | ex c fs s' => exact h
  | no => trivial
theorem RT.ofO {α : Type} {s : S} {o : Option α} : RT s (R.ofO o s) := by
  cases o with
  | none => trivial
  | some a => exact TL.refl
theorem Tg.of_set {s : S} {i j : Nat} {o : Option Vl} (h : Tg (s.set i o) j) : (j ≠ i ∧ Tg s j) ∨ (j = i ∧ i < s.length ∧ ∃ ys, o = some (.own true ys) ∨ o = some (.fz ys)) := by
  obtain ⟨ys, h⟩ := h
  by_cases e : i = j
  · subst e
    have hl : i < s.length := by
      rcases h with h | h
      · have := (List.getElem?_eq_some_iff.mp h).1
        simpa using this
      · have := (List.getElem?_eq_some_iff.mp h).1
        simpa using this
    rw [List.getElem?_set_self hl] at h
    exact .inr ⟨rfl, hl, ys, by simpa using h⟩
  · rw [List.getElem?_set_ne e] at h
    exact .inl ⟨fun z => e z.symm, ys, h⟩
theorem TL.set {s : S} {i : Nat} {o : Option Vl} (h : ∀ ys, (o = some (.own true ys) ∨ o = some (.fz ys)) → i < s.length → Tg s i) : TL (s.set i o) s := fun j q => by
  rcases q.of_set with ⟨_, q⟩ | ⟨rfl, l, ys, e⟩
  · exact q
  · exact h ys e l
theorem TL.d {s : S} {i : Nat} {x : D} : TL (s.set i (some (.d x))) s := TL.set fun ys e _ => by rcases e with e | e <;> cases e
theorem TL.none {s : S} {i : Nat} : TL (s.set i none) s := TL.set fun ys e _ => by rcases e with e | e <;> cases e
theorem rt_rdV (i : Nat) (s : S) : RT s (rdV i s) := by
  unfold rdV
  split
  · exact TL.refl
  · rename_i xs e
    exact TL.set fun ys q l => ⟨xs, .inl e⟩
  · exact TL.d
  · exact TL.refl
  · trivial
theorem tl_back : ∀ (vs : List Ag) (os : List (Option Vl)) (s : S), TL (back vs os s) s
  | [], os, s => by unfold back; exact TL.refl
  | .ref i :: r, [], s => TL.refl
  | .val _ :: r, [], s => TL.refl
  | .ref i :: r, o :: os, s => by
    have key : TL (match s[i]? with | some (some (.own tag _)) => s.set i (back1 o tag) | _ => s) s := by
      split
      · rename_i tag xs e
        refine TL.set fun ys q l => ?_
        cases tag with
        | true => exact ⟨xs, .inl e⟩
        | false =>
          exfalso
          unfold back1 at q
          split at q
          · rcases q with q | q <;> cases q
          · rcases q with q | q <;> cases q
          · rcases q with q | q <;> cases q
      · exact TL.refl
    exact (tl_back r os _).trans key
  | .val v :: r, o :: os, s => tl_back r os s
theorem tl_wipe {s : S} : ∀ {own : List Nat}, TL (wipeS s own) s
  | [] => TL.refl
  | i :: r => TL.none.trans (tl_wipe (own := r))
theorem tl_unwipe {s0 s : S} : ∀ {own : List Nat}, TL (unwipe s0 s own) s
  | [] => TL.refl
  | i :: r => by
    refine TL.trans (TL.set fun ys e l => ?_) (tl_unwipe (own := r))
    split at e <;> rcases e with e | e <;> cases e
theorem tl_compL {step : D → S → Option (Option D × S)} (h : ∀ x s y s', step x s = some (y, s') → TL s' s) : ∀ {xs : List D} {s : S} {ys : List D} {s' : S}, compL step xs s = some (ys, s') → TL s' s
  | [], s, ys, s', e => by cases e; exact TL.refl
  | x :: r, s, ys, s', e => by
    unfold compL at e
    split at e
    · cases e
    · rename_i y s1 e1
      split at e
      · cases e
      · rename_i zs s2 e2
        cases e
        exact (tl_compL h e2).trans (h _ _ _ _ e1)
structure TagA (Φ : Call) (t : T) : Prop where
  E : ∀ s, RT s (evE Φ t s)
  L : ∀ s, RT s (evL Φ t s)
  A : ∀ s, RT s (evA Φ t s)
  V : ∀ s, RT s (evV Φ t s)
  P : ∀ s, RT s (evP Φ t s)
  I : ∀ s, RT s (evI Φ t s)
  B : ∀ x s, OT s (bindP Φ t x s)
  Bs : ∀ xs s, OT s (bindPs Φ t xs s)
variable {Φ : Call}
theorem TagA.only {t : T} (E : ∀ s, RT s (evE Φ t s)) (L : ∀ s, evL Φ t s = .no) (A : ∀ s, evA Φ t s = .no) (V : ∀ s, evV Φ t s = .no) (P : ∀ s, evP Φ t s = .no) (I : ∀ s, evI Φ t s = .no) (B : ∀ x s, bindP Φ t x s = .no) (Bs : ∀ x s, bindPs Φ t x s = .no) : TagA Φ t :=
  ⟨E, fun s => by rw [L]; trivial, fun s => by rw [A]; trivial, fun s => by rw [V]; trivial, fun s => by rw [P]; trivial, fun s => by rw [I]; trivial, fun x s => by rw [B]; trivial, fun x s => by rw [Bs]; trivial⟩
theorem TagA.onlyE {t : T} (E : ∀ s, RT s (evE Φ t s)) (L : ∀ s, evL Φ t s = .no := by intros; rfl) (A : ∀ s, evA Φ t s = .no := by intros; rfl) (V : ∀ s, evV Φ t s = .no := by intros; rfl) (P : ∀ s, evP Φ t s = .no := by intros; rfl) (I : ∀ s, evI Φ t s = .no := by intros; rfl) (B : ∀ x s, bindP Φ t x s = .no := by intros; rfl) (Bs : ∀ x s, bindPs Φ t x s = .no := by intros; rfl) : TagA Φ t := TagA.only E L A V P I B Bs
theorem rt_ite {α : Type} {s : S} {b : Bool} {v : α} {s' : S} (h : TL s' s) : RT s (if b = true then .ok v s' else .no) := by
  split
  · exact h
  · trivial
theorem ta : ∀ t, TagA Φ t := fun t => by
  induction t with
  | var i => exact ⟨fun s => rt_rdV i s, fun _ => trivial, fun _ => trivial, fun _ => trivial, fun _ => trivial, fun _ => trivial, fun x s => by
      show OT s (if i < s.length then .nx (s.set i (some (.d x))) else .no)
      split
      · exact TL.d
      · trivial, fun xs s => by cases xs <;> trivial⟩
  | con x => exact .onlyE fun s => TL.refl
  | nil => exact ⟨fun _ => trivial, fun _ => TL.refl, fun _ => TL.refl, fun _ => TL.refl, fun _ => TL.refl, fun _ => trivial, fun _ _ => trivial, fun xs s => by
      cases xs with
      | nil => exact TL.refl
      | cons x xs => trivial⟩
  | cons a r ha hr =>
    refine ⟨fun _ => trivial, fun s => (ha.E s).bind fun x s1 => (hr.L s1).bind fun _ s2 => TL.refl, fun s => ?_, fun s => (ha.E s).bind fun x s1 => (hr.V s1).bind fun _ s2 => TL.refl, fun _ => trivial, fun _ => trivial, fun _ _ => trivial, fun xs s => ?_⟩
    · have gen : RT s ((evE Φ a s).bind fun x s => (evA Φ r s).bind fun vs s => .ok (.val x :: vs) s) := (ha.E s).bind fun x s1 => (hr.A s1).bind fun _ s2 => TL.refl
      cases a with
      | var i =>
        show RT s (match s[i]? with
          | some (some (.own _ _)) => (evA Φ r s).bind fun vs s => .ok (.ref i :: vs) s
          | _ => (rdV i s).bind fun x s => (evA Φ r s).bind fun vs s => .ok (.val x :: vs) s)
        split
        · exact (hr.A s).bind fun _ _ => TL.refl
        · exact gen
      | _ => exact gen
    · cases xs with
      | nil => trivial
      | cons x xs =>
        show OT s (match bindP Φ a x s with
          | .nx s => bindPs Φ r xs s
          | o => o)
        have h := ha.B x s
        split
        · rename_i s1 e
          rw [e] at h
          exact (hr.Bs xs s1).le h
        · exact h
  | star a r ha hr =>
    refine ⟨fun _ => trivial, fun s => ?_, fun _ => trivial, fun _ => trivial, fun _ => trivial, fun _ => trivial, fun _ _ => trivial, fun xs s => by cases xs <;> trivial⟩
    have gen : RT s ((evE Φ a s).bind fun x s => match items x.dat with
      | some ys => (evL Φ r s).bind fun xs s => .ok (ys ++ xs) s
      | none => .no) := (ha.E s).bind fun x s1 => by
        split
        · exact (hr.L s1).bind fun _ _ => TL.refl
        · trivial
    cases a with
    | var i =>
      show RT s (match (peek i s).bind items with
        | some ys => (evL Φ r s).bind fun xs s => .ok (ys ++ xs) s
        | none => .no)
      split
      · exact (hr.L s).bind fun _ _ => TL.refl
      · trivial
    | _ => exact gen
  | bin op a b ha hb => exact .onlyE fun s => (ha.E s).bind fun x s1 => (hb.E s1).bind fun y s2 => RT.ofO
  | neg a ha =>
    exact .onlyE fun s => (ha.E s).bind fun x s1 => by
      split
      · exact TL.refl
      · trivial
  | nt a ha => exact .onlyE fun s => (ha.E s).bind fun x s1 => RT.ofO
  | cmp op a b ha hb => exact .onlyE fun s => (ha.E s).bind fun x s1 => (hb.E s1).bind fun y s2 => RT.ofO
  | chain op op' a b c ha hb hc =>
    exact .onlyE fun s => (ha.E s).bind fun x s1 => (hb.E s1).bind fun y s2 => by
      split
      · exact (hc.E s2).bind fun _ _ => RT.ofO
      · exact TL.refl
      · trivial
  | and a b ha hb =>
    exact .onlyE fun s => (ha.E s).bind fun x s1 => by
      split
      · exact hb.E s1
      · exact TL.refl
      · trivial
  | or a b ha hb =>
    exact .onlyE fun s => (ha.E s).bind fun x s1 => by
      split
      · exact TL.refl
      · exact hb.E s1
      · trivial
  | ite c a b hc ha hb =>
    exact .onlyE fun s => (hc.E s).bind fun x s1 => by
      split
      · exact ha.E s1
      · exact hb.E s1
      · trivial
  | tup es h =>
    refine ⟨fun s => (h.L s).bind fun x s1 => rt_ite TL.refl, fun _ => trivial, fun _ => trivial, fun _ => trivial, fun _ => trivial, fun _ => trivial, fun x s => ?_, fun xs s => by cases xs <;> trivial⟩
    cases x with
    | tup xs =>
      show OT s (if plainLen es = some xs.length then bindPs Φ es xs s else .no)
      split
      · exact h.Bs xs s
      · trivial
    | _ => trivial
  | lst es h => exact .onlyE fun s => (h.L s).bind fun x s1 => rt_ite TL.refl
  | idx a e ha he =>
    refine ⟨fun s => ?_, fun _ => trivial, fun _ => trivial, fun _ => trivial, fun _ => trivial, fun _ => trivial, fun x s => ?_, fun xs s => by cases xs <;> trivial⟩
    · have gen : RT s ((evE Φ a s).bind fun x s => (evE Φ e s).bind fun y s => R.ofO ((index x.dat y.dat).map Vl.d) s) := (ha.E s).bind fun x s1 => (he.E s1).bind fun _ _ => RT.ofO
      cases a with
      | var i =>
        show RT s (match peek i s with
          | none => .no
          | some _ => (evE Φ e s).bind fun y s => match peek i s with
            | some x => R.ofO ((index x y.dat).map Vl.d) s
            | none => .no)
        split
        · trivial
        · refine (he.E s).bind fun y s1 => ?_
          split
          · exact RT.ofO
          · trivial
      | _ => exact gen
    · cases a with
      | var i =>
        show OT s (match peek i s with
          | none => .no
          | some _ => match evE Φ e s with
            | .ok (.d (.int k)) s => (match s[i]? with
              | some (some (.own tag xs)) => if 0 ≤ k && k.toNat < xs.length then .nx (s.set i (some (.own tag (xs.set k.toNat x)))) else .no
              | _ => .no)
            | .ex c fs s => .ex c fs s
            | _ => .no)
        have h := he.E s
        split
        · trivial
        · split
          · rename_i k s1 e1
            rw [e1] at h
            split
            · rename_i tag xs e2
              split
              · exact TL.trans (TL.set fun ys q l => by
                  rcases q with q | q
                  · cases q; exact ⟨xs, .inl e2⟩
                  · cases q) h
              · trivial
            · trivial
          · rename_i c fs s1 e1
            rw [e1] at h
            exact h
          · trivial
      | _ => trivial
  | slc a lo hi ha hl hh => exact .onlyE fun s => (ha.E s).bind fun x s1 => (hl.P s1).bind fun _ s2 => (hh.P s2).bind fun _ _ => RT.ofO
  | sl1 a ha => exact .onlyE fun s => trivial
  | call f args h =>
    exact .onlyE fun s => (h.A s).bind fun vs s1 => by
      split
      · trivial
      · split
        · exact tl_back _ _ _
        · exact tl_back _ _ _
        · trivial
  | callk f perm args kw h hk =>
    exact .onlyE fun s => (h.L s).bind fun vs s1 => (hk.L s1).bind fun ws s2 => by
      split
      · exact TL.refl
      · exact TL.refl
      · trivial
  | bf b args h =>
    refine .onlyE fun s => ?_
    have gen : RT s ((evL Φ args s).bind fun xs s => R.ofO (bf1 b xs) s) := (h.L s).bind fun _ _ => RT.ofO
    cases args with
    | cons a r =>
      cases a with
      | var i =>
        cases r with
        | nil =>
          show RT s (match peek i s with
            | some x => R.ofO (bf1 b [x]) s
            | none => .no)
          split
          · exact RT.ofO
          · trivial
        | _ => exact gen
      | _ => exact gen
    | _ => exact gen
  | comp own p it c e hp hi hc he =>
    refine .onlyE fun s => (hi.I s).bind fun xs s1 => ?_
    split
    · rename_i ys s2 h
      refine rt_ite (tl_unwipe.trans ((tl_compL (fun x s y s' q => ?_) h).trans tl_wipe))
      have h1 := hp.B x s
      split at q
      · rename_i s3 e3
        rw [e3] at h1
        have h2 := hc.E s3
        split at q
        · rename_i b s4 e4
          rw [e4] at h2
          split at q
          · have h3 := he.E s4
            split at q
            · rename_i v s5 e5
              rw [e5] at h3
              cases q
              exact tl_wipe.trans (h3.trans (TL.trans h2 h1))
            · cases q
          · cases q
            exact tl_wipe.trans (TL.trans h2 h1)
          · cases q
        · cases q
      · cases q
    · trivial
  | part a ha =>
    exact ⟨fun _ => trivial, fun _ => trivial, fun _ => trivial, fun _ => trivial, fun s => (ha.E s).bind fun x s1 => by
      split
      · exact TL.refl
      · trivial, fun _ => trivial, fun _ _ => trivial, fun xs s => by cases xs <;> trivial⟩
  | it a ha =>
    exact ⟨fun _ => trivial, fun _ => trivial, fun _ => trivial, fun _ => trivial, fun _ => trivial, fun s => (ha.E s).bind fun x s1 => by
      split
      · exact TL.refl
      · trivial, fun _ _ => trivial, fun xs s => by cases xs <;> trivial⟩
  | enum a ha =>
    exact ⟨fun _ => trivial, fun _ => trivial, fun _ => trivial, fun _ => trivial, fun _ => trivial, fun s => (ha.E s).bind fun x s1 => by
      split
      · exact TL.refl
      · exact TL.refl
      · trivial, fun _ _ => trivial, fun xs s => by cases xs <;> trivial⟩
  | zip a b ha hb =>
    exact ⟨fun _ => trivial, fun _ => trivial, fun _ => trivial, fun _ => trivial, fun _ => trivial, fun s => (ha.E s).bind fun x s1 => (hb.E s1).bind fun y s2 => by
      split
      · exact TL.refl
      · exact TL.refl
      · trivial, fun _ _ => trivial, fun xs s => by cases xs <;> trivial⟩
  | rng args h =>
    refine ⟨fun _ => trivial, fun _ => trivial, fun _ => trivial, fun _ => trivial, fun _ => trivial, fun s => ?_, fun _ _ => trivial, fun xs s => by cases xs <;> trivial⟩
    cases args with
    | cons a r =>
      cases r with
      | nil =>
        have h := h.L s
        replace h : RT s ((evE Φ a s).bind fun x s => (R.ok [] s : R (List D)).bind fun xs s => .ok (x.dat :: xs) s) := h
        show RT s ((evE Φ a s).bind fun x s => match x with
          | .d (.int j) => if in62 j then .ok (rangeL 0 j.toNat) s else .no
          | _ => .no)
        cases e : evE Φ a s with
        | no => trivial
        | ex c fs s1 => rw [e] at h; exact h
        | ok v s1 =>
          rw [e] at h
          have h : TL s1 s := h
          show RT s (match v with
            | .d (.int j) => if in62 j then .ok (rangeL 0 j.toNat) s1 else .no
            | _ => .no)
          split
          · exact rt_ite h
          · trivial
      | cons b r =>
        cases r with
        | nil =>
          have h := h.L s
          replace h : RT s ((evE Φ a s).bind fun x s => ((evE Φ b s).bind fun x s => (R.ok [] s : R (List D)).bind fun xs s => .ok (x.dat :: xs) s).bind fun xs s => .ok (x.dat :: xs) s) := h
          show RT s ((evE Φ a s).bind fun x s => (evE Φ b s).bind fun y s => match x, y with
            | .d (.int i), .d (.int j) => if in62 i && in62 j then .ok (rangeL i (j - i).toNat) s else .no
            | _, _ => .no)
          cases e : evE Φ a s with
          | no => trivial
          | ex c fs s1 => rw [e] at h; exact h
          | ok v s1 =>
            rw [e] at h
            replace h : RT s (((evE Φ b s1).bind fun x s => (R.ok [] s : R (List D)).bind fun xs s => .ok (x.dat :: xs) s).bind fun xs s => .ok (v.dat :: xs) s) := h
            show RT s ((evE Φ b s1).bind fun y s => match v, y with
              | .d (.int i), .d (.int j) => if in62 i && in62 j then .ok (rangeL i (j - i).toNat) s else .no
              | _, _ => .no)
            cases e : evE Φ b s1 with
            | no => trivial
            | ex c fs s2 => rw [e] at h; exact h
            | ok w s2 =>
              rw [e] at h
              have h : TL s2 s := h
              show RT s (match v, w with
                | .d (.int i), .d (.int j) => if in62 i && in62 j then .ok (rangeL i (j - i).toNat) s2 else .no
                | _, _ => .no)
              split
              · exact rt_ite h
              · trivial
        | _ => trivial
      | _ => trivial
    | _ => trivial
  | _ => exact ⟨fun _ => trivial, fun _ => trivial, fun _ => trivial, fun _ => trivial, fun _ => trivial, fun _ => trivial, fun _ _ => trivial, fun xs s => by cases xs <;> trivial⟩
theorem rt_ok {α : Type} {s s' : S} {r : R α} {v : α} (h : RT s r) (e : r = .ok v s') : TL s' s := by rw [e] at h; exact h
theorem rt_ex {α : Type} {s s' : S} {r : R α} {c : Nat} {fs : List D} (h : RT s r) (e : r = .ex c fs s') : TL s' s := by rw [e] at h; exact h
variable {t : T} {s s' : S} {c : Nat} {fs : List D}
theorem tlE {v : Vl} (e : evE Φ t s = .ok v s') : TL s' s := rt_ok ((ta t).E s) e
theorem tlEx (e : evE Φ t s = .ex c fs s') : TL s' s := rt_ex ((ta t).E s) e
theorem tlV {v : List Vl} (e : evV Φ t s = .ok v s') : TL s' s := rt_ok ((ta t).V s) e
theorem tlVx (e : evV Φ t s = .ex c fs s') : TL s' s := rt_ex ((ta t).V s) e
theorem tlI {v : List D} (e : evI Φ t s = .ok v s') : TL s' s := rt_ok ((ta t).I s) e
theorem tlIx (e : evI Φ t s = .ex c fs s') : TL s' s := rt_ex ((ta t).I s) e
end MI

set_option Elab.async false
set_option linter.all false
set_option maxRecDepth 100000
set_option maxHeartbeats 4000000
/-! What the small evaluator's values and slots stand for; what a piece's reading is. -/
namespace MI
open PySem PySem.Spec PyProof.Rows L2

/-- the written part; where the functions and the classes of the text stand -/
structure G where
  K : PySem.W.Frag
  fa : Nat → Addr
  ca : Nat → Addr

/-- a list that can be read: told of, or the module's own -/
def SqP (K : PySem.W.Frag) (H : Hp) (a : Addr) (xs : List V) : Prop :=
  Rd H a (.lst xs) ∨ ∃ (its : Array Value) (n : Nat), K.lookup a = some { cls := .type "list", dict := none, data := .seq its n, slots := #[] } ∧ its.size ≤ sizeLine ∧ Vals xs its.toList
theorem SqP.sq {K : PySem.W.Frag} {H : Hp} {a : Addr} {xs : List V} (h : SqP K H a xs) : SqL K H a xs := by
  rcases h with h | ⟨its, n, h1, h2, h3⟩
  · exact .inl h
  · exact .inr ⟨_, its, n, h1, rfl, rfl, rfl, h2, h3⟩
mutual
inductive RD (g : G) (Z : Hp) : D → V → Prop where
  | non : RD g Z .non .non
  | bl (b : Bool) : RD g Z (.bl b) (.bl b)
  | int (i : Int) : RD g Z (.int i) (.int i)
  | str (x : Str) : RD g Z (.str x) (.str x)
  | ty (n : String) : RD g Z (.ty n) (.ty n)
  | fn (k : Nat) : RD g Z (.fn k) (.ref (g.fa k))
  | cl (k : Nat) : RD g Z (.cl k) (.ref (g.ca k))
  | lst {a : Addr} {xs : List D} {vs : List V} : SqP g.K Z a vs → RDs g Z xs vs → RD g Z (.lst xs) (.ref a)
  | tup {a : Addr} {xs : List D} {vs : List V} : SqT g.K Z a vs → RDs g Z xs vs → RD g Z (.tup xs) (.ref a)
inductive RDs (g : G) (Z : Hp) : List D → List V → Prop where
  | nil : RDs g Z [] []
  | cons {x : D} {v : V} {xs : List D} {vs : List V} : RD g Z x v → RDs g Z xs vs → RDs g Z (x :: xs) (v :: vs)
end

theorem rd_mono {H H' : Hp} {a : Addr} {u : HO} (e : Same H H') (h : Rd H a u) : Rd H' a u := by
  rcases h with h | ⟨o, h⟩
  · exact .inl (e a _ h)
  · exact .inr ⟨o, e a _ h⟩
theorem sqP_mono {K : PySem.W.Frag} {H H' : Hp} {a : Addr} {xs : List V} (e : Same H H') (h : SqP K H a xs) : SqP K H' a xs := h.imp (rd_mono e) id
theorem sqT_mono {K : PySem.W.Frag} {H H' : Hp} {a : Addr} {xs : List V} (e : Same H H') (h : SqT K H a xs) : SqT K H' a xs := by
  rcases h with (h | ⟨o, h⟩) | h
  · exact .inl (.inl (e a _ h))
  · exact .inl (.inr ⟨o, e a _ h⟩)
  · exact .inr h

section
variable {g : G} {Z Z' H H' : Hp}
mutual
theorem RD.mono (e : Same Z Z') : ∀ {x : D} {v : V}, RD g Z x v → RD g Z' x v
  | _, _, .non => .non
  | _, _, .bl b => .bl b
  | _, _, .int i => .int i
  | _, _, .str x => .str x
  | _, _, .ty n => .ty n
  | _, _, .fn k => .fn k
  | _, _, .cl k => .cl k
  | _, _, .lst h r => .lst (sqP_mono e h) (RDs.mono e r)
  | _, _, .tup h r => .tup (sqT_mono e h) (RDs.mono e r)
theorem RDs.mono (e : Same Z Z') : ∀ {xs : List D} {vs : List V}, RDs g Z xs vs → RDs g Z' xs vs
  | _, _, .nil => .nil
  | _, _, .cons h r => .cons (RD.mono e h) (RDs.mono e r)
end
theorem RDs.length : ∀ {xs : List D} {vs : List V}, RDs g Z xs vs → xs.length = vs.length
  | _, _, .nil => rfl
  | _, _, .cons _ r => by rw [List.length_cons, List.length_cons, RDs.length r]
theorem RDs.get : ∀ {xs : List D} {vs : List V} {i : Nat} {x : D}, RDs g Z xs vs → xs[i]? = some x → ∃ v, vs[i]? = some v ∧ RD g Z x v
  | _, _, _, _, .nil, e => by simp at e
  | _, _, 0, _, .cons r _, e => by simp at e; subst e; exact ⟨_, rfl, r⟩
  | _, _, i + 1, x, .cons _ t, e => by
    obtain ⟨u, h1, h2⟩ := RDs.get (i := i) (x := x) t (by simpa using e)
    exact ⟨u, by simpa using h1, h2⟩
theorem RDs.getV : ∀ {xs : List D} {vs : List V} {i : Nat} {v : V}, RDs g Z xs vs → vs[i]? = some v → ∃ x, xs[i]? = some x ∧ RD g Z x v
  | _, _, _, _, .nil, e => by simp at e
  | _, _, 0, _, .cons r _, e => by simp at e; subst e; exact ⟨_, rfl, r⟩
  | _, _, i + 1, v, .cons _ t, e => by
    obtain ⟨u, h1, h2⟩ := RDs.getV (i := i) (v := v) t (by simpa using e)
    exact ⟨u, by simpa using h1, h2⟩
theorem RDs.append : ∀ {xs ys : List D} {vs ws : List V}, RDs g Z xs vs → RDs g Z ys ws → RDs g Z (xs ++ ys) (vs ++ ws)
  | _, _, _, _, .nil, s => s
  | _, _, _, _, .cons r t, s => .cons r (RDs.append t s)
theorem RDs.take : ∀ {xs : List D} {vs : List V} (n : Nat), RDs g Z xs vs → RDs g Z (xs.take n) (vs.take n)
  | _, _, 0, _ => .nil
  | _, _, _ + 1, .nil => .nil
  | _, _, n + 1, .cons r t => .cons r (RDs.take n t)
theorem RDs.drop : ∀ {xs : List D} {vs : List V} (n : Nat), RDs g Z xs vs → RDs g Z (xs.drop n) (vs.drop n)
  | _, _, 0, r => r
  | _, _, _ + 1, .nil => .nil
  | _, _, n + 1, .cons _ t => RDs.drop n t
theorem RDs.set {x : D} {v : V} (r : RD g Z x v) : ∀ {xs : List D} {vs : List V} (i : Nat), RDs g Z xs vs → RDs g Z (xs.set i x) (vs.set i v)
  | _, _, _, .nil => .nil
  | _, _, 0, .cons _ t => .cons r t
  | _, _, i + 1, .cons q t => .cons q (RDs.set r i t)
theorem RDs.rep {xs : List D} {vs : List V} (r : RDs g Z xs vs) : ∀ n : Nat, RDs g Z (List.replicate n xs).flatten (List.replicate n vs).flatten
  | 0 => .nil
  | n + 1 => by
    rw [List.replicate_succ, List.replicate_succ, List.flatten_cons, List.flatten_cons]
    exact r.append (RDs.rep r n)
theorem RDs.empty {xs : List D} {vs : List V} (r : RDs g Z xs vs) : xs.isEmpty = vs.isEmpty := by cases r <;> rfl

/-! the data that the library compares -/
mutual
theorem RD.dp (e : Same Z H) : ∀ {x : D} {v : V} {d : PyData}, RD g Z x v → toPy x = some d → Dp g.K H v d
  | _, _, _, .non, h => by cases h; exact .non
  | _, _, _, .bl b, h => by cases h; exact .bl b
  | _, _, _, .int i, h => by cases h; exact .int i
  | _, _, _, .str x, h => by cases h; exact .str x
  | _, _, _, .ty _, h => by simp [toPy] at h
  | _, _, _, .fn _, h => by simp [toPy] at h
  | _, _, _, .cl _, h => by simp [toPy] at h
  | _, _, _, .lst (xs := xs) h r, q => by
    simp only [toPy, Option.map_eq_some_iff] at q
    obtain ⟨ds, q, rfl⟩ := q
    exact .lst (sqP_mono e h).sq (RDs.dp e r q)
  | _, _, _, .tup (xs := xs) h r, q => by
    simp only [toPy, Option.map_eq_some_iff] at q
    obtain ⟨ds, q, rfl⟩ := q
    exact .tup (sqT_mono e h) (RDs.dp e r q)
theorem RDs.dp (e : Same Z H) : ∀ {xs : List D} {vs : List V} {ds : List PyData}, RDs g Z xs vs → toPys xs = some ds → DpAll g.K H vs ds
  | _, _, _, .nil, h => by cases h; exact .nil
  | _, _, _, .cons (x := x) (xs := xs) h r, q => by
    simp only [toPys] at q
    split at q
    · rename_i d ds h1 h2
      cases q
      exact .cons (RD.dp e h h1) (RDs.dp e r h2)
    · cases q
end
end

/-! ### slots -/
def RV (g : G) (Z H : Hp) : Vl → V → Prop
  | .d x, v => RD g Z x v
  | .fz xs, v => RD g Z (.lst xs) v
  | .own _ xs, v => ∃ a vs, v = .ref a ∧ H a = some (.lst vs) ∧ Z a = none ∧ RDs g Z xs vs
def Own (s : S) (σ : L2.St) (a : Addr) : Prop := ∃ (i : Nat) (tag : Bool) (xs : List D), s[i]? = some (some (.own tag xs)) ∧ σ[i]? = some (some (.ref a))
structure Sr (g : G) (Z : Hp) (s : S) (σ : L2.St) (H : Hp) : Prop where
  len : s.length = σ.length
  sub : Same Z H
  rel : ∀ (i : Nat) (v : Vl), s[i]? = some (some v) → ∃ x, σ[i]? = some (some x) ∧ RV g Z H v x
  inj : ∀ (i j : Nat) (t u : Bool) (xs ys : List D) (a : Addr), s[i]? = some (some (.own t xs)) → s[j]? = some (some (.own u ys)) → σ[i]? = some (some (.ref a)) → σ[j]? = some (some (.ref a)) → i = j
/-- from Z, H to Z', H': what is told stays, the objects but the lists at O stay -/
structure Keep (Z H : Hp) (O : Addr → Prop) (Z' H' : Hp) : Prop where
  z : Same Z Z'
  h : ∀ a o, H a = some o → ¬ O a → H' a = some o
  n : ∀ a o, H a = some o → ¬ O a → Z a = none → Z' a = none
  f : ∀ a, H' a = none → H a = none
theorem Keep.trans {Z H Z1 H1 Z2 H2 : Hp} {O O1 : Addr → Prop} (a : Keep Z H O Z1 H1) (b : Keep Z1 H1 O1 Z2 H2) (o : ∀ x, O1 x → O x) : Keep Z H O Z2 H2 where
  z := a.z.trans b.z
  h := fun x u e k => b.h x u (a.h x u e k) fun q => k (o x q)
  n := fun x u e k z => b.n x u (a.h x u e k) (fun q => k (o x q)) (a.n x u e k z)
  f := fun x e => a.f x (b.f x e)
theorem Keep.refl {Z H : Hp} {O : Addr → Prop} : Keep Z H O Z H := ⟨Same.refl _, fun _ _ e _ => e, fun _ _ _ _ z => z, fun _ e => e⟩
theorem Keep.wide {Z H Z1 H1 : Hp} {O O1 : Addr → Prop} (a : Keep Z H O Z1 H1) (o : ∀ x, O x → O1 x) : Keep Z H O1 Z1 H1 :=
  ⟨a.z, fun x u e k => a.h x u e fun q => k (o x q), fun x u e k z => a.n x u e (fun q => k (o x q)) z, a.f⟩
/-- nothing that stood is changed -/
abbrev Ext (Z H Z' H' : Hp) : Prop := Keep Z H (fun _ => False) Z' H'
theorem Own.some {g : G} {Z H : Hp} {s : S} {σ : L2.St} {a : Addr} (st : Sr g Z s σ H) (o : Own s σ a) : ∃ vs, H a = some (.lst vs) ∧ Z a = none := by
  obtain ⟨i, t, xs, e1, e2⟩ := o
  obtain ⟨x, e3, b, vs, rfl, hb, zb, _⟩ := st.rel i _ e1
  rw [e2] at e3
  cases e3
  exact ⟨vs, hb, zb⟩
theorem Sr.ext {g : G} {Z H Z' H' : Hp} {s : S} {σ : L2.St} (st : Sr g Z s σ H) (k : Ext Z H Z' H') (sub : Same Z' H') : Sr g Z' s σ H' where
  len := st.len
  sub := sub
  inj := st.inj
  rel := fun i v e => by
    obtain ⟨x, e2, r⟩ := st.rel i v e
    refine ⟨x, e2, ?_⟩
    cases v with
    | d y => exact RD.mono k.z r
    | fz y => exact RD.mono k.z r
    | own t xs =>
      obtain ⟨a, vs, rfl, ha, za, rs⟩ := r
      exact ⟨a, vs, rfl, k.h a _ ha id, k.n a _ ha id za, rs.mono k.z⟩

/-! ### readings -/
/-- an expression's value: a list that nobody else holds is new since H0 -/
def RF (g : G) (H0 Z H : Hp) (v : Vl) (x : V) : Prop := RV g Z H v x ∧ ∀ t xs a, v = .own t xs → x = .ref a → H0 a = none
/-- what an exception of the text's own class carries -/
abbrev WXX := Value → Option Addr → L2.St → Hp → Prop
structure RX (g : G) (Z H : Hp) (fs : List D) (dd : Option Addr) : Prop where
  get : ∃ (d : Addr) (ps : List (Str × V)), dd = some d ∧ H d = some (.xd ps) ∧ RDs g Z fs (ps.map (·.2))
def Res (g : G) (W : WXX) (σ : L2.St) (Z H : Hp) (s : S) {α : Type} (r : R α) (C : α → S → Hp → Hp → Prop) : Prop := match r with
  | .ok v s' => ∀ Z' H', Keep Z H (Own s σ) Z' H' → Sr g Z' s' σ H' → (∀ a, Own s' σ a → Own s σ a) → C v s' Z' H'
  | .ex c fs s' => ∀ Z' H' dd, Keep Z H (Own s σ) Z' H' → Sr g Z' s' σ H' → (∀ a, Own s' σ a → Own s σ a) → RX g Z' H' fs dd → W (.ref (g.ca c)) dd σ H'
  | .no => False
section
variable {g : G} {W : WXX} {σ : L2.St} {Z H Z1 H1 : Hp} {s s1 : S} {α β : Type} {r : R α}
theorem Res.rebase {C : α → S → Hp → Hp → Prop} (h : Res g W σ Z H s r C) (k : Keep Z H (Own s σ) Z1 H1) (o : ∀ a, Own s1 σ a → Own s σ a) : Res g W σ Z1 H1 s1 r C := by
  cases r with
  | ok v s' => exact fun Z' H' k' st o' => h Z' H' (k.trans k' o) st fun a q => o a (o' a q)
  | ex c fs s' => exact fun Z' H' dd k' st o' rx => h Z' H' dd (k.trans k' o) st (fun a q => o a (o' a q)) rx
  | no => exact h
theorem Res.mono {C C' : α → S → Hp → Hp → Prop} (h : Res g W σ Z H s r C)
    (f : ∀ v s' Z' H', Keep Z H (Own s σ) Z' H' → Sr g Z' s' σ H' → (∀ a, Own s' σ a → Own s σ a) → C v s' Z' H' → C' v s' Z' H') : Res g W σ Z H s r C' := by
  cases r with
  | ok v s' => exact fun Z' H' k' st o' => f v s' Z' H' k' st o' (h Z' H' k' st o')
  | ex c fs s' => exact h
  | no => exact h
theorem Res.bind {f : α → S → R β} {C : β → S → Hp → Hp → Prop} (h : Res g W σ Z H s (r.bind f) C) : Res g W σ Z H s r fun v s1 Z1 H1 => Res g W σ Z1 H1 s1 (f v s1) C := by
  cases r with
  | ok v s' => exact fun Z' H' k' st o' => Res.rebase (r := f v s') h k' o'
  | ex c fs s' => exact h
  | no => exact h
/-- r.bind f, the other way round -/
theorem Res.bind' {f : α → S → R β} {C : β → S → Hp → Hp → Prop} {v : α} {s' : S} (e : r = .ok v s') (h : Res g W σ Z H s (r.bind f) C) : Res g W σ Z H s (f v s') C := by
  subst e
  exact h
theorem Res.now {v : α} {C : α → S → Hp → Hp → Prop} (h : Res g W σ Z H s (.ok v s) C) (st : Sr g Z s σ H) : C v s Z H := h Z H .refl st fun _ q => q
end
/-- an expression's reading -/
def rdE (g : G) (W : WXX) (Φ : Call) (t : T) : TE := fun σ H Q => ∃ Z s, Sr g Z s σ H ∧ Res g W σ Z H s (evE Φ t s) fun v _ Z' H' => ∀ x, RF g H Z' H' v x → Q x H'
theorem Sr.freeze {g : G} {Z H : Hp} {s : S} {σ : L2.St} {a : Addr} {vs : List V} (st : Sr g Z s σ H) (ha : H a = some (.lst vs)) (za : Z a = none) (no : ¬ Own s σ a) : Sr g (upd Z a (.lst vs)) s σ H := by
  have e : Same Z (upd Z a (.lst vs)) := fun b o q => by rw [upd_ne (ne_of_none q za)]; exact q
  refine ⟨st.len, fun b o q => ?_, fun i v q => ?_, st.inj⟩
  · by_cases hb : b = a
    · subst hb; rw [upd_same] at q; cases q; exact ha
    · rw [upd_ne hb] at q; exact st.sub b o q
  · obtain ⟨x, e2, r⟩ := st.rel i v q
    refine ⟨x, e2, ?_⟩
    cases v with
    | d y => exact RD.mono e r
    | fz y => exact RD.mono e r
    | own t xs =>
      obtain ⟨b, ws, rfl, hb, zb, rs⟩ := r
      have hne : b ≠ a := by rintro rfl; exact no ⟨i, t, xs, q, e2⟩
      exact ⟨b, ws, rfl, hb, by rw [upd_ne hne]; exact zb, rs.mono e⟩
/-- an operand: its datum -/
theorem rdE_of {g : G} {W : WXX} {Φ : Call} {t : T} {σ : L2.St} {Z H : Hp} {s : S} {Q : VK} (st : Sr g Z s σ H)
    (h : Res g W σ Z H s (evE Φ t s) fun v s' Z' H' => ∀ x, RD g Z' v.dat x → Q x H') : rdE g W Φ t σ H Q := by
  refine ⟨Z, s, st, ?_⟩
  cases e : evE Φ t s with
  | no => rw [e] at h; exact h
  | ex c fs s' => rw [e] at h; exact h
  | ok v s' =>
    rw [e] at h
    intro Z' H' k st' o x rf
    obtain ⟨rv, fr⟩ := rf
    cases v with
    | d y => exact h Z' H' k st' o x rv
    | fz y => exact h Z' H' k st' o x rv
    | own t xs =>
      obtain ⟨a, vs, rfl, ha, za, rs⟩ := rv
      have hn : H a = none := fr t xs a rfl rfl
      have no : ¬ Own s' σ a := fun q => by
        obtain ⟨ws, hw, _⟩ := Own.some st (o a q)
        rw [hn] at hw; cases hw
      have e2 : Same Z' (upd Z' a (.lst vs)) := fun b u q => by rw [upd_ne (ne_of_none q za)]; exact q
      refine h _ H' ⟨k.z.trans e2, k.h, fun b u q nb zb => ?_, k.f⟩ (st'.freeze ha za no) o _ (.lst (.inl (.inl upd_same)) (rs.mono e2))
      have hne : b ≠ a := by rintro rfl; rw [hn] at q; cases q
      rw [upd_ne hne]
      exact k.n b u q nb zb
/-- an operand that is then used with others -/
theorem rdE_op {g : G} {W : WXX} {Φ : Call} {t : T} {σ : L2.St} {Z H : Hp} {s : S} {Q : VK} {β : Type} {f : Vl → S → R β} {C : β → S → Hp → Hp → Prop} (st : Sr g Z s σ H) (h : Res g W σ Z H s ((evE Φ t s).bind f) C)
    (k : ∀ v s' Z' H' x, Keep Z H (Own s σ) Z' H' → Sr g Z' s' σ H' → (∀ a, Own s' σ a → Own s σ a) → RD g Z' v.dat x → Res g W σ Z' H' s' (f v s') C → Q x H') : rdE g W Φ t σ H Q :=
  rdE_of st (h.bind.mono fun v s' Z' H' kp st' o q x rx => k v s' Z' H' x kp st' o rx q)
theorem PE.mono {X : Cx} {e : Expr} {t t' : TE} (h : PE X e t) (m : ∀ σ H Q, t' σ H Q → t σ H Q) : PE X e t' := ⟨fun pins s σ H Q I q => h.run pins s σ H Q I (m σ H Q q)⟩
end MI

set_option Elab.async false
set_option linter.all false
set_option maxRecDepth 100000
set_option maxHeartbeats 4000000
/-! Operators, comparisons, items, slices, truth: by values. -/
namespace MI
open PySem PySem.Spec PyProof.Rows L2

/-- what an operation on data asks and gives -/
def rB (g : G) (f : D → D → Option Vl) : R2 := fun x y H Q => ∃ Z a b r, Same Z H ∧ RD g Z a x ∧ RD g Z b y ∧ f a b = some r ∧ ∀ Z' H' v, Ext Z H Z' H' → Same Z' H' → RF g H Z' H' r v → Q v H'
/-- a value that needs no heap -/
theorem RF.flat {g : G} {H0 Z H : Hp} {x : D} {v : V} (r : RD g Z x v) : RF g H0 Z H (.d x) v := ⟨r, fun _ _ _ e => nomatch e⟩
theorem Ext.lay {Z H : Hp} {p : Addr} {o : HO} (hp : H p = none) : Ext Z H Z (upd H p o) where
  z := Same.refl _
  h := fun a u e _ => by rw [upd_ne (ne_of_none e hp)]; exact e
  n := fun _ _ _ _ z => z
  f := fun a e => by
    by_cases h : a = p
    · subst h; exact hp
    · rwa [upd_ne h] at e
theorem Same.lay {Z H : Hp} {p : Addr} {o : HO} (s : Same Z H) (hp : H p = none) : Same Z (upd H p o) := fun a u e => by
  have e' := s a u e
  rw [upd_ne (ne_of_none e' hp)]
  exact e'
theorem Same.none {Z H : Hp} {p : Addr} (s : Same Z H) (hp : H p = Option.none) : Z p = Option.none := s.free hp
theorem RF.own {g : G} {Z H : Hp} {p : Addr} {xs : List D} {vs : List V} (s : Same Z H) (hp : H p = none) (r : RDs g Z xs vs) : RF g H Z (upd H p (.lst vs)) (.own false xs) (.ref p) :=
  ⟨⟨p, vs, rfl, upd_same, Same.none s hp, r⟩, fun _ _ a _ e => by cases e; exact hp⟩
/-- a new tuple: told from now on -/
theorem Ext.layT {Z H : Hp} {p : Addr} {o : HO} (s : Same Z H) (hp : H p = none) : Ext Z H (upd Z p o) (upd H p o) where
  z := fun a u e => by rw [upd_ne (ne_of_none e (Same.none s hp))]; exact e
  h := (Ext.lay (Z := Z) (o := o) hp).h
  n := fun a u e _ z => by rw [upd_ne (ne_of_none e hp)]; exact z
  f := (Ext.lay (Z := Z) (o := o) hp).f
theorem Same.layT {Z H : Hp} {p : Addr} {o : HO} (s : Same Z H) (hp : H p = Option.none) : Same (upd Z p o) (upd H p o) := fun a u e => by
  by_cases h : a = p
  · subst h; rwa [upd_same] at e ⊢
  · rw [upd_ne h] at e ⊢; exact s a u e
theorem RF.tup {g : G} {Z H : Hp} {p : Addr} {xs : List D} {vs : List V} (s : Same Z H) (hp : H p = none) (r : RDs g Z xs vs) : RF g H (upd Z p (.tup vs)) (upd H p (.tup vs)) (.d (.tup xs)) (.ref p) :=
  RF.flat (.tup (.inl (.inl upd_same)) (r.mono (Ext.layT s hp).z))

section
variable {X : Cx} {g : G}
theorem RD.i {Z : Hp} {i : Int} {v : V} (r : RD g Z (.int i) v) : v = .int i := by cases r; rfl
theorem RD.l {Z : Hp} {xs : List D} {v : V} (r : RD g Z (.lst xs) v) : ∃ a vs, v = .ref a ∧ SqP g.K Z a vs ∧ RDs g Z xs vs := by
  cases r with
  | lst h q => exact ⟨_, _, rfl, h, q⟩
theorem RD.t {Z : Hp} {xs : List D} {v : V} (r : RD g Z (.tup xs) v) : ∃ a vs, v = .ref a ∧ SqT g.K Z a vs ∧ RDs g Z xs vs := by
  cases r with
  | tup h q => exact ⟨_, _, rfl, h, q⟩
theorem W64_eq : W64 = 18446744073709551616 := by decide
theorem fitsL_le {n : Nat} (h : fitsL n = true) : n ≤ sizeLine := by
  have := of_decide_eq_true h
  rw [sizeLine_eq]
  exact this
theorem w4_log {j : Int} (h : j.natAbs < W4) : j.natAbs.log2 < 4000 := by
  unfold W4 at h
  exact PySem.Flt.log2_lt_of (Nat.zero_lt_succ 3999) h
theorem small_of {i : Int} (h : i.natAbs < W64) : -(2 ^ 64) < i ∧ i < 2 ^ 64 := by
  rw [W64_eq] at h
  constructor <;> omega
theorem rdL {pins : List (Addr × Obj)} {s : Shared} {σ : L2.St} {H : Hp} {a : Addr} {xs : List V} (I : Inv X pins σ H s) (h : SqP X.K H a xs) : xs.length ≤ sizeLine ∧ ∃ (its : List Value) (n : Nat), Vals xs its ∧ IsL s.heap a its.toArray n := by
  rcases h with h | ⟨its, n, h1, h2, h3⟩
  · obtain ⟨z, its, n, r, e⟩ := h.ok I.hok
    exact ⟨z, its, n, r, e⟩
  · have l := h3.length
    simp only [Array.length_toList] at l
    exact ⟨by omega, its.toList, n, h3, by simpa using I.kIn a _ h1⟩
/-- two lists joined, read only -/
def rCatL (K : PySem.W.Frag) : R2 := fun x y H Q => ∃ a b xs ys, x = .ref a ∧ y = .ref b ∧ SqP K H a xs ∧ SqP K H b ys ∧ xs.length + ys.length ≤ sizeLine ∧ ∀ p, H p = none → Q (.ref p) (upd H p (.lst (xs ++ ys)))
theorem op_catL : OpR X (binaryOp .Add) (rCatL X.K) := by
  rintro pins s σ H x y v u Q I rx ry ⟨a, b, xs, ys, rfl, rfl, ha, hb, hz, q⟩
  cases rx
  cases ry
  obtain ⟨_, its, n1, r, e1⟩ := rdL I ha
  obtain ⟨_, it2, n2, r2, e2⟩ := rdL I hb
  have l1 := r.length
  have l2 := r2.length
  refine PySem.P.add_list e1 e2 ?_ (by simp only [List.size_toArray]; omega)
  have ea : its.toArray ++ it2.toArray = (its ++ it2).toArray := by simp
  rw [ea]
  exact ⟨.ref _, _, I.lnew (t' := s.toks) (r.append r2) (by simp only [List.length_append]; omega), rfl, q _ I.fresh⟩

/-- a list taken k times, read only -/
def rRepL (K : PySem.W.Frag) : R2 := fun x y H Q => ∃ a k xs, x = .ref a ∧ y = .int k ∧ SqP K H a xs ∧ -(2 ^ 63) ≤ k ∧ k < 2 ^ 63 ∧ xs.length * k.toNat ≤ sizeLine ∧ ∀ p, H p = none → Q (.ref p) (upd H p (.lst (List.replicate k.toNat xs).flatten))
theorem op_repL : OpR X (binaryOp .Mult) (rRepL X.K) := by
  rintro pins s σ H x y v u Q I rx ry ⟨a, k, xs, rfl, rfl, ha, h1, h2, hz, q⟩
  cases rx
  obtain ⟨t, rfl⟩ := ry
  obtain ⟨_, its, n, r, e⟩ := rdL I ha
  have len := r.length
  have z1 : its.toArray.size * k.toNat ≤ sizeLine := by
    rw [List.size_toArray, ← len]
    exact hz
  have cap : ¬ its.toArray.size * k.toNat > (2 ^ 63 - 1) / 8 := by
    have q : (sizeLine : Nat) ≤ (2 ^ 63 - 1) / 8 := by decide
    omega
  have fit : ¬ (!Builtin.List.listFitsIndex k) = true := by simp [fitsIndex_both h1 h2]
  have lng : ¬ Builtin.List.listTooLong (its.toArray.size * k.toNat) = true := by
    rw [notLongL z1]
    decide
  have all : ∀ m : Nat, List.foldl (fun p q => p ++ q) #[] (List.replicate m its.toArray) = (List.replicate m its).flatten.toArray := fun m => by
    simpa only [List.nil_append] using foldl_rep its m []
  have nw : List.foldl (fun p q => p ++ q) #[] (List.replicate (if its.toArray.isEmpty = true then 0 else k.toNat) its.toArray) = (List.replicate k.toNat its).flatten.toArray := by
    rw [all]
    cases its with
    | nil => simp
    | cons w ws => rw [if_neg (by simp)]
  have met := AutoListH.list___mul___list_int_3 a its.toArray n k t fit cap lng
  refine wpAny_binaryOp_repeat_ref (T := "list") (U := "int") (by decide) ⟨_, e, rfl⟩ (typeIs_int · k t) noFill_list_mul F.fills_int_mul F.slot_int_rmul repeat_list F.slot_int_index.lookup ?_
  refine call_meets F.slot_int_rmul (typeIs_int s k t) F.entry_int_rmul (F.args_int_rmul_2 _ _) (int___rmul___int_list k t a its.toArray n) ⟨e, rfl, ⟨_, e, rfl⟩, ?_⟩
  refine call_meets F.slot_list_mul ⟨_, e, rfl⟩ F.entry_list_mul (F.args_list_mul_2 _ _) met ⟨e, ?_⟩
  rw [nw]
  exact ⟨.ref _, _, I.lnew (t' := s.toks) (r.rep k.toNat) (by rw [PyProof.Rows.lm_len_rep_flat, Nat.mul_comm]; exact hz), rfl, q _ I.fresh⟩

theorem rB_int {op : Operator} {f : D → D → Option Vl} {h : Int → Int → Int} {C : Int → Int → Prop} (ho : OpR X (binaryOp op) (rI C fun i j => .int (h i j))) :
    ∀ {pins : List (Addr × Obj)} {s : Shared} {σ : L2.St} {H Z : Hp} {v u : Value} {Q : VK} {i j : Int} {x y : V} {r : Vl}, Inv X pins σ H s → RelV x v → RelV y u → Same Z H → RD g Z (.int i) x → RD g Z (.int j) y → C i j → r = .d (.int (h i j)) →
      (∀ Z' H' v, Ext Z H Z' H' → Same Z' H' → RF g H Z' H' r v → Q v H') → wpAny (model X.prog X.w) X.A (binaryOp op v u) (EP X pins σ Q) X.xe s := by
  intro pins s σ H Z v u Q i j x y r I rx ry sb dx dy c hr q
  cases dx
  cases dy
  subst hr
  exact ho pins s σ H _ _ v u Q I rx ry ⟨i, j, rfl, rfl, c, q Z H _ .refl sb (.flat (.int _))⟩
theorem rI_of {X : Cx} {f : Value → Value → Sem Value} {k : Int → Int → Int} (h : OpR X f (rI0 fun i j => .int (k i j))) : OpR X f (rI (fun _ _ => True) fun i j => .int (k i j)) := by
  rintro pins s σ H x y v u Q I rx ry ⟨i, j, e1, e2, _, q⟩
  exact h pins s σ H x y v u Q I rx ry ⟨i, j, e1, e2, q⟩
theorem op_mulD : OpR X (binaryOp .Mult) (rI (fun i j => mulOk i j = true) fun i j => .int (i * j)) := by
  rintro pins s σ H x y v u Q I rx ry ⟨i, j, e1, e2, c, q⟩
  unfold mulOk at c
  simp only [Bool.or_eq_true, Bool.and_eq_true, decide_eq_true_eq] at c
  rcases c with (c | c) | ⟨c, d⟩
  · exact op_mul pins s σ H x y v u Q I rx ry ⟨i, j, e1, e2, .inl (small_of c), q⟩
  · exact op_mul pins s σ H x y v u Q I rx ry ⟨i, j, e1, e2, .inr (small_of c), q⟩
  · unfold WM at c d
    exact op_mulW pins s σ H x y v u Q I rx ry ⟨i, j, e1, e2, wide_mul c d (Nat.zero_lt_succ _) (Nat.zero_lt_succ _) (by decide), q⟩
theorem op_divD : OpR X (binaryOp .FloorDiv) (rI (fun _ j => divOk j = true) fun i j => .int (if 0 < j then i / j else i.fdiv j)) := by
  have base : OpR X (binaryOp .FloorDiv) (rI (fun _ j => divOk j = true) fun i j => .int (i.fdiv j)) := opI fun i j _ _ _ _ _ c q => by
    unfold divOk at c
    simp only [Bool.and_eq_true, decide_eq_true_eq] at c
    exact floordiv_int c.1 q (.inl (PyProof.noPylong_of_log2 (Nat.lt_of_lt_of_le (w4_log c.2) (by decide))))
  rintro pins s σ H x y v u Q I rx ry ⟨i, j, e1, e2, c, q⟩
  refine base pins s σ H x y v u Q I rx ry ⟨i, j, e1, e2, c, ?_⟩
  replace q : Q (.int (if 0 < j then i / j else i.fdiv j)) H := q
  show Q (.int (i.fdiv j)) H
  by_cases h : 0 < j
  · rw [if_pos h] at q
    rwa [Int.fdiv_eq_ediv_of_nonneg i (by omega)]
  · rwa [if_neg h] at q
theorem op_modD : OpR X (binaryOp .Mod) (rI (fun _ j => j ≠ 0) fun i j => .int (if 0 < j then i % j else i.fmod j)) := by
  rintro pins s σ H x y v u Q I rx ry ⟨i, j, e1, e2, c, q⟩
  refine op_modN pins s σ H x y v u Q I rx ry ⟨i, j, e1, e2, c, ?_⟩
  replace q : Q (.int (if 0 < j then i % j else i.fmod j)) H := q
  show Q (.int (i.fmod j)) H
  by_cases h : 0 < j
  · rw [if_pos h] at q
    rwa [Int.fmod_eq_emod_of_nonneg i (by omega)]
  · rwa [if_neg h] at q
theorem op_bin (hK : g.K = X.K) (op : Operator) : OpR X (binaryOp op) (rB g (bin op)) := by
  rintro pins s σ H x y v u Q I rx ry ⟨Z, a, b, r, sb, da, db, e, q⟩
  unfold bin at e
  split at e
  · exact rB_int (f := bin .Add) (rI_of op_add) I rx ry sb da db trivial (Option.some.inj e).symm q
  · exact rB_int (f := bin .Sub) (rI_of op_sub) I rx ry sb da db trivial (Option.some.inj e).symm q
  · split at e
    · rename_i c
      exact rB_int (f := bin .Mult) op_mulD I rx ry sb da db c (Option.some.inj e).symm q
    · cases e
  · split at e
    · rename_i c
      exact rB_int (f := bin .FloorDiv) op_divD I rx ry sb da db c (Option.some.inj e).symm q
    · cases e
  · split at e
    · cases e
    · rename_i c
      exact rB_int (f := bin .Mod) op_modD I rx ry sb da db c (Option.some.inj e).symm q
  · split at e
    · rename_i c
      simp only [Bool.and_eq_true, decide_eq_true_eq] at c
      exact rB_int (f := bin .Pow) (op_pow) I rx ry sb da db ⟨c.1.1, c.1.2, by rw [← W64_eq.trans (by decide : 18446744073709551616 = 2 ^ 64)]; exact c.2⟩ (Option.some.inj e).symm q
    · cases e
  · split at e
    · rename_i xs ys c
      cases e
      obtain ⟨a1, vs, rfl, h1, r1⟩ := da.l
      obtain ⟨a2, ws, rfl, h2, r2⟩ := db.l
      have l := fitsL_le c
      rw [r1.length, r2.length] at l
      exact op_catL pins s σ H _ _ v u Q I rx ry ⟨a1, a2, vs, ws, rfl, rfl, hK ▸ sqP_mono sb h1, hK ▸ sqP_mono sb h2, l, fun p hp => q _ _ _ (.lay hp) (Same.lay sb hp) (.own sb hp (r1.append r2))⟩
    · cases e
  · split at e
    · rename_i xs ys c
      cases e
      obtain ⟨a1, vs, rfl, h1, r1⟩ := da.t
      obtain ⟨a2, ws, rfl, h2, r2⟩ := db.t
      have l := fitsL_le c
      rw [r1.length, r2.length] at l
      have h1' : SqT X.K H a1 vs := hK ▸ sqT_mono sb h1
      have h2' : SqT X.K H a2 ws := hK ▸ sqT_mono sb h2
      refine op_catA pins s σ H _ _ v u Q I rx ry ⟨a1, a2, vs, ws, rfl, rfl, h1', h2', l, fun e => ?_, fun _ e => ?_, fun _ _ p hp => q _ _ _ (.layT sb hp) (Same.layT sb hp) (.tup sb hp (r1.append r2))⟩
      · subst e
        cases r1
        exact q Z H _ .refl sb (.flat (.tup h2 r2))
      · subst e
        cases r2
        rw [List.append_nil] at q
        exact q Z H _ .refl sb (.flat (.tup h1 r1))
    · cases e
  · split at e
    · rename_i xs k c
      cases e
      simp only [Bool.and_eq_true, decide_eq_true_eq] at c
      obtain ⟨a1, vs, rfl, h1, r1⟩ := da.l
      cases db
      have l := fitsL_le c.2
      rw [r1.length] at l
      exact op_repL pins s σ H _ _ v u Q I rx ry ⟨a1, k, vs, rfl, rfl, hK ▸ sqP_mono sb h1, c.1.1, c.1.2, l, fun p hp => q _ _ _ (.lay hp) (Same.lay sb hp) (.own sb hp (r1.rep _))⟩
    · cases e
  · cases e

/-! ### comparisons -/
def vb (b : Bool) : Vl := .d (.bl b)
def cmpV (op : CmpOp) (a b : D) : Option Vl := (cmp op a b).map vb
theorem RF.b {H0 Z H : Hp} (b : Bool) : RF g H0 Z H (vb b) (.bl b) := .flat (.bl b)
theorem op_eqV (hK : g.K = X.K) (hu : X.A.units + 64 < cLine) {pins : List (Addr × Obj)} {s : Shared} {σ : L2.St} {H Z : Hp} {x y : V} {v u : Value} {Q : VK} {a b : D} {k : Bool} (I : Inv X pins σ H s) (rx : RelV x v) (ry : RelV y u) (sb : Same Z H)
    (da : RD g Z a x) (db : RD g Z b y) (e : eqD a b = some k) : (Q (.bl k) H → wpAny (model X.prog X.w) X.A (compareOp .Eq v u) (EP X pins σ Q) X.xe s) ∧ (Q (.bl (!k)) H → wpAny (model X.prog X.w) X.A (compareOp .NotEq v u) (EP X pins σ Q) X.xe s) := by
  unfold eqD at e
  split at e
  · cases da
    cases db
    rename_i i j
    cases e
    have w : (decide ((V.int i) = V.int j)) = decide (i = j) := by
      by_cases h : i = j
      · subst h; simp
      · have : ¬ V.int i = V.int j := fun q => h (V.int.inj q)
        rw [decide_eq_false h, decide_eq_false this]
    constructor
    · intro q
      exact op_eq pins s σ H _ _ v u Q I rx ry ⟨rfl, by rw [w]; exact q⟩
    · intro q
      exact op_ne pins s σ H _ _ v u Q I rx ry ⟨rfl, by rw [w]; exact q⟩
  · cases da
    cases db
    rename_i i j
    cases e
    have w : (decide ((V.str i) = V.str j)) = decide (i = j) := by
      by_cases h : i = j
      · subst h; simp
      · have : ¬ V.str i = V.str j := fun q => h (V.str.inj q)
        rw [decide_eq_false h, decide_eq_false this]
    constructor
    · intro q
      exact op_eq pins s σ H _ _ v u Q I rx ry ⟨rfl, by rw [w]; exact q⟩
    · intro q
      exact op_ne pins s σ H _ _ v u Q I rx ry ⟨rfl, by rw [w]; exact q⟩
  · split at e
    · rename_i d1 d2 e1 e2
      split at e
      · rename_i sh
        cases e
        rw [Bool.and_eq_true] at sh
        have p1 : Dp X.K H x d1 := hK ▸ RD.dp sb da e1
        have p2 : Dp X.K H y d2 := hK ▸ RD.dp sb db e2
        exact ⟨fun q => op_eqD hu pins s σ H x y v u Q I rx ry ⟨d1, d2, p1, p2, sh.1, sh.2, q⟩, fun q => op_neD hu pins s σ H x y v u Q I rx ry ⟨d1, d2, p1, p2, sh.1, sh.2, q⟩⟩
      · cases e
    · cases e
theorem op_cmpI {op : CmpOp} {k : Int → Int → Bool} (h : OpR X (compareOp op) (rI0 fun i j => .bl (k i j))) {pins : List (Addr × Obj)} {s : Shared} {σ : L2.St} {H Z : Hp} {x y : V} {v u : Value} {Q : VK} {a b : D} {r : Vl} (I : Inv X pins σ H s) (rx : RelV x v) (ry : RelV y u)
    (sb : Same Z H) (da : RD g Z a x) (db : RD g Z b y) (e : (match a, b with | .int i, .int j => some (k i j) | _, _ => none).map vb = some r) (q : ∀ Z' H' v, Ext Z H Z' H' → Same Z' H' → RF g H Z' H' r v → Q v H') :
    wpAny (model X.prog X.w) X.A (compareOp op v u) (EP X pins σ Q) X.xe s := by
  split at e
  · cases e
    cases da
    cases db
    exact h pins s σ H _ _ v u Q I rx ry ⟨_, _, rfl, rfl, q Z H _ .refl sb (.b _)⟩
  · cases e
theorem op_cmp (hK : g.K = X.K) (hu : X.A.units + 64 < cLine) (op : CmpOp) : OpR X (compareOp op) (rB g (cmpV op)) := by
  rintro pins s σ H x y v u Q I rx ry ⟨Z, a, b, r, sb, da, db, e, q⟩
  unfold cmpV at e
  cases op with
  | Eq =>
    obtain ⟨k, e1, e2⟩ := Option.map_eq_some_iff.mp e
    subst e2
    exact (op_eqV hK hu I rx ry sb da db e1).1 (q Z H _ .refl sb (.b _))
  | NotEq =>
    obtain ⟨k, e1, e2⟩ := Option.map_eq_some_iff.mp e
    subst e2
    obtain ⟨k2, e3, e4⟩ := Option.map_eq_some_iff.mp (show (eqD a b).map not = some k from e1)
    subst e4
    exact (op_eqV hK hu I rx ry sb da db e3).2 (q Z H _ .refl sb (.b _))
  | Lt => exact op_cmpI op_lt I rx ry sb da db e q
  | LtE => exact op_cmpI op_le I rx ry sb da db e q
  | Gt => exact op_cmpI op_gt I rx ry sb da db e q
  | GtE => exact op_cmpI op_ge I rx ry sb da db e q
  | Is =>
    obtain ⟨k, e1, e2⟩ := Option.map_eq_some_iff.mp e
    subst e2
    have q' := q Z H _ .refl sb (.b _)
    unfold cmp at e1
    split at e1 <;> first | cases e1 | skip
    all_goals (try (split at e1 <;> cases e1 <;> cases db <;> cases da <;> exact op_isN pins s σ H _ _ v u Q I rx ry ⟨rfl, q'⟩))
    all_goals contradiction
  | IsNot =>
    obtain ⟨k, e1, e2⟩ := Option.map_eq_some_iff.mp e
    subst e2
    have q' := q Z H _ .refl sb (.b _)
    unfold cmp at e1
    split at e1 <;> first | cases e1 | skip
    all_goals (try (split at e1 <;> cases e1 <;> cases db <;> cases da <;> exact op_notN pins s σ H _ _ v u Q I rx ry ⟨rfl, q'⟩))
    all_goals contradiction
  | In => cases e
  | NotIn => cases e

/-! ### truth, items, slices -/
theorem truV {Z H : Hp} {x : D} {v : V} {k : Bool} (hK : g.K = X.K) (sb : Same Z H) (r : RD g Z x v) (e : tru x = some k) : TruV X.K v H k := by
  cases r with
  | non => cases e; rfl
  | bl b => cases e; rfl
  | int i => cases e; rfl
  | lst h rs => cases e; exact .inl ⟨_, hK ▸ (sqP_mono sb h).sq, by rw [rs.empty]⟩
  | tup h rs => cases e; exact .inr (.inl ⟨_, hK ▸ sqT_mono sb h, by rw [rs.empty]⟩)
  | str x => cases e
  | ty n => cases e
  | fn n => cases e
  | cl n => cases e
theorem atI_of {Z : Hp} {xs : List D} {vs : List V} {i : Int} {x : D} (r : RDs g Z xs vs) (e : at_ xs i = some x) : ∃ v, atI vs i = some v ∧ RD g Z x v := by
  have l := r.length
  unfold at_ at e
  unfold atI ixN
  by_cases h : 0 ≤ i
  · rw [if_pos h] at e
    have lt : i.toNat < xs.length := (List.getElem?_eq_some_iff.mp e).1
    obtain ⟨v, e2, q⟩ := r.get e
    refine ⟨v, ?_, q⟩
    rw [if_pos h, if_pos (by omega)]
    exact e2
  · rw [if_neg h] at e
    split at e
    · rename_i h2
      obtain ⟨v, e2, q⟩ := r.get e
      refine ⟨v, ?_, q⟩
      rw [if_neg h, if_pos (by omega), ← l]
      exact e2
    · cases e
/-- an item of a datum that can be read -/
theorem ixD (hK : g.K = X.K) {Z H : Hp} {a b x : D} {v u : V} {Q : VK} (sb : Same Z H) (ra : RD g Z a v) (rb : RD g Z b u) (e : index a b = some x) (q : ∀ w, RD g Z x w → Q w H) : rIx X.K v u H Q := by
  unfold index at e
  split at e
  · obtain ⟨p, vs, rfl, h, rs⟩ := ra.l
    cases rb
    obtain ⟨w, e2, r⟩ := atI_of rs e
    exact .inl ⟨p, vs, _, w, rfl, rfl, hK ▸ (sqP_mono sb h).sq, e2, q w r⟩
  · obtain ⟨p, vs, rfl, h, rs⟩ := ra.t
    cases rb
    obtain ⟨w, e2, r⟩ := atI_of rs e
    exact .inr (.inl ⟨p, vs, _, w, rfl, rfl, hK ▸ sqT_mono sb h, e2, q w r⟩)
  · cases e
theorem clip_eq (n d : Nat) (o : Option Int) : clip n d o = HT.sIx n d o := by cases o <;> rfl
theorem cutR {Z : Hp} {xs : List D} {vs : List V} (r : RDs g Z xs vs) (lo hi : Option Int) : RDs g Z (cut xs lo hi) (cutV vs lo hi) := by
  unfold cut cutV
  rw [r.length, clip_eq, clip_eq]
  exact (r.drop _).take _
/-- a slice -/
def rSl (g : G) : V → Option Int → Option Int → Hp → VK → Prop := fun x lo hi H Q => ∃ Z a r, Same Z H ∧ RD g Z a x ∧ slice a lo hi = some r ∧ ∀ Z' H' v, Ext Z H Z' H' → Same Z' H' → RF g H Z' H' r v → Q v H'
theorem sl_any (hK : g.K = X.K) : SlR X (rSl g) := by
  rintro pins s σ H x v vl vu lo hi sl Q I rx hs p1 p2 ⟨Z, a, r, sb, ra, e, q⟩
  unfold slice at e
  split at e
  · cases e
    obtain ⟨p, vs, rfl, h, rs⟩ := ra.l
    exact sl_list pins s σ H _ v vl vu lo hi sl Q I rx hs p1 p2 ⟨p, vs, rfl, hK ▸ (sqP_mono sb h).sq, fun b hb => q _ _ _ (.lay hb) (Same.lay sb hb) (.own sb hb (cutR rs lo hi))⟩
  · cases e
    obtain ⟨p, vs, rfl, h, rs⟩ := ra.t
    refine sl_tupA pins s σ H _ v vl vu lo hi sl Q I rx hs p1 p2 ⟨p, vs, rfl, hK ▸ sqT_mono sb h, fun w => ?_, fun _ b hb => q _ _ _ (.layT sb hb) (Same.layT sb hb) (.tup sb hb (cutR rs lo hi))⟩
    have k := cutR rs lo hi
    have e : cutV vs lo hi = vs := by
      unfold cutV
      rw [w.1, w.2, List.drop_zero, Nat.sub_zero, List.take_length]
    rw [e] at k
    exact q Z H _ .refl sb (.flat (.tup h k))
  · cases e
end
end MI

set_option Elab.async false
set_option linter.all false
set_option maxRecDepth 100000
set_option maxHeartbeats 4000000
/-! Calls: how arguments bind; what a def keeps; a def's call. -/
namespace MI
open PySem PySem.Spec PyProof.Rows L2

theorem forIn_is {τ α : Type} (nx : α → τ → τ) : ∀ (l : List α) (f : α → τ → Sem (ForInStep τ)) (i : τ), (∀ k a, l[k]? = some a → f a ((l.take k).foldl (fun s x => nx x s) i) = pure (.yield (nx a ((l.take k).foldl (fun s x => nx x s) i)))) →
    forIn l i f = (pure (l.foldl (fun s x => nx x s) i) : Sem τ)
  | [], f, i, _ => by rw [List.forIn_nil]; rfl
  | a :: r, f, i, h => by
    rw [List.forIn_cons, show f a i = pure (.yield (nx a i)) from h 0 a rfl]
    show forIn r (nx a i) f = _
    rw [forIn_is nx r f (nx a i) fun k b e => h (k + 1) b e]
    rfl
theorem lookup_zip {α : Type} {n : Str} : ∀ {ks : List Str} {ws : List α}, ws.length = ks.length → n ∈ ks → (ks.zip ws).lookup n = ws[ks.idxOf n]?
  | [], _, _, h => by simp at h
  | k :: ks, [], e, _ => by simp at e
  | k :: ks, w :: ws, e, h => by
    rw [List.zip_cons_cons, List.lookup_cons, List.idxOf_cons]
    by_cases q : n = k
    · subst q; simp
    · have h1 : (n == k) = false := by simpa using q
      have h2 : (k == n) = false := by simpa using fun z => q z.symm
      rw [h1, h2]
      have := lookup_zip (n := n) (ks := ks) (ws := ws) (by simpa using e) (by simpa [q] using h)
      simpa using this
theorem lookup_none {α : Type} {n : Str} : ∀ {l : List (Str × α)}, (∀ p ∈ l, p.1 ≠ n) → l.lookup n = none
  | [], _ => rfl
  | (k, v) :: r, h => by
    have h1 : (n == k) = false := by simpa using fun z => h (k, v) List.mem_cons_self z.symm
    rw [List.lookup_cons, h1]
    exact lookup_none fun p hp => h p (List.mem_cons_of_mem _ hp)
theorem lookup_app {α : Type} {n : Str} : ∀ {l m : List (Str × α)}, (l ++ m).lookup n = (l.lookup n).or (m.lookup n)
  | [], _ => by simp
  | (k, v) :: r, m => by
    rw [List.cons_append, List.lookup_cons, List.lookup_cons]
    cases n == k
    · exact lookup_app
    · rfl
def plainArgs (as : List Arg) : Arguments := { posonlyargs := [], args := as, vararg := none, kwonlyargs := [], kw_defaults := [], kwarg := none, defaults := [] }
theorem filterMap_zip {α β : Type} (f : α → Option β) : ∀ (ps : List α) (vs : List β), vs.length = ps.length → (∀ (i : Nat) p v, ps[i]? = some p → vs[i]? = some v → f p = some v) → (ps.filterMap fun n => (f n).map fun v => (n, v)) = ps.zip vs
  | [], [], _, _ => rfl
  | [], _ :: _, e, _ => by simp at e
  | _ :: _, [], e, _ => by simp at e
  | p :: ps, v :: vs, e, h => by
    rw [List.filterMap_cons, h 0 p v rfl rfl]
    show (p, v) :: _ = _
    rw [filterMap_zip f ps vs (by simpa using e) fun i q w a b => h (i + 1) q w a b]
    rfl
theorem bind_args {fd : FuncData} {as : List Arg} {ps ks : List Str} {us ws vs : List Value} (hp : fd.params = plainArgs as) (ha : as.map (·.arg) = ps) (hd : fd.defaults = .none) (hz : ps.length = us.length + ks.length) (hw : ws.length = ks.length) (hk : ∀ k ∈ ks, k ∈ ps)
    (nd : ks.Nodup) (fr : ∀ k ∈ ks, ∀ (i : Nat), i < us.length → ps[i]? ≠ some k) (hv : vs.length = ps.length) (hl : ∀ (i : Nat) p v, ps[i]? = some p → vs[i]? = some v → ((ps.zip us) ++ (ks.zip ws)).lookup p = some v) : bindArgs fd ⟨us, ks.zip ws⟩ = pure (ps.zip vs) := by
  unfold bindArgs
  rw [hp, hd]
  simp only [plainArgs, List.map_nil, List.nil_append, ha]
  have fold : ∀ (l : List (Str × Value)) (s : List (Str × Value) × List (Str × Value)), l.foldl (fun s kv => (s.1 ++ [kv], s.2)) s = (s.1 ++ l, s.2) := fun l => by
    induction l with
    | nil => intro s; simp
    | cons a r ih => intro s; rw [List.foldl_cons, ih]; simp
  rw [forIn_is (fun (kv : Str × Value) (s : List (Str × Value) × List (Str × Value)) => (s.1 ++ [kv], s.2))]
  · rw [fold]
    have l1 : ¬ (decide (us.length > ps.length) && (none : Option Arg).isNone) = true := by simp; omega
    have some_of : ∀ p ∈ ps, ((ps.zip us ++ ks.zip ws).lookup p).isNone = false := fun p hp => by
      obtain ⟨i, hi⟩ := List.getElem?_of_mem hp
      have : i < vs.length := by rw [hv]; exact (List.getElem?_eq_some_iff.mp hi).1
      rw [hl i p _ hi (List.getElem?_eq_getElem this)]
      rfl
    have e2 : (List.filter (fun n => ((ps.zip us ++ ks.zip ws).lookup n).isNone) ps) = [] := by
      rw [List.filter_eq_nil_iff]
      intro p hp
      rw [some_of p hp]
      decide
    have e3 : (ps.filterMap fun n => (List.lookup n (ps.zip us ++ ks.zip ws)).map fun x => (n, x)) = ps.zip vs := filterMap_zip _ ps vs hv hl
    have q0 : seqItems? Value.none = pure none := rfl
    show ((do let x ← seqItems? Value.none; _) : Sem _) = _
    rw [q0]
    simp only [pure_bind, Option.getD_none, List.drop_nil, List.length_nil, Nat.sub_zero, List.take_length, List.append_nil, e2, e3, Nat.zero_sub]
    rw [if_neg l1, if_neg (by decide), List.zip_nil_right, List.forIn_nil]
    simp only [pure_bind, List.forIn_nil, List.isEmpty_nil, Bool.not_true, Bool.false_eq_true, if_false, e3]
  · intro k a e
    rw [fold]
    have hm : a ∈ ks.zip ws := List.mem_of_getElem? e
    obtain ⟨n, v⟩ := a
    have hn : n ∈ ks := (List.of_mem_zip hm).1
    have c1 : ps.contains n = true := by simpa using hk n hn
    have no : (List.lookup n (ps.zip us ++ (ks.zip ws).take k)).isSome = false := by
      rw [lookup_none]
      · rfl
      · intro p hp z
        rcases List.mem_append.mp hp with q | q
        · obtain ⟨i, hi⟩ := List.getElem?_of_mem q
          have hi2 := List.getElem?_zip_eq_some.mp hi
          refine fr n hn i (List.getElem?_eq_some_iff.mp hi2.2).1 ?_
          rw [hi2.1, z]
        · obtain ⟨i, hi⟩ := List.getElem?_of_mem q
          rw [List.getElem?_take] at hi
          split at hi
          · rename_i lt
            have a1 := (List.getElem?_zip_eq_some.mp hi).1
            have a2 := (List.getElem?_zip_eq_some.mp e).1
            have a1' : ks[i]? = some n := by rw [a1, z]
            have := (List.getElem?_inj (List.getElem?_eq_some_iff.mp a1').1 nd).mp (a1'.trans a2.symm)
            omega
          · cases hi
    simp only [c1, no, Bool.true_or, if_true]
    rfl

/-! ### a def's promise, where no repr runs around it -/
structure FnG (P : Program) (w : World) (K : PySem.W.Frag) (mg : Str → Option Value) (base : Heap) (k : Nat) (f : Addr) (fd : FuncData) (ps : List Str) (sp : Sp) : Prop where
  len : ∀ vs H Q E, sp vs H Q E → vs.length = ps.length
  run : ∀ (A : Around) (outer : List Env) (s : Shared) (H : Hp) (args : Args) (us : List Value) (vs : List V) (Q : VK) (E : XK), Room k A → A.guards = some [] → Env0 P w K mg base A outer s H → BindsTo s fd args (ps.zip us) →
    Vals vs us → sp vs H Q E → codeAny (model P w) A (.call (.ref f) args) (CR (L2.CX P w) outer P w H s Q E) s
theorem FnG.up {P : Program} {w : World} {K : PySem.W.Frag} {mg : Str → Option Value} {base : Heap} {j k : Nat} {f : Addr} {fd : FuncData} {ps : List Str} {sp : Sp} (F : FnG P w K mg base j f fd ps sp) (h : j ≤ k) : FnG P w K mg base k f fd ps sp :=
  ⟨F.len, fun A o s H a us vs Q E hr => F.run A o s H a us vs Q E (hr.mono h)⟩
theorem fnG_of {P : Program} {w : World} {K : PySem.W.Frag} {mg : Str → Option Value} {base : Heap} {k : Nat} {f : Addr} {name qual : Str} {params : Arguments} {body : List Stmt} {scope : Scope} {dV kV doc pm cdv ct oc : Value} {an od : Option Addr} {osl : Array (Option Value)}
    {N ps : List Str} {sp : Sp} (lk : K.lookup f = some ⟨oc, od, .func (PySem.W.fnOf name qual params body scope dV kV doc pm an cdv ct), osl⟩) (cd : PySem.W.codeIn K cdv qual = true) (S : FnScope N ps scope) (len : ∀ vs H Q E, sp vs H Q E → vs.length = ps.length)
    (hb : ∀ (A : Around) (outer : List Env) (s : Shared) (H : Hp) (vs : List V) (Q : VK) (E : XK), Room k (A.deeper (envOfC qual scope s.heap.objs.size f cdv)) → (A.deeper (envOfC qual scope s.heap.objs.size f cdv)).guards = some [] → sp vs H Q E →
      ∃ t, PSs (cxOf (L2.CX P w) P w K mg base N qual scope f cdv A outer s H E) body t ∧ t { nx := fun _ H' => Q .non H', rt := Q } (start N vs) H) : FnG P w K mg base (k + 1) f (PySem.W.fnOf name qual params body scope dV kV doc pm an cdv ct) ps sp where
  len := len
  run := fun A outer s H args us vs Q E hr hgd e0 hbd r hsp => by
    have hl := len _ _ _ _ hsp
    have KX : K.In s.heap := e0.mod.kin.keeps fun b o e => (e0.bs b o e).1
    have kinds : ∀ y ∈ ps.zip us, scope.names.lookup y.1 = some .local ∨ (scope.names.lookup y.1 = some .cell ∧ ((cellsFrom (s.heap.objs.size + 1) scope.names []).lookup y.1).isSome = true) := by
      rintro ⟨n, v⟩ hy
      exact (S.par n (List.of_mem_zip hy).1).imp id fun q => ⟨q, PySem.W.cellsFrom_some _ _ _ (.inl q)⟩
    refine codeAny_call_function hr.depth (KX _ _ lk) rfl S.co S.gen rfl (PySem.W.codeRec_of KX cd) (hbd _ _ _ _ ?_)
    refine wpAny_newFunctionEnv_cells S.kind kinds fun env he s1 x => ?_
    subst he
    have lim : s.heap.NoLimit := e0.mod.nolimit.keeps fun b o e => (e0.bs b o e).1
    refine ⟨lim.keeps x.toInCall.keep, codeAny_func ?_⟩
    obtain ⟨t, ht, hq⟩ := hb A outer s H vs Q E (hr.deeper _) hgd hsp
    refine wpAny_mono (ht.run [] s1 (start N vs) H _ (inv_start S hr.hd e0 hl r x) hq) (fun fl s' hs => ?_) fun _ _ hs => hs
    cases fl with
    | next =>
      obtain ⟨_, H', J, q⟩ := hs
      exact ⟨V.non, H', J.os, J.bare, J.base, J.hok, rfl, q⟩
    | ret u =>
      obtain ⟨v, _, H', J, rv, q⟩ := hs
      exact ⟨v, H', J.os, J.bare, J.base, J.hok, rv, q⟩
    | brk => exact hs.elim fun _ z => z.elim fun _ z => False.elim z.2
    | cont => exact hs.elim fun _ z => z.elim fun _ z => False.elim z.2

/-! ### no star among arguments -/
def noStar : Expr → Bool
  | .Starred _ _ => false
  | _ => true
theorem star_cons {e : Expr} (h : noStar e = true) (es : List Expr) (env : Env) : starEach (e :: es) env = (false, eval e env) :: starEach es env := by
  cases e <;> first | rfl | cases h
theorem star_any : ∀ {es : List Expr}, es.all noStar = true → ∀ (pos : Pos) (env : Env), (backTo pos (starEach es env)).any (·.1) = false
  | [], _, _, _ => rfl
  | e :: es, h, pos, env => by
    rw [List.all_cons, Bool.and_eq_true] at h
    rw [star_cons h.1]
    show (false || (backTo pos (starEach es env)).any (·.1)) = false
    rw [star_any h.2]
    rfl
/-- the keywords' names -/
def kwNames : List Keyword → Option (List Str)
  | [] => some []
  | ⟨some n, _, _⟩ :: r => (kwNames r).map (n :: ·)
  | ⟨none, _, _⟩ :: _ => none
theorem kw_facts : ∀ {kws : List Keyword} {ks : List Str}, kwNames kws = some ks → ∀ (pos : Pos) (env : Env), (backToKw pos (keywordEach kws env)).all (·.1.isSome) = true ∧ (backToKw pos (keywordEach kws env)).filterMap (·.1) = ks ∧ (backToKw pos (keywordEach kws env)).any (·.1.isNone) = false
  | [], ks, h, _, _ => by cases h; exact ⟨rfl, rfl, rfl⟩
  | ⟨none, _, _⟩ :: _, _, h, _, _ => by cases h
  | ⟨some n, v, p⟩ :: r, ks, h, pos, env => by
    obtain ⟨k2, h2, rfl⟩ := Option.map_eq_some_iff.mp h
    obtain ⟨a, b, c⟩ := kw_facts h2 pos env
    refine ⟨?_, ?_, ?_⟩
    · show (true && (backToKw pos (keywordEach r env)).all (·.1.isSome)) = true
      rw [a]; rfl
    · show n :: (backToKw pos (keywordEach r env)).filterMap (·.1) = _
      rw [b]
    · show (false || (backToKw pos (keywordEach r env)).any (·.1.isNone)) = false
      rw [c]; rfl
/-- f(e, .., k = e, ..) of a def of the text; E: what is wanted of an exception, at the slots as they stand -/
def tCallG (sp : Sp) (gv : List V → List V → List V) (E : L2.St → XK) (t tk : TA) : TE := fun σ H Q => t σ H fun vs H1 => tk σ H1 fun zs H2 => sp (gv vs zs) H2 Q (E σ)
section
variable {X : Cx} {k : Nat} {f : Addr} {fd : FuncData} {ps ks : List Str} {sp : Sp} {E : L2.St → XK} {x : Str} {p pos : Pos} {es : List Expr} {kws : List Keyword} {t tk : TA} {gV : List V → List V → List V} {gU : List Value → List Value → List Value}
theorem run_G {pins : List (Addr × Obj)} {σ : L2.St} {H : Hp} {s : Shared} {Q : VK} {us ws : List Value} {vs zs : List V} (F : FnG X.prog X.w X.K X.mg X.base k f fd ps sp) (hr : Room k X.A) (gd : X.A.guards = some []) (hb : (gU us ws).length = ps.length → BindsTo s fd ⟨us, ks.zip ws⟩ (ps.zip (gU us ws)))
    (rel : Vals (gV vs zs) (gU us ws)) (hx : PassesAt (L2.CX X.prog X.w) X σ (E σ)) (I : Inv X pins σ H s) (h : sp (gV vs zs) H Q (E σ)) : wpAny (model X.prog X.w) X.A (call (.ref f) us (ks.zip ws)) (EP X pins σ Q) X.xe s := by
  have hl : (gU us ws).length = ps.length := by rw [← rel.length]; exact F.len _ _ _ _ h
  refine wpAny_call (codeAny_mono (F.run X.A X.stack s H ⟨us, ks.zip ws⟩ _ _ Q (E σ) hr gd I.env0 (hb hl) rel h) fun r s' hq => ?_)
  cases r with
  | error e => exact hx pins H s e s' I hq
  | ok fl => cases fl with
    | ret u => exact I.after hq
    | next => exact hq.elim
    | brk => exact hq.elim
    | cont => exact hq.elim
theorem pe_G (F : FnG X.prog X.w X.K X.mg X.base k f fd ps sp) (hr : Room k X.A) (gd : X.A.guards = some []) (hg : Gl X x) (hm : X.mg x = some (.ref f)) (hk : PySem.W.keepIn X.K (.ref f) = true) (db : (x == ("__debug__" : Str)) = false) (hx : ∀ σ, PassesAt (L2.CX X.prog X.w) X σ (E σ))
    (hb : ∀ (s : Shared) (us ws : List Value), us.length = es.length → ws.length = ks.length → BindsTo s fd ⟨us, ks.zip ws⟩ (ps.zip (gU us ws))) (rel : ∀ vs zs us ws, Vals vs us → Vals zs ws → Vals (gV vs zs) (gU us ws))
    (lt : ∀ σ H Q, t σ H Q → t σ H fun vs H1 => vs.length = es.length ∧ Q vs H1) (lk : ∀ σ H Q, tk σ H Q → tk σ H fun vs H1 => vs.length = ks.length ∧ Q vs H1)
    (h0 : es = [] → ∀ σ H Q, t σ H Q → Q [] H) (ha : PA X es t) (hkw : PK X kws tk) (ns : es.all noStar = true) (kn : kwNames kws = some ks) : PE X (.Call (.Name x p) es kws pos) (tCallG sp gV E t tk) := by
  obtain ⟨k1, k2, k3⟩ := kw_facts kn pos X.env
  refine ⟨fun pins s σ H Q I h => wpAny_Call_Name_kw (ld_glob I hg hm ?_ db)⟩
  have behind : ∀ (us : List Value) (vs : List V) (s1 : Shared) (H1 : Hp), Inv X pins σ H1 s1 → Vals vs us → vs.length = es.length → tk σ H1 (fun zs H2 => sp (gV vs zs) H2 Q (E σ)) → wpAny (model X.prog X.w) X.A (evalAll ((backToKw pos (keywordEach kws X.env)).map (·.2)))
      (fun ws s2 => X.K.In s2.heap ∧ wpAny (model X.prog X.w) X.A (call (.ref f) ([] ++ us) (((backToKw pos (keywordEach kws X.env)).filterMap (·.1)).zip ws)) (EP X pins σ Q) X.xe s2) X.xe s1 := fun us vs s1 H1 I1 r ln q => by
    refine thn (hkw.run pos pins s1 σ H1 _ I1 (lk _ _ _ q)) fun ws s2 ⟨zs, H2, I2, rz, ln2, q2⟩ => ⟨I2.kIn, ?_⟩
    rw [k2]
    exact run_G F hr gd (fun _ => hb s2 us ws (r.length.symm.trans ln) (rz.length.symm.trans ln2)) (rel _ _ _ _ r rz) (hx σ) I2 q2
  cases es with
  | nil => exact PySem.W.callWith_KW0 (h₀ := X.base) I.ok.mod.kin hk k1 (behind [] [] s H I .nil rfl (h0 rfl σ H _ h)) (by show (false || _) = false; rw [k3]; rfl)
  | cons e es =>
    have n2 := ns
    rw [List.all_cons, Bool.and_eq_true] at n2
    refine PySem.W.callWith_KW (h₀ := X.base) I.ok.mod.kin hk k1 ?_ (by rw [star_any ns, k3]; rfl) (star_cons n2.1 es _)
    exact thn (ha.run pos pins s σ H _ I (lt _ _ _ h)) fun us s1 ⟨vs, H1, I1, r, ln, q⟩ => behind us vs s1 H1 I1 r ln q
end
end MI

set_option Elab.async false
set_option linter.all false
set_option maxRecDepth 100000
set_option maxHeartbeats 4000000
/-! Expressions: each construct's reading by the small evaluator. -/
namespace MI
open PySem PySem.Spec PyProof.Rows L2

/-- how a call goes: the arguments are slots of the callee -/
def spF (g : G) (Φ : Call) (i : Nat) : Sp := fun vs H Q E => ∃ (Z : Hp) (args : List Vl), Sr g Z (args.map some) (vs.map some) H ∧ match Φ i args with
  | .ok (v, os) _ => ∀ Z' H' x, Keep Z H (Own (args.map some) (vs.map some)) Z' H' → Sr g Z' os (vs.map some) H' → (∀ a, Own os (vs.map some) a → Own (args.map some) (vs.map some) a) → RF g H Z' H' v x → Q x H'
  | .ex c fs os => ∀ Z' H' dd, Keep Z H (Own (args.map some) (vs.map some)) Z' H' → Sr g Z' os (vs.map some) H' → (∀ a, Own os (vs.map some) a → Own (args.map some) (vs.map some) a) → RX g Z' H' fs dd → E (.ref (g.ca c)) dd H'
  | .no => False
structure Sg where
  name : Str
  ps : List Str
/-- where a piece of the text stands: its slots, its scope, the text's defs, the module's other names -/
structure Cc where
  N : List Str
  sc : Scope
  sg : List Sg
  gl : List (Str × D)
def bns : List Str := ["len", "abs", "max", "min", "int", "isinstance", "divmod", "repr", "all", "any", "sum", "sorted", "list", "tuple", "bool", "str", "range", "enumerate", "zip", "dict", "set", "reversed"]
structure OkX (g : G) (c : Cc) (W : WXX) (Φ : Call) (kk : Nat) (X : Cx) : Prop where
  hK : g.K = X.K
  hN : X.N = c.N
  nd : c.N.Nodup
  hs : X.env.scope = c.sc
  cm : X.calm = true
  hr : Room kk X.A
  gd : X.A.guards = some []
  tk : L2.Takes X W
  po : PassesOwn (model X.prog X.w) X.A X.env X.xe
  fnm : ∀ i S, c.sg[i]? = some S → ∃ (fd : FuncData) (as : List Arg), X.mg S.name = some (.ref (g.fa i)) ∧ PySem.W.keepIn X.K (.ref (g.fa i)) = true ∧ fd.params = plainArgs as ∧ as.map (·.arg) = S.ps ∧ fd.defaults = .none ∧ S.ps.Nodup ∧ FnG X.prog X.w X.K X.mg X.base kk (g.fa i) fd S.ps (spF g Φ i)
  glm : ∀ x d, (x, d) ∈ c.gl → ∃ (u : Value) (v : V), X.mg x = some u ∧ RelV v u ∧ RD g (fun _ => none) d v
  blt : ∀ x ∈ bns, X.mg x = none

section
variable {g : G} {c : Cc} {W : WXX} {Φ : Call} {kk : Nat} {X : Cx}
theorem emp_same {H : Hp} : Same (fun _ => none) H := fun _ _ e => nomatch e

/-! ### names, constants -/
theorem Keep.same {Z H Z' : Hp} {O : Addr → Prop} (z : Same Z Z') (n : ∀ a o, H a = some o → ¬ O a → Z a = none → Z' a = none) : Keep Z H O Z' H := ⟨z, fun _ _ e _ => e, n, fun _ e => e⟩
/-- a slot set to what its value still is -/
theorem Sr.put {Z H : Hp} {s : S} {σ : L2.St} {i : Nat} {v : Vl} {x : V} (st : Sr g Z s σ H) (hx : σ[i]? = some (some x)) (r : RV g Z H v x) (ow : ∀ t xs, v ≠ .own t xs) : Sr g Z (s.set i (some v)) σ H ∧ ∀ a, Own (s.set i (some v)) σ a → Own s σ a := by
  have key : ∀ (j : Nat) (t : Bool) (xs : List D), (s.set i (some v))[j]? = some (some (.own t xs)) → s[j]? = some (some (.own t xs)) := fun j t xs e => by
    by_cases hij : i = j
    · subst hij
      have hl : i < s.length := by
        have := (List.getElem?_eq_some_iff.mp e).1
        simpa using this
      rw [List.getElem?_set_self hl] at e
      cases e
      exact absurd rfl (ow t xs)
    · rwa [List.getElem?_set_ne hij] at e
  refine ⟨⟨by simpa using st.len, st.sub, fun j w e => ?_, fun j k t u xs ys a e1 e2 e3 e4 => st.inj j k t u xs ys a (key _ _ _ e1) (key _ _ _ e2) e3 e4⟩, fun a ⟨j, t, xs, e1, e2⟩ => ⟨j, t, xs, key _ _ _ e1, e2⟩⟩
  by_cases hij : i = j
  · subst hij
    have hl : i < s.length := by
      have := (List.getElem?_eq_some_iff.mp e).1
      simpa using this
    rw [List.getElem?_set_self hl] at e
    cases e
    exact ⟨x, hx, r⟩
  · rw [List.getElem?_set_ne hij] at e
    exact st.rel j w e
/-- an own list handed on -/
theorem rdV_own {Z H : Hp} {s : S} {σ : L2.St} {i : Nat} {t : Bool} {xs : List D} {w : Vl} (st : Sr g Z s σ H) (e : s[i]? = some (some (.own t xs))) (hw : w = .fz xs ∨ w = .d (.lst xs)) :
    ∃ x Z', σ[i]? = some (some x) ∧ Keep Z H (Own s σ) Z' H ∧ Sr g Z' (s.set i (some w)) σ H ∧ (∀ a, Own (s.set i (some w)) σ a → Own s σ a) ∧ RF g H Z' H (.d (.lst xs)) x := by
  obtain ⟨x, hx, a, vs, rfl, ha, za, rs⟩ := st.rel i _ e
  have hne : ∀ t xs, w ≠ .own t xs := by rcases hw with rfl | rfl <;> exact fun _ _ q => nomatch q
  have hl : i < s.length := (List.getElem?_eq_some_iff.mp e).1
  -- the slot forgotten first: the list is nobody's own then
  have st0 : Sr g Z (s.set i none) σ H := by
    have key : ∀ (j : Nat) (v : Vl), (s.set i none)[j]? = some (some v) → i ≠ j ∧ s[j]? = some (some v) := fun j v q => by
      by_cases hij : i = j
      · subst hij
        rw [List.getElem?_set_self hl] at q
        cases q
      · rw [List.getElem?_set_ne hij] at q
        exact ⟨hij, q⟩
    exact ⟨by simpa using st.len, st.sub, fun j v q => st.rel j v (key _ _ q).2, fun j k t u xs ys b e1 e2 e3 e4 => st.inj j k t u xs ys b (key _ _ e1).2 (key _ _ e2).2 e3 e4⟩
  have no : ¬ Own (s.set i none) σ a := by
    rintro ⟨j, u, ys, q1, q2⟩
    by_cases hij : i = j
    · subst hij
      rw [List.getElem?_set_self hl] at q1
      cases q1
    · rw [List.getElem?_set_ne hij] at q1
      exact hij (st.inj i j t u xs ys a e q1 hx q2)
  have st1 := st0.freeze ha za no
  have e2 : Same Z (upd Z a (.lst vs)) := fun b u q => by rw [upd_ne (ne_of_none q za)]; exact q
  have rd : RD g (upd Z a (.lst vs)) (.lst xs) (.ref a) := .lst (.inl (.inl upd_same)) (rs.mono e2)
  have rw' : RV g (upd Z a (.lst vs)) H w (.ref a) := by rcases hw with rfl | rfl <;> exact rd
  have st2 := (st1.put (v := w) hx rw' hne).1
  have o2 := (st1.put (v := w) hx rw' hne).2
  rw [List.set_set] at st2 o2
  refine ⟨_, _, hx, .same e2 fun b o q nb zb => ?_, st2, fun b q => ?_, .flat rd⟩
  · have hb : b ≠ a := by rintro rfl; exact nb ⟨i, t, xs, e, hx⟩
    rw [upd_ne hb]; exact zb
  · obtain ⟨j, u, ys, q1, q2⟩ := o2 b q
    by_cases hij : i = j
    · subst hij
      rw [List.getElem?_set_self hl] at q1
      cases q1
    · rw [List.getElem?_set_ne hij] at q1
      exact ⟨j, u, ys, q1, q2⟩
theorem rdV_ok {Z H : Hp} {s : S} {σ : L2.St} {i : Nat} {v : Vl} {s' : S} (st : Sr g Z s σ H) (e : rdV i s = .ok v s') : ∃ x Z', σ[i]? = some (some x) ∧ Keep Z H (Own s σ) Z' H ∧ Sr g Z' s' σ H ∧ (∀ a, Own s' σ a → Own s σ a) ∧ RF g H Z' H v x := by
  unfold rdV at e
  split at e
  · rename_i d hd
    cases e
    obtain ⟨x, hx, r⟩ := st.rel _ _ hd
    exact ⟨x, Z, hx, .refl, st, fun _ q => q, .flat r⟩
  · rename_i xs hd
    cases e
    exact rdV_own st hd (.inl rfl)
  · rename_i xs hd
    cases e
    exact rdV_own st hd (.inr rfl)
  · rename_i xs hd
    cases e
    obtain ⟨x, hx, r⟩ := st.rel _ _ hd
    exact ⟨x, Z, hx, .refl, st, fun _ q => q, .flat r⟩
  · cases e
theorem rdV_ex {i : Nat} {s s' : S} {k : Nat} {fs : List D} : rdV i s ≠ .ex k fs s' := fun e => by
  unfold rdV at e
  split at e <;> cases e
theorem d_var {i : Nat} {x : Str} {pos : Pos} (O : OkX g c W Φ kk X) (hN : c.N[i]? = some x) (hv : Vis c.sc x) (hd : (x == ("__debug__" : Str)) = false) (hcd : (x == ("__classdict__" : Str)) = false) : PE X (.Name x pos) (rdE g W Φ (.var i)) := by
  refine PE.mono (pe_var (i := i) (by rw [O.hN]; exact hN) (by rw [O.hs]; exact hv) hd hcd) fun σ H Q h => ?_
  obtain ⟨Z, s, st, h⟩ := h
  have h : Res g W σ Z H s (rdV i s) fun v x Z' H' => ∀ (x : V), RF g H Z' H' v x → Q x H' := h
  cases e : rdV i s with
  | ok v s' =>
    rw [e] at h
    obtain ⟨y, Z', e1, k, st', o, rf⟩ := rdV_ok st e
    exact ⟨y, e1, h Z' H k st' o y rf⟩
  | ex c fs s' => exact absurd e rdV_ex
  | no => rw [e] at h; exact h.elim
theorem d_con {e : Expr} {d : D} {v : V} (h : PE X e (tC v)) (r : RD g (fun _ => none) d v) : PE X e (rdE g W Φ (.con d)) := by
  refine PE.mono h fun σ H Q q => ?_
  obtain ⟨Z, s, st, q⟩ := q
  have q : Res g W σ Z H s (.ok (.d d) s) fun v x Z' H' => ∀ (x : V), RF g H Z' H' v x → Q x H' := q
  exact (q.now st) v (.flat (r.mono emp_same))

/-! ### operators -/
/-- the fresh value's reading, one step on -/
theorem RF.back {Z0 H0 Z1 H1 Z H : Hp} {O : Addr → Prop} {v : Vl} {x : V} (k : Keep Z0 H0 O Z1 H1) (r : RF g H1 Z H v x) : RF g H0 Z H v x := ⟨r.1, fun t xs a e1 e2 => k.f _ (r.2 t xs a e1 e2)⟩
/-- the end of a reading: a result that an operation on data gives -/
theorem fin_ofO {σ : L2.St} {H Z2 H2 : Hp} {s2 : S} {o : Option Vl} {Q : VK} (st2 : Sr g Z2 s2 σ H2) (kf : ∀ a, H2 a = none → H a = none) (h : Res g W σ Z2 H2 s2 (R.ofO o s2) fun v _ Z' H' => ∀ x, RF g H Z' H' v x → Q x H') :
    ∃ r, o = some r ∧ ∀ Z' H' u, Ext Z2 H2 Z' H' → Same Z' H' → RF g H2 Z' H' r u → Q u H' := by
  cases o with
  | none => exact h.elim
  | some r => exact ⟨r, rfl, fun Z' H' u k sb rf => h Z' H' (k.wide fun _ z => z.elim) (st2.ext k sb) (fun _ q => q) u ⟨rf.1, fun t xs a e1 e2 => kf _ (rf.2 t xs a e1 e2)⟩⟩
theorem Res.nowE {σ : L2.St} {H0 Z H : Hp} {s : S} {v : Vl} {Q : VK} {x : V} (h : Res g W σ Z H s (.ok v s) fun v _ Z' H' => ∀ x, RF g H0 Z' H' v x → Q x H') (st : Sr g Z s σ H) (rf : RF g H0 Z H v x) : Q x H := h Z H .refl st (fun _ q => q) x rf
theorem d_bin {a b : Expr} {ta tb : T} {op : Operator} {pos : Pos} (O : OkX g c W Φ kk X) (ha : PE X a (rdE g W Φ ta)) (hb : PE X b (rdE g W Φ tb)) : PE X (.BinOp a op b pos) (rdE g W Φ (.bin op ta tb)) := by
  refine PE.mono (pe_op (op_bin O.hK op) ha hb) fun σ H Q ⟨Z, s, st, h⟩ => ?_
  refine rdE_op (f := fun x s => (evE Φ tb s).bind fun y s => R.ofO (bin op x.dat y.dat) s) st h fun v s1 Z1 H1 x k1 st1 o1 rx h1 => ?_
  refine rdE_op (f := fun y s => R.ofO (bin op v.dat y.dat) s) st1 h1 fun w s2 Z2 H2 y k2 st2 o2 ry h2 => ?_
  obtain ⟨r, e, q⟩ := fin_ofO st2 (fun a e => k1.f a (k2.f a e)) h2
  exact ⟨Z2, _, _, r, st2.sub, rx.mono k2.z, ry, e, q⟩
theorem d_neg {a : Expr} {ta : T} {pos : Pos} (ha : PE X a (rdE g W Φ ta)) : PE X (.UnaryOp .USub a pos) (rdE g W Φ (.neg ta)) := by
  refine PE.mono (pe_un un_neg ha) fun σ H Q ⟨Z, s, st, h⟩ => ?_
  refine rdE_op (f := (fun x s => match x with | .d (.int i) => .ok (.d (.int (-i))) s | _ => .no : Vl → S → R Vl)) st h fun v s1 Z1 H1 x k1 st1 o1 rx h1 => ?_
  split at h1
  · cases rx
    exact ⟨_, rfl, (h1.now st1) _ (.flat (.int _))⟩
  · exact h1.elim
theorem d_cmp {a b : Expr} {ta tb : T} {op : CmpOp} {pos : Pos} (O : OkX g c W Φ kk X) (ha : PE X a (rdE g W Φ ta)) (hb : PE X b (rdE g W Φ tb)) (hm : behindInMarks op b = false) : PE X (.Compare a [op] [b] pos) (rdE g W Φ (.cmp op ta tb)) := by
  refine PE.mono (pe_cmpR (op_cmp O.hK O.hr.units op) ha hb hm) fun σ H Q ⟨Z, s, st, h⟩ => ?_
  refine rdE_op (f := fun x s => (evE Φ tb s).bind fun y s => R.ofO (cmpV op x.dat y.dat) s) st h fun v s1 Z1 H1 x k1 st1 o1 rx h1 => ?_
  refine rdE_op (f := fun y s => R.ofO (cmpV op v.dat y.dat) s) st1 h1 fun w s2 Z2 H2 y k2 st2 o2 ry h2 => ?_
  obtain ⟨r, e, q⟩ := fin_ofO st2 (fun a e => k1.f a (k2.f a e)) h2
  exact ⟨Z2, _, _, r, st2.sub, rx.mono k2.z, ry, e, q⟩

theorem d_nt {a : Expr} {ta : T} {pos : Pos} (O : OkX g c W Φ kk X) (ha : PE X a (rdE g W Φ ta)) : PE X (.UnaryOp .Not a pos) (rdE g W Φ (.nt ta)) := by
  refine PE.mono (pe_notT ha) fun σ H Q ⟨Z, s, st, h⟩ => ?_
  refine rdE_op (f := (fun x s => R.ofO ((tru x.dat).map fun b => .d (.bl (!b))) s : Vl → S → R Vl)) st h fun v s1 Z1 H1 x k1 st1 o1 rx h1 => ?_
  cases e : tru v.dat with
  | none => rw [e] at h1; exact h1.elim
  | some k =>
    rw [e] at h1
    exact ⟨k, truV O.hK st1.sub rx e, Res.nowE (v := .d (.bl (!k))) h1 st1 (.flat (.bl _))⟩
theorem d_chain {a b e : Expr} {ta tb tc : T} {op op' : CmpOp} {pos : Pos} (O : OkX g c W Φ kk X) (ha : PE X a (rdE g W Φ ta)) (hb : PE X b (rdE g W Φ tb)) (hc : PE X e (rdE g W Φ tc)) (hm : behindInMarks op' e = false) :
    PE X (.Compare a [op, op'] [b, e] pos) (rdE g W Φ (.chain op op' ta tb tc)) := by
  refine PE.mono (pe_chain (op_cmp O.hK O.hr.units op) (op_cmp O.hK O.hr.units op') ha hb hc hm) fun σ H Q ⟨Z, s, st, h⟩ => ?_
  refine rdE_op (f := (fun x s => (evE Φ tb s).bind fun y s => match cmp op x.dat y.dat with
    | some true => (evE Φ tc s).bind fun z s => R.ofO ((cmp op' y.dat z.dat).map fun b => .d (.bl b)) s
    | some false => .ok (.d (.bl false)) s
    | none => .no : Vl → S → R Vl)) st h fun v s1 Z1 H1 x k1 st1 o1 rx h1 => ?_
  refine rdE_op (f := (fun y s => match cmp op v.dat y.dat with
    | some true => (evE Φ tc s).bind fun z s => R.ofO ((cmp op' y.dat z.dat).map fun b => .d (.bl b)) s
    | some false => .ok (.d (.bl false)) s
    | none => .no : Vl → S → R Vl)) st1 h1 fun w s2 Z2 H2 y k2 st2 o2 ry h2 => ?_
  cases e1 : cmp op v.dat w.dat with
  | none => rw [e1] at h2; exact h2.elim
  | some k =>
    rw [e1] at h2
    have e1' : cmpV op v.dat w.dat = some (vb k) := by unfold cmpV; rw [e1]; rfl
    refine ⟨Z2, _, _, _, st2.sub, rx.mono k2.z, ry, e1', fun Z3 H3 u k3 sb rf => ⟨k, ?_, ?_⟩⟩
    · have := rf.1
      cases this
      rfl
    · have st3 := st2.ext k3 sb
      cases k with
      | false =>
        have h2 : Res g W σ Z2 H2 s2 (.ok (.d (.bl false)) s2) fun v x Z' H' => ∀ x, RF g H Z' H' v x → Q x H' := h2
        exact iteF ((Res.rebase h2 (k3.wide fun _ z => z.elim) (fun _ q => q)).now st3 _ (.flat (.bl _)))
      | true =>
        have h2 : Res g W σ Z2 H2 s2 ((evE Φ tc s2).bind fun z s => R.ofO (cmpV op' w.dat z.dat) s) fun v x Z' H' => ∀ x, RF g H Z' H' v x → Q x H' := h2
        refine iteT (rdE_op (f := fun z s => R.ofO (cmpV op' w.dat z.dat) s) st3 (Res.rebase h2 (k3.wide fun _ z => z.elim) (fun _ q => q)) fun z s4 Z4 H4 u4 k4 st4 o4 rz h4 => ?_)
        obtain ⟨r, e, q⟩ := fin_ofO st4 (fun a e => k1.f a (k2.f a (k3.f a (k4.f a e)))) h4
        exact ⟨Z4, _, _, r, st4.sub, (ry.mono k3.z).mono k4.z, rz, e, q⟩
theorem d_and {a b : Expr} {rest : List Expr} {ta tb : T} {pos : Pos} (O : OkX g c W Φ kk X) (ha : PE X a (rdE g W Φ ta)) (hb : PE X (.BoolOp .And (b :: rest) pos) (rdE g W Φ tb)) : PE X (.BoolOp .And (a :: b :: rest) pos) (rdE g W Φ (.and ta tb)) := by
  refine PE.mono (pe_andT ha hb) fun σ H Q ⟨Z, s, st, h⟩ => ?_
  refine rdE_op (f := (fun x s => match tru x.dat with
    | some true => evE Φ tb s
    | some false => .ok (.d x.dat) s
    | none => .no : Vl → S → R Vl)) st h fun v s1 Z1 H1 x k1 st1 o1 rx h1 => ?_
  cases e : tru v.dat with
  | none => rw [e] at h1; exact h1.elim
  | some k =>
    rw [e] at h1
    refine ⟨k, truV O.hK st1.sub rx e, ?_⟩
    cases k with
    | true => exact iteT ⟨Z1, s1, st1, Res.mono h1 fun u s2 Z2 H2 k2 st2 o2 q y rf => q y (rf.back k1)⟩
    | false => exact iteF (Res.nowE (v := .d v.dat) h1 st1 (.flat rx))
theorem d_or {a b : Expr} {rest : List Expr} {ta tb : T} {pos : Pos} (O : OkX g c W Φ kk X) (ha : PE X a (rdE g W Φ ta)) (hb : PE X (.BoolOp .Or (b :: rest) pos) (rdE g W Φ tb)) : PE X (.BoolOp .Or (a :: b :: rest) pos) (rdE g W Φ (.or ta tb)) := by
  refine PE.mono (pe_orT ha hb) fun σ H Q ⟨Z, s, st, h⟩ => ?_
  refine rdE_op (f := (fun x s => match tru x.dat with
    | some true => .ok (.d x.dat) s
    | some false => evE Φ tb s
    | none => .no : Vl → S → R Vl)) st h fun v s1 Z1 H1 x k1 st1 o1 rx h1 => ?_
  cases e : tru v.dat with
  | none => rw [e] at h1; exact h1.elim
  | some k =>
    rw [e] at h1
    refine ⟨k, truV O.hK st1.sub rx e, ?_⟩
    cases k with
    | false => exact iteF ⟨Z1, s1, st1, Res.mono h1 fun u s2 Z2 H2 k2 st2 o2 q y rf => q y (rf.back k1)⟩
    | true => exact iteT (Res.nowE (v := .d v.dat) h1 st1 (.flat rx))

/-! ### tests -/
def rdT (g : G) (W : WXX) (Φ : Call) (t : T) : TT := fun σ H Q => ∃ Z s, Sr g Z s σ H ∧ Res g W σ Z H s ((evE Φ t s).bind fun v s => R.ofO (tru v.dat) s) fun k _ _ H' => Q k H'
theorem PT.mono {X : Cx} {e : Expr} {t t' : TT} (h : PT X e t) (m : ∀ σ H Q, t' σ H Q → t σ H Q) : PT X e t' := ⟨fun pins s σ H Q I q => h.run pins s σ H Q I (m σ H Q q)⟩
/-- where a test asks its value's truth -/
def plainTest : Expr → Bool
  | .UnaryOp .Not _ _ => false
  | .BoolOp _ _ _ => false
  | .IfExp _ _ _ _ => false
  | .Compare _ _ _ _ => false
  | _ => true
theorem plain_is {e : Expr} (h : plainTest e = true) (env : Env) (whole : Sem Value) : isTrue e env whole = (do let v ← whole; standAt e.pos; holding [v] (truthy v)) := by
  cases e <;> first
    | rfl
    | cases h
    | (rename_i op _ _
       cases op <;> first | rfl | cases h)
theorem t_plain {e : Expr} {t : T} (O : OkX g c W Φ kk X) (h : PE X e (rdE g W Φ t)) (hp : plainTest e = true) : PT X e (rdT g W Φ t) := by
  refine PT.mono (pt_truth h fun w => plain_is hp X.env w) fun σ H Q ⟨Z, s, st, h⟩ => ?_
  refine rdE_op (f := fun v s => R.ofO (tru v.dat) s) st h fun v s1 Z1 H1 x k1 st1 o1 rx h1 => ?_
  cases e : tru v.dat with
  | none => rw [e] at h1; exact h1.elim
  | some k =>
    rw [e] at h1
    exact ⟨k, truV O.hK st1.sub rx e, Res.now (v := k) h1 st1⟩
end
end MI

set_option Elab.async false
set_option linter.all false
set_option maxRecDepth 100000
set_option maxHeartbeats 4000000
/-! Tests of comparisons, displays, items, slices, arguments, calls. -/
namespace MI
open PySem PySem.Spec PyProof.Rows L2
section
variable {g : G} {c : Cc} {W : WXX} {Φ : Call} {kk : Nat} {X : Cx}
theorem R.bind_bind {α β γ : Type} (r : R α) (f : α → S → R β) (h : β → S → R γ) : (r.bind f).bind h = r.bind fun x s => (f x s).bind h := by cases r <;> rfl
theorem t_cmp {a b : Expr} {ta tb : T} {op : CmpOp} {pos : Pos} (O : OkX g c W Φ kk X) (ha : PE X a (rdE g W Φ ta)) (hb : PE X b (rdE g W Φ tb)) (hm : behindInMarks op b = false) : PT X (.Compare a [op] [b] pos) (rdT g W Φ (.cmp op ta tb)) := by
  refine PT.mono (pt_cmpR (op_cmp O.hK O.hr.units op) ha hb hm) fun σ H Q ⟨Z, s, st, h⟩ => ?_
  have h : Res g W σ Z H s ((evE Φ ta s).bind fun x s => (evE Φ tb s).bind fun y s => (R.ofO (cmpV op x.dat y.dat) s).bind fun v s => R.ofO (tru v.dat) s) fun k _ _ H' => Q k H' := by
    have e : (evE Φ (.cmp op ta tb) s).bind (fun v s => R.ofO (tru v.dat) s) = (evE Φ ta s).bind fun x s => (evE Φ tb s).bind fun y s => (R.ofO (cmpV op x.dat y.dat) s).bind fun v s => R.ofO (tru v.dat) s := by
      show ((evE Φ ta s).bind fun x s => (evE Φ tb s).bind fun y s => R.ofO (cmpV op x.dat y.dat) s).bind _ = _
      rw [R.bind_bind]
      congr 1
      funext x s
      rw [R.bind_bind]
    rw [← e]
    exact h
  refine rdE_op (f := fun x s => (evE Φ tb s).bind fun y s => (R.ofO (cmpV op x.dat y.dat) s).bind fun v s => R.ofO (tru v.dat) s) st h fun v s1 Z1 H1 x k1 st1 o1 rx h1 => ?_
  refine rdE_op (f := fun y s => (R.ofO (cmpV op v.dat y.dat) s).bind fun v s => R.ofO (tru v.dat) s) st1 h1 fun w s2 Z2 H2 y k2 st2 o2 ry h2 => ?_
  cases e : cmp op v.dat w.dat with
  | none => unfold cmpV at h2; rw [e] at h2; exact h2.elim
  | some k =>
    have e' : cmpV op v.dat w.dat = some (vb k) := by unfold cmpV; rw [e]; rfl
    rw [e'] at h2
    refine ⟨Z2, _, _, _, st2.sub, rx.mono k2.z, ry, e', fun Z3 H3 u k3 sb rf => ⟨k, ?_, ?_⟩⟩
    · have := rf.1
      cases this
      rfl
    · have h2 : Res g W σ Z2 H2 s2 (.ok k s2) fun k _ _ H' => Q k H' := h2
      exact h2 Z3 H3 (k3.wide fun _ z => z.elim) (st2.ext k3 sb) fun _ q => q
theorem t_chain {a b e : Expr} {ta tb tc : T} {op op' : CmpOp} {pos : Pos} (O : OkX g c W Φ kk X) (ha : PE X a (rdE g W Φ ta)) (hb : PE X b (rdE g W Φ tb)) (hc : PE X e (rdE g W Φ tc)) (hm : behindInMarks op' e = false) :
    PT X (.Compare a [op, op'] [b, e] pos) (rdT g W Φ (.chain op op' ta tb tc)) := by
  refine PT.mono (pt_chain (op_cmp O.hK O.hr.units op) (op_cmp O.hK O.hr.units op') ha hb hc hm) fun σ H Q ⟨Z, s, st, h⟩ => ?_
  let inner : D → Vl → S → R Vl := fun x y s => match cmp op x y.dat with
    | some true => (evE Φ tc s).bind fun z s => R.ofO (cmpV op' y.dat z.dat) s
    | some false => .ok (.d (.bl false)) s
    | none => .no
  have h : Res g W σ Z H s ((evE Φ ta s).bind fun x s => (evE Φ tb s).bind fun y s => (inner x.dat y s).bind fun v s => R.ofO (tru v.dat) s) fun k _ _ H' => Q k H' := by
    have e : (evE Φ (.chain op op' ta tb tc) s).bind (fun v s => R.ofO (tru v.dat) s) = (evE Φ ta s).bind fun x s => (evE Φ tb s).bind fun y s => (inner x.dat y s).bind fun v s => R.ofO (tru v.dat) s := by
      show ((evE Φ ta s).bind fun x s => (evE Φ tb s).bind fun y s => inner x.dat y s).bind _ = _
      rw [R.bind_bind]
      congr 1
      funext x s
      rw [R.bind_bind]
    rw [← e]
    exact h
  refine rdE_op (f := fun x s => (evE Φ tb s).bind fun y s => (inner x.dat y s).bind fun v s => R.ofO (tru v.dat) s) st h fun v s1 Z1 H1 x k1 st1 o1 rx h1 => ?_
  refine rdE_op (f := fun y s => (inner v.dat y s).bind fun v s => R.ofO (tru v.dat) s) st1 h1 fun w s2 Z2 H2 y k2 st2 o2 ry h2 => ?_
  cases e1 : cmp op v.dat w.dat with
  | none => simp only [inner, e1] at h2; exact h2.elim
  | some k =>
    simp only [inner, e1] at h2
    have e1' : cmpV op v.dat w.dat = some (vb k) := by unfold cmpV; rw [e1]; rfl
    refine ⟨Z2, _, _, _, st2.sub, rx.mono k2.z, ry, e1', fun Z3 H3 u k3 sb rf => ⟨k, ?_, ?_⟩⟩
    · have := rf.1
      cases this
      rfl
    · have st3 := st2.ext k3 sb
      cases k with
      | false =>
        have h2 : Res g W σ Z2 H2 s2 (.ok false s2) fun k _ _ H' => Q k H' := h2
        exact iteF ⟨false, rfl, h2 Z3 H3 (k3.wide fun _ z => z.elim) st3 fun _ q => q⟩
      | true =>
        have h2 : Res g W σ Z2 H2 s2 ((evE Φ tc s2).bind fun z s => (R.ofO (cmpV op' w.dat z.dat) s).bind fun v s => R.ofO (tru v.dat) s) fun k _ _ H' => Q k H' := by
          have h2 : Res g W σ Z2 H2 s2 (((evE Φ tc s2).bind fun z s => R.ofO (cmpV op' w.dat z.dat) s).bind fun v s => R.ofO (tru v.dat) s) fun k _ _ H' => Q k H' := h2
          rwa [R.bind_bind] at h2
        refine iteT (rdE_op (f := fun z s => (R.ofO (cmpV op' w.dat z.dat) s).bind fun v s => R.ofO (tru v.dat) s) st3 (Res.rebase h2 (k3.wide fun _ z => z.elim) (fun _ q => q)) fun z s4 Z4 H4 u4 k4 st4 o4 rz h4 => ?_)
        cases e4 : cmp op' w.dat z.dat with
        | none => unfold cmpV at h4; rw [e4] at h4; exact h4.elim
        | some k' =>
          have e4' : cmpV op' w.dat z.dat = some (vb k') := by unfold cmpV; rw [e4]; rfl
          rw [e4'] at h4
          refine ⟨Z4, _, _, _, st4.sub, (ry.mono k3.z).mono k4.z, rz, e4', fun Z5 H5 u5 k5 sb5 rf5 => ⟨k', ?_, ?_⟩⟩
          · have := rf5.1
            cases this
            rfl
          · have h4 : Res g W σ Z4 H4 s4 (.ok k' s4) fun k _ _ H' => Q k H' := h4
            exact h4 Z5 H5 (k5.wide fun _ z => z.elim) (st4.ext k5 sb5) fun _ q => q
theorem t_and {a b : Expr} {rest : List Expr} {ta tb : T} {pos : Pos} (ha : PT X a (rdT g W Φ ta)) (hb : PW X (.BoolOp .And (b :: rest) pos) (rdT g W Φ tb)) : PW X (.BoolOp .And (a :: b :: rest) pos) (rdT g W Φ (.and ta tb)) := by
  refine ⟨fun whole pins s σ H Q I q => (pw_and ha hb).run whole pins s σ H Q I ?_⟩
  obtain ⟨Z, s, st, h⟩ := q
  let nx : Vl → S → R Vl := fun x s => match tru x.dat with
    | some true => evE Φ tb s
    | some false => .ok (.d x.dat) s
    | none => .no
  have h : Res g W σ Z H s ((evE Φ ta s).bind fun x s => (nx x s).bind fun v s => R.ofO (tru v.dat) s) fun k _ _ H' => Q k H' := by
    rw [← R.bind_bind]
    exact h
  refine ⟨Z, s, st, ?_⟩
  cases e : evE Φ ta s with
  | no => rw [e] at h; exact h.elim
  | ex c fs s' => rw [e] at h; exact h
  | ok v s1 =>
    rw [e] at h
    show Res g W σ Z H s (R.ofO (tru v.dat) s1) _
    have h : Res g W σ Z H s ((nx v s1).bind fun v s => R.ofO (tru v.dat) s) fun k _ _ H' => Q k H' := h
    cases e2 : tru v.dat with
    | none => simp only [nx, e2] at h; exact h.elim
    | some k =>
      simp only [nx, e2] at h
      intro Z1 H1 k1 st1 o1
      cases k with
      | true => exact iteT ⟨Z1, s1, st1, Res.rebase h k1 o1⟩
      | false =>
        have h : Res g W σ Z H s (R.ofO (tru (Vl.d v.dat).dat) s1) fun k _ _ H' => Q k H' := h
        have e3 : tru (Vl.d v.dat).dat = some false := e2
        rw [e3] at h
        exact iteF (h Z1 H1 k1 st1 o1)
theorem t_or {a b : Expr} {rest : List Expr} {ta tb : T} {pos : Pos} (ha : PT X a (rdT g W Φ ta)) (hb : PW X (.BoolOp .Or (b :: rest) pos) (rdT g W Φ tb)) : PW X (.BoolOp .Or (a :: b :: rest) pos) (rdT g W Φ (.or ta tb)) := by
  refine ⟨fun whole pins s σ H Q I q => (pw_or ha hb).run whole pins s σ H Q I ?_⟩
  obtain ⟨Z, s, st, h⟩ := q
  let nx : Vl → S → R Vl := fun x s => match tru x.dat with
    | some true => .ok (.d x.dat) s
    | some false => evE Φ tb s
    | none => .no
  have h : Res g W σ Z H s ((evE Φ ta s).bind fun x s => (nx x s).bind fun v s => R.ofO (tru v.dat) s) fun k _ _ H' => Q k H' := by
    rw [← R.bind_bind]
    exact h
  refine ⟨Z, s, st, ?_⟩
  cases e : evE Φ ta s with
  | no => rw [e] at h; exact h.elim
  | ex c fs s' => rw [e] at h; exact h
  | ok v s1 =>
    rw [e] at h
    show Res g W σ Z H s (R.ofO (tru v.dat) s1) _
    have h : Res g W σ Z H s ((nx v s1).bind fun v s => R.ofO (tru v.dat) s) fun k _ _ H' => Q k H' := h
    cases e2 : tru v.dat with
    | none => simp only [nx, e2] at h; exact h.elim
    | some k =>
      simp only [nx, e2] at h
      intro Z1 H1 k1 st1 o1
      cases k with
      | false => exact iteF ⟨Z1, s1, st1, Res.rebase h k1 o1⟩
      | true =>
        have h : Res g W σ Z H s (R.ofO (tru (Vl.d v.dat).dat) s1) fun k _ _ H' => Q k H' := h
        have e3 : tru (Vl.d v.dat).dat = some true := e2
        rw [e3] at h
        exact iteT (h Z1 H1 k1 st1 o1)
theorem t_not {a : Expr} {ta : T} {pos : Pos} (ha : PT X a (rdT g W Φ ta)) : PT X (.UnaryOp .Not a pos) (rdT g W Φ (.nt ta)) := by
  refine PT.mono (pt_not ha) fun σ H Q ⟨Z, s, st, h⟩ => ⟨Z, s, st, ?_⟩
  have h : Res g W σ Z H s (((evE Φ ta s).bind fun x s => R.ofO ((tru x.dat).map fun b => vb (!b)) s).bind fun v s => R.ofO (tru v.dat) s) fun k _ _ H' => Q k H' := h
  cases e : evE Φ ta s with
  | no => rw [e] at h; exact h.elim
  | ex c fs s' => rw [e] at h; exact h
  | ok v s1 =>
    rw [e] at h
    show Res g W σ Z H s (R.ofO (tru v.dat) s1) _
    have h : Res g W σ Z H s ((R.ofO ((tru v.dat).map fun b => vb (!b)) s1).bind fun v s => R.ofO (tru v.dat) s) fun k _ _ H' => Q k H' := h
    cases e2 : tru v.dat with
    | none => rw [e2] at h; exact h.elim
    | some k =>
      rw [e2] at h
      exact h

/-! ### displays -/
def rdIt (g : G) (W : WXX) (Φ : Call) (t : T) : TA := fun σ H Q => ∃ Z s, Sr g Z s σ H ∧ Res g W σ Z H s (evL Φ t s) fun ds _ Z' H' => ∀ xs, RDs g Z' ds xs → Q xs H'
theorem PA.mono {es : List Expr} {t t' : TA} (h : PA X es t) (m : ∀ σ H Q, t' σ H Q → t σ H Q) : PA X es t' := ⟨fun pos pins s σ H Q I q => h.run pos pins s σ H Q I (m σ H Q q)⟩
theorem l_nil : PA X [] (rdIt g W Φ .nil) := PA.mono pa_nil fun σ H Q ⟨Z, s, st, h⟩ => by
  have h : Res g W σ Z H s (.ok [] s) fun ds _ Z' H' => ∀ xs, RDs g Z' ds xs → Q xs H' := h
  exact h.now st [] .nil
theorem l_cons {e : Expr} {es : List Expr} {t ts : T} (h1 : PE X e (rdE g W Φ t)) (h2 : PA X es (rdIt g W Φ ts)) (ns : noStar e = true) : PA X (e :: es) (rdIt g W Φ (.cons t ts)) := by
  refine PA.mono (pa_cons h1 h2 (star_cons ns es _)) fun σ H Q ⟨Z, s, st, h⟩ => ?_
  refine rdE_of st (h.bind.mono fun v s1 Z1 H1 k1 st1 o1 q x rx => ⟨Z1, s1, st1, q.bind.mono fun ds s2 Z2 H2 k2 st2 o2 q2 xs rs => ?_⟩)
  have q2 : Res g W σ Z2 H2 s2 (.ok (v.dat :: ds) s2) fun ds _ Z' H' => ∀ xs, RDs g Z' ds xs → Q xs H' := q2
  exact q2.now st2 _ (.cons (rx.mono k2.z) rs)
theorem fresh_ext {Z H Z' H' : Hp} {p : Addr} {o : HO} (k : Ext Z H Z' H') (e : H p = some o) : H' p = some o := k.h p o e id
theorem d_tup {es : List Expr} {ts : T} {x1 : Nat} {pos : Pos} (h : PA X es (rdIt g W Φ ts)) : PE X (.Tuple es x1 pos) (rdE g W Φ (.tup ts)) := by
  refine PE.mono (pe_tup h) fun σ H Q ⟨Z, s, st, h⟩ => ⟨Z, s, st, h.bind.mono fun ds s1 Z1 H1 k1 st1 o1 q xs rs => ?_⟩
  have q : Res g W σ Z1 H1 s1 (if fitsL ds.length then .ok (.d (.tup ds)) s1 else .no) fun v _ Z' H' => ∀ x, RF g H Z' H' v x → Q x H' := q
  split at q
  · rename_i f
    refine ⟨by rw [← rs.length]; exact fitsL_le f, fun p hp => ?_⟩
    have rf : RF g H1 (upd Z1 p (.tup xs)) (upd H1 p (.tup xs)) (.d (.tup ds)) (.ref p) := .tup st1.sub hp rs
    exact q _ _ ((Ext.layT st1.sub hp).wide fun _ z => z.elim) (st1.ext (.layT st1.sub hp) (Same.layT st1.sub hp)) (fun _ q => q) _ (rf.back k1)
  · exact q.elim
theorem d_lst {es : List Expr} {ts : T} {pos : Pos} (h : PA X es (rdIt g W Φ ts)) : PE X (.List es pos) (rdE g W Φ (.lst ts)) := by
  refine PE.mono (pe_lst h) fun σ H Q ⟨Z, s, st, h⟩ => ⟨Z, s, st, h.bind.mono fun ds s1 Z1 H1 k1 st1 o1 q xs rs => ?_⟩
  have q : Res g W σ Z1 H1 s1 (if fitsL ds.length then .ok (.own false ds) s1 else .no) fun v _ Z' H' => ∀ x, RF g H Z' H' v x → Q x H' := q
  split at q
  · rename_i f
    refine ⟨by rw [← rs.length]; exact fitsL_le f, fun p hp => ?_⟩
    have rf : RF g H1 Z1 (upd H1 p (.lst xs)) (.own false ds) (.ref p) := .own st1.sub hp rs
    exact q _ _ ((Ext.lay hp).wide fun _ z => z.elim) (st1.ext (.lay hp) (Same.lay st1.sub hp)) (fun _ q => q) _ (rf.back k1)
  · exact q.elim

/-! ### a slot's datum, as it stands -/
/-- a list or a tuple that can be read: tracked as it is, whoever holds it -/
inductive RB (g : G) (Z H : Hp) : D → V → Prop where
  | d {x : D} {v : V} : RD g Z x v → RB g Z H x v
  | own {a : Addr} {xs : List D} {vs : List V} : H a = some (.lst vs) → RDs g Z xs vs → RB g Z H (.lst xs) (.ref a)
theorem peek_ok {Z H : Hp} {s : S} {σ : L2.St} {i : Nat} {x : D} (st : Sr g Z s σ H) (e : peek i s = some x) : ∃ v, σ[i]? = some (some v) ∧ RB g Z H x v := by
  unfold peek at e
  split at e
  · rename_i v hv
    cases e
    obtain ⟨u, hu, r⟩ := st.rel _ _ hv
    refine ⟨u, hu, ?_⟩
    cases v with
    | d y => exact .d r
    | fz y => exact .d r
    | own t xs =>
      obtain ⟨a, vs, rfl, ha, _, rs⟩ := r
      exact .own ha rs
  · cases e
theorem ixB (hK : g.K = X.K) {Z H : Hp} {a b x : D} {v u : V} {Q : VK} (sb : Same Z H) (ra : RB g Z H a v) (rb : RD g Z b u) (e : index a b = some x) (q : ∀ w, RD g Z x w → Q w H) : rIx X.K v u H Q := by
  cases ra with
  | d r => exact ixD hK sb r rb e q
  | own h rs =>
    unfold index at e
    split at e
    · rename_i h1
      cases h1
      cases rb
      obtain ⟨w, e2, r⟩ := atI_of rs e
      exact .inl ⟨_, _, _, w, rfl, rfl, .inl (.inl h), e2, q w r⟩
    · rename_i h1; cases h1
    · cases e
/-- an index that is no slice -/
def plainIx : Expr → Bool
  | .Slice _ _ _ _ => false
  | .Tuple _ _ _ => false
  | _ => true
theorem d_idx {a b : Expr} {ta tb : T} {pos : Pos} (O : OkX g c W Φ kk X) (ha : PE X a (rdE g W Φ ta)) (hb : PE X b (rdE g W Φ tb)) (hp : PlainIx b) (nv : ∀ i, ta ≠ .var i) : PE X (.Subscript a b pos) (rdE g W Φ (.idx ta tb)) := by
  refine PE.mono (pe_ix ix_seq ha hb hp) fun σ H Q ⟨Z, s, st, h⟩ => ?_
  have e : evE Φ (.idx ta tb) s = (evE Φ ta s).bind fun x s => (evE Φ tb s).bind fun y s => R.ofO ((index x.dat y.dat).map .d) s := by
    cases ta <;> first | rfl | exact absurd rfl (nv _)
  rw [e] at h
  refine rdE_op (f := fun x s => (evE Φ tb s).bind fun y s => R.ofO ((index x.dat y.dat).map Vl.d) s) st h fun v s1 Z1 H1 x k1 st1 o1 rx h1 => ?_
  refine rdE_op (f := fun y s => R.ofO ((index v.dat y.dat).map Vl.d) s) st1 h1 fun w s2 Z2 H2 y k2 st2 o2 ry h2 => ?_
  cases e : index v.dat w.dat with
  | none => rw [e] at h2; exact h2.elim
  | some d =>
    rw [e] at h2
    exact ixD O.hK st2.sub (rx.mono k2.z) ry e fun u ru => Res.nowE (v := .d d) h2 st2 (.flat ru)
theorem d_idxV {i : Nat} {x : Str} {b : Expr} {tb : T} {pos px : Pos} (O : OkX g c W Φ kk X) (ha : PE X (.Name x px) (tVar i)) (hb : PE X b (rdE g W Φ tb)) (hp : PlainIx b) : PE X (.Subscript (.Name x px) b pos) (rdE g W Φ (.idx (.var i) tb)) := by
  refine PE.mono (pe_ix ix_seq ha hb hp) fun σ H Q ⟨Z, s, st, h⟩ => ?_
  cases e0 : peek i s with
  | none =>
    have h : Res g W σ Z H s (match peek i s with
      | none => (.no : R Vl)
      | some _ => (evE Φ tb s).bind fun y s => match peek i s with
        | some x => R.ofO ((index x y.dat).map .d) s
        | none => .no) fun v _ Z' H' => ∀ x, RF g H Z' H' v x → Q x H' := h
    rw [e0] at h
    exact h.elim
  | some x0 =>
    let nx : Vl → S → R Vl := fun y s => match peek i s with
      | some x => R.ofO ((index x y.dat).map .d) s
      | none => .no
    have h : Res g W σ Z H s ((evE Φ tb s).bind nx) fun v _ Z' H' => ∀ x, RF g H Z' H' v x → Q x H' := by
      have h : Res g W σ Z H s (match peek i s with
        | none => (.no : R Vl)
        | some _ => (evE Φ tb s).bind nx) fun v _ Z' H' => ∀ x, RF g H Z' H' v x → Q x H' := h
      rw [e0] at h
      exact h
    obtain ⟨v0, hv, _⟩ := peek_ok st e0
    refine ⟨v0, hv, rdE_op (f := nx) st h fun w s2 Z2 H2 y k2 st2 o2 ry h2 => ?_⟩
    cases e1 : peek i s2 with
    | none => simp only [nx, e1] at h2; exact h2.elim
    | some x =>
      simp only [nx, e1] at h2
      obtain ⟨v1, hv1, rb⟩ := peek_ok st2 e1
      rw [hv] at hv1
      cases hv1
      cases e : index x w.dat with
      | none => rw [e] at h2; exact h2.elim
      | some d =>
        rw [e] at h2
        exact ixB O.hK st2.sub rb ry e fun u ru => Res.nowE (v := .d d) h2 st2 (.flat ru)
/-- a part of a slice -/
def rdP (g : G) (W : WXX) (Φ : Call) (t : T) : TO := fun σ H Q => ∃ Z s, Sr g Z s σ H ∧ Res g W σ Z H s (evP Φ t s) fun o _ _ H' => Q o H'
theorem PO.mono {e : Option Expr} {t t' : TO} (h : PO X e t) (m : ∀ σ H Q, t' σ H Q → t σ H Q) : PO X e t' := ⟨fun pins s σ H Q I q => h.run pins s σ H Q I (m σ H Q q)⟩
theorem p_none : PO X none (rdP g W Φ .nil) := PO.mono po_none fun σ H Q ⟨Z, s, st, h⟩ => by
  have h : Res g W σ Z H s (.ok none s) fun o _ _ H' => Q o H' := h
  exact h.now st
theorem p_some {e : Expr} {t : T} (h : PE X e (rdE g W Φ t)) : PO X (some e) (rdP g W Φ (.part t)) := PO.mono (po_some h) fun σ H Q ⟨Z, s, st, h⟩ => by
  refine rdE_op (f := (fun x s => match x with | .d (.int i) => .ok (some i) s | _ => .no : Vl → S → R (Option Int))) st h fun v s1 Z1 H1 x k1 st1 o1 rx h1 => ?_
  split at h1
  · cases rx
    exact ⟨_, rfl, h1.now st1⟩
  · exact h1.elim
theorem d_slc {e : Expr} {lo hi : Option Expr} {te tl th : T} {pos p2 : Pos} (O : OkX g c W Φ kk X) (he : PE X e (rdE g W Φ te)) (hl : PO X lo (rdP g W Φ tl)) (hh : PO X hi (rdP g W Φ th)) : PE X (.Subscript e (.Slice lo hi none p2) pos) (rdE g W Φ (.slc te tl th)) := by
  refine PE.mono (pe_slice (sl_any O.hK) he hl hh) fun σ H Q ⟨Z, s, st, h⟩ => ?_
  refine rdE_op (f := fun x s => (evP Φ tl s).bind fun l s => (evP Φ th s).bind fun h s => R.ofO (slice x.dat l h) s) st h fun v s1 Z1 H1 x k1 st1 o1 rx h1 => ?_
  refine ⟨Z1, s1, st1, h1.bind.mono fun l s2 Z2 H2 k2 st2 o2 h2 => ⟨Z2, s2, st2, h2.bind.mono fun u s3 Z3 H3 k3 st3 o3 h3 => ?_⟩⟩
  obtain ⟨r, e, q⟩ := fin_ofO st3 (fun a e => k1.f a (k2.f a (k3.f a e))) h3
  exact ⟨Z3, _, r, st3.sub, (rx.mono k2.z).mono k3.z, e, q⟩
end
end MI

set_option Elab.async false
set_option linter.all false
set_option maxRecDepth 100000
set_option maxHeartbeats 4000000
/-! Arguments, what is lent to a call, what comes back. -/
namespace MI
open PySem PySem.Spec PyProof.Rows L2
section
variable {g : G} {c : Cc} {W : WXX} {Φ : Call} {kk : Nat} {X : Cx}
/-- evaluated arguments: their values; new lists among them are new since H0, apart from one another -/
structure AgsR (g : G) (H0 Z H : Hp) (σ : L2.St) (ags : List Ag) (xs : List V) : Prop where
  len : ags.length = xs.length
  val : ∀ (j : Nat) v x, ags[j]? = some (.val v) → xs[j]? = some x → RV g Z H v x
  ref : ∀ (j i : Nat) x, ags[j]? = some (.ref i) → xs[j]? = some x → σ[i]? = some (some x)
  new : ∀ (j : Nat) t ys a, ags[j]? = some (.val (.own t ys)) → xs[j]? = some (.ref a) → H0 a = none
  apart : ∀ (j j' : Nat) t u ys zs a, ags[j]? = some (.val (.own t ys)) → ags[j']? = some (.val (.own u zs)) → xs[j]? = some (.ref a) → xs[j']? = some (.ref a) → j = j'
def rdA (g : G) (W : WXX) (Φ : Call) (t : T) : TA := fun σ H Q => ∃ Z s, Sr g Z s σ H ∧ Res g W σ Z H s (evA Φ t s) fun ags _ Z' H' => ∀ xs, AgsR g H Z' H' σ ags xs → Q xs H'
theorem RV.keep {Z H Z' H' : Hp} {O : Addr → Prop} {v : Vl} {x : V} (k : Keep Z H O Z' H') (r : RV g Z H v x) (no : ∀ t ys a, v = .own t ys → x = .ref a → ¬ O a) : RV g Z' H' v x := by
  cases v with
  | d y => exact RD.mono k.z r
  | fz y => exact RD.mono k.z r
  | own t ys =>
    obtain ⟨a, vs, rfl, ha, za, rs⟩ := r
    have n := no t ys a rfl rfl
    exact ⟨a, vs, rfl, k.h a _ ha n, k.n a _ ha n za, rs.mono k.z⟩
theorem AgsR.nil {H0 Z H : Hp} {σ : L2.St} : AgsR g H0 Z H σ [] [] := ⟨rfl, fun _ _ _ e => by simp at e, fun _ _ _ e => by simp at e, fun _ _ _ _ e => by simp at e, fun _ _ _ _ _ _ _ e => by simp at e⟩
/-- one more argument ahead: a value -/
theorem AgsR.val_cons {H0 Z1 H1 Z2 H2 : Hp} {σ : L2.St} {s1 : S} {v : Vl} {x : V} {ags : List Ag} {xs : List V} (rf : RF g H0 Z1 H1 v x) (k1 : ∀ a, H1 a = none → H0 a = none) (o1 : ∀ a, Own s1 σ a → H0 a ≠ none) (k : Keep Z1 H1 (Own s1 σ) Z2 H2)
    (r : AgsR g H1 Z2 H2 σ ags xs) : AgsR g H0 Z2 H2 σ (.val v :: ags) (x :: xs) := by
  have at1 : ∀ t ys a, v = .own t ys → x = .ref a → (∃ vs, H1 a = some (.lst vs)) := fun t ys a e1 e2 => by
    subst e1; subst e2
    obtain ⟨b, vs, e, hb, _⟩ := rf.1
    cases e
    exact ⟨vs, hb⟩
  have rv : RV g Z2 H2 v x := rf.1.keep k fun t ys a e1 e2 q => o1 a q (rf.2 t ys a e1 e2)
  refine ⟨by rw [List.length_cons, List.length_cons, r.len], fun j w y e1 e2 => ?_, fun j i y e1 e2 => ?_, fun j t ys a e1 e2 => ?_, fun j j' t u ys zs a e1 e2 e3 e4 => ?_⟩
  · cases j with
    | zero => simp at e1 e2; subst e1; subst e2; exact rv
    | succ j => exact r.val j w y (by simpa using e1) (by simpa using e2)
  · cases j with
    | zero => simp at e1
    | succ j => exact r.ref j i y (by simpa using e1) (by simpa using e2)
  · cases j with
    | zero => simp at e1 e2; exact rf.2 t ys a e1 e2
    | succ j => exact k1 a (r.new j t ys a (by simpa using e1) (by simpa using e2))
  · cases j with
    | zero =>
      cases j' with
      | zero => rfl
      | succ j' =>
        simp at e1 e3
        obtain ⟨vs, q⟩ := at1 t ys a e1 e3
        rw [r.new j' u zs a (by simpa using e2) (by simpa using e4)] at q
        cases q
    | succ j =>
      cases j' with
      | zero =>
        simp at e2 e4
        obtain ⟨vs, q⟩ := at1 u zs a e2 e4
        rw [r.new j t ys a (by simpa using e1) (by simpa using e3)] at q
        cases q
      | succ j' => rw [r.apart j j' t u ys zs a (by simpa using e1) (by simpa using e2) (by simpa using e3) (by simpa using e4)]
/-- one more ahead: a slot that is lent -/
theorem AgsR.ref_cons {H0 Z H : Hp} {σ : L2.St} {i : Nat} {x : V} {ags : List Ag} {xs : List V} (hx : σ[i]? = some (some x)) (r : AgsR g H0 Z H σ ags xs) : AgsR g H0 Z H σ (.ref i :: ags) (x :: xs) := by
  refine ⟨by rw [List.length_cons, List.length_cons, r.len], fun j w y e1 e2 => ?_, fun j i y e1 e2 => ?_, fun j t ys a e1 e2 => ?_, fun j j' t u ys zs a e1 e2 e3 e4 => ?_⟩
  · cases j with
    | zero => simp at e1
    | succ j => exact r.val j w y (by simpa using e1) (by simpa using e2)
  · cases j with
    | zero => simp at e1 e2; subst e1; subst e2; exact hx
    | succ j => exact r.ref j i y (by simpa using e1) (by simpa using e2)
  · cases j with
    | zero => simp at e1
    | succ j => exact r.new j t ys a (by simpa using e1) (by simpa using e2)
  · cases j with
    | zero => simp at e1
    | succ j =>
      cases j' with
      | zero => simp at e2
      | succ j' => rw [r.apart j j' t u ys zs a (by simpa using e1) (by simpa using e2) (by simpa using e3) (by simpa using e4)]
theorem a_nil : PA X [] (rdA g W Φ .nil) := PA.mono pa_nil fun σ H Q ⟨Z, s, st, h⟩ => by
  have h : Res g W σ Z H s (.ok [] s) fun ags _ Z' H' => ∀ xs, AgsR g H Z' H' σ ags xs → Q xs H' := h
  exact h.now st [] .nil
theorem own_old {Z H : Hp} {s s1 : S} {σ : L2.St} (st : Sr g Z s σ H) (o : ∀ a, Own s1 σ a → Own s σ a) : ∀ a, Own s1 σ a → H a ≠ none := fun a q n => by
  obtain ⟨vs, e, _⟩ := Own.some st (o a q)
  rw [n] at e; cases e
theorem a_cons {e : Expr} {es : List Expr} {t ts : T} (h1 : PE X e (rdE g W Φ t)) (h2 : PA X es (rdA g W Φ ts)) (ns : noStar e = true) (nv : ∀ i, t ≠ .var i) : PA X (e :: es) (rdA g W Φ (.cons t ts)) := by
  refine PA.mono (pa_cons h1 h2 (star_cons ns es _)) fun σ H Q ⟨Z, s, st, h⟩ => ?_
  have e : evA Φ (.cons t ts) s = (evE Φ t s).bind fun x s => (evA Φ ts s).bind fun vs s => .ok (.val x :: vs) s := by
    cases t <;> first | rfl | exact absurd rfl (nv _)
  rw [e] at h
  refine ⟨Z, s, st, h.bind.mono fun v s1 Z1 H1 k1 st1 o1 q x rf => ⟨Z1, s1, st1, q.bind.mono fun ags s2 Z2 H2 k2 st2 o2 q2 xs rs => ?_⟩⟩
  have q2 : Res g W σ Z2 H2 s2 (.ok (.val v :: ags) s2) fun ags _ Z' H' => ∀ xs, AgsR g H Z' H' σ ags xs → Q xs H' := q2
  exact q2.now st2 _ (.val_cons rf k1.f (own_old st o1) k2 rs)
theorem a_var {i : Nat} {x : Str} {px : Pos} {es : List Expr} {ts : T} (hv : PE X (.Name x px) (tVar i)) (h2 : PA X es (rdA g W Φ ts)) : PA X (.Name x px :: es) (rdA g W Φ (.cons (.var i) ts)) := by
  refine PA.mono (pa_cons hv h2 rfl) fun σ H Q ⟨Z, s, st, h⟩ => ?_
  let C : List Ag → S → Hp → Hp → Prop := fun ags _ Z' H' => ∀ xs, AgsR g H Z' H' σ ags xs → Q xs H'
  have h : Res g W σ Z H s (match s[i]? with
    | some (some (.own _ _)) => (evA Φ ts s).bind fun vs s => .ok (.ref i :: vs) s
    | _ => (rdV i s).bind fun x s => (evA Φ ts s).bind fun vs s => .ok (.val x :: vs) s) C := h
  split at h
  · rename_i t ys e
    obtain ⟨x, hx, _⟩ := st.rel _ _ e
    refine ⟨x, hx, Z, s, st, h.bind.mono fun ags s2 Z2 H2 k2 st2 o2 q2 xs rs => ?_⟩
    have q2 : Res g W σ Z2 H2 s2 (.ok (.ref i :: ags) s2) C := q2
    exact q2.now st2 _ (.ref_cons hx rs)
  · cases e : rdV i s with
    | no => rw [e] at h; exact h.elim
    | ex c fs s' => exact absurd e rdV_ex
    | ok v s1 =>
      rw [e] at h
      obtain ⟨x, Z1, hx, k1, st1, o1, rf⟩ := rdV_ok st e
      have h1 : Res g W σ Z1 H s1 ((evA Φ ts s1).bind fun vs s => .ok (.val v :: vs) s) C := Res.rebase h k1 o1
      refine ⟨x, hx, Z1, s1, st1, h1.bind.mono fun ags s2 Z2 H2 k2 st2 o2 q2 xs rs => ?_⟩
      have q2 : Res g W σ Z2 H2 s2 (.ok (.val v :: ags) s2) C := q2
      exact q2.now st2 _ (.val_cons rf (fun _ e => e) (own_old st o1) k2 rs)

/-! ### lending -/
structure Lent (g : G) (Z H : Hp) (σ : L2.St) (ags : List Ag) (xs : List V) (s s' : S) (us : List Vl) : Prop where
  len : us.length = ags.length
  rv : ∀ (j : Nat) u, us[j]? = some u → ∃ x, xs[j]? = some x ∧ RV g Z H u x
  own : ∀ (j : Nat) t ys, us[j]? = some (.own t ys) → ags[j]? = some (.val (.own t ys)) ∨ ∃ (i : Nat) (u : Bool), ags[j]? = some (.ref i) ∧ s[i]? = some (some (.own u ys)) ∧ s'[i]? = some none
  one : ∀ (j j' i : Nat) t ys u zs, us[j]? = some (.own t ys) → us[j']? = some (.own u zs) → ags[j]? = some (.ref i) → ags[j']? = some (.ref i) → j = j'
  old : ∀ (i : Nat) v, s'[i]? = some (some v) → s[i]? = some (some v)
  len' : s'.length = s.length
  kept : ∀ i : Nat, s'[i]? = s[i]? ∨ ∃ (j : Nat) (t : Bool) (ys : List D), ags[j]? = some (.ref i) ∧ s[i]? = some (some (.own t ys))
theorem get_cons {α : Type} {a : α} {l : List α} {j : Nat} {b : α} (h : (a :: l)[j]? = some b) : (j = 0 ∧ a = b) ∨ ∃ k, j = k + 1 ∧ l[k]? = some b := by
  cases j with
  | zero => left; simpa using h
  | succ k => right; exact ⟨k, rfl, by simpa using h⟩
theorem AgsR.tail {H0 Z H : Hp} {σ : L2.St} {a : Ag} {ags : List Ag} {xs : List V} (r : AgsR g H0 Z H σ (a :: ags) xs) : ∃ x ys, xs = x :: ys ∧ AgsR g H0 Z H σ ags ys := by
  cases xs with
  | nil => have := r.len; simp at this
  | cons x ys =>
    refine ⟨x, ys, rfl, by simpa using r.len, fun j v y e1 e2 => r.val (j + 1) v y (by simpa using e1) (by simpa using e2), fun j i y e1 e2 => r.ref (j + 1) i y (by simpa using e1) (by simpa using e2),
      fun j t zs b e1 e2 => r.new (j + 1) t zs b (by simpa using e1) (by simpa using e2), fun j j' t u ys zs b e1 e2 e3 e4 => ?_⟩
    have := r.apart (j + 1) (j' + 1) t u ys zs b (by simpa using e1) (by simpa using e2) (by simpa using e3) (by simpa using e4)
    omega
/-- a value ahead -/
theorem Lent.cons {Z H : Hp} {σ : L2.St} {ags : List Ag} {xs : List V} {s s' : S} {us : List Vl} {a : Ag} {v : Vl} {x : V} (l : Lent g Z H σ ags xs s s' us) (rv : RV g Z H v x) (ha : a = Ag.val v ∨ ∃ i, a = Ag.ref i ∧ ∀ t ys, v ≠ Vl.own t ys) : Lent g Z H σ (a :: ags) (x :: xs) s s' (v :: us) where
  len := by rw [List.length_cons, List.length_cons, l.len]
  rv := fun j u e => by
    rcases get_cons e with ⟨rfl, rfl⟩ | ⟨k, rfl, e⟩
    · exact ⟨x, rfl, rv⟩
    · obtain ⟨y, h1, h2⟩ := l.rv k u e
      exact ⟨y, by simpa using h1, h2⟩
  own := fun j t ys e => by
    rcases get_cons e with ⟨rfl, rfl⟩ | ⟨k, rfl, e⟩
    · rcases ha with rfl | ⟨i, _, h⟩
      · exact .inl rfl
      · exact absurd rfl (h t ys)
    · simpa using l.own k t ys e
  one := fun j j' i t ys u zs e1 e2 e3 e4 => by
    rcases get_cons e1 with ⟨rfl, rfl⟩ | ⟨k, rfl, e1⟩
    · rcases ha with rfl | ⟨i', _, h⟩
      · simp at e3
      · exact absurd rfl (h t ys)
    · rcases get_cons e2 with ⟨rfl, rfl⟩ | ⟨k', rfl, e2⟩
      · rcases ha with rfl | ⟨i', _, h⟩
        · simp at e4
        · exact absurd rfl (h u zs)
      · rw [l.one k k' i t ys u zs e1 e2 (by simpa using e3) (by simpa using e4)]
  old := l.old
  len' := l.len'
  kept := fun i => (l.kept i).imp id fun ⟨j, t, ys, e1, e2⟩ => ⟨j + 1, t, ys, by simpa using e1, e2⟩
theorem lend_is {H0 Z H : Hp} {σ : L2.St} : ∀ {ags : List Ag} {xs : List V} {s s' : S} {us : List Vl}, Sr g Z s σ H → AgsR g H0 Z H σ ags xs → lend ags s = some (us, s') → Lent g Z H σ ags xs s s' us
  | [], xs, s, s', us, st, r, e => by
    cases e
    exact ⟨rfl, fun _ _ e => by simp at e, fun _ _ _ e => by simp at e, fun _ _ _ _ _ _ _ e => by simp at e, fun _ _ e => e, rfl, fun _ => .inl rfl⟩
  | .val v :: ags, xs, s, s', us, st, r, e => by
    obtain ⟨x, ys, rfl, r2⟩ := r.tail
    obtain ⟨⟨vs, s2⟩, e1, e2⟩ := Option.map_eq_some_iff.mp (show (lend ags s).map (fun p => (v :: p.1, p.2)) = some (us, s') from e)
    cases e2
    exact (lend_is st r2 e1).cons (r.val 0 v x rfl rfl) (.inl rfl)
  | .ref i :: ags, xs, s, s', us, st, r, e => by
    obtain ⟨x, ys, rfl, r2⟩ := r.tail
    have hx : σ[i]? = some (some x) := r.ref 0 i x rfl rfl
    unfold lend at e
    split at e
    · rename_i t zs hs
      obtain ⟨⟨vs, s2⟩, e1, e2⟩ := Option.map_eq_some_iff.mp e
      cases e2
      have hl : i < s.length := (List.getElem?_eq_some_iff.mp hs).1
      have key : ∀ (j : Nat) (v : Vl), (s.set i none)[j]? = some (some v) → i ≠ j ∧ s[j]? = some (some v) := fun j v q => by
        by_cases hij : i = j
        · subst hij; rw [List.getElem?_set_self hl] at q; cases q
        · rw [List.getElem?_set_ne hij] at q; exact ⟨hij, q⟩
      have st0 : Sr g Z (s.set i none) σ H := ⟨by simpa using st.len, st.sub, fun j v q => st.rel j v (key _ _ q).2, fun j k t u xs ys b e1 e2 e3 e4 => st.inj j k t u xs ys b (key _ _ e1).2 (key _ _ e2).2 e3 e4⟩
      have l := lend_is st0 r2 e1
      have rv : RV g Z H (.own true zs) x := by
        obtain ⟨x', hx', q⟩ := st.rel i _ hs
        rw [hx] at hx'
        obtain rfl := Option.some.inj (Option.some.inj hx')
        exact q
      have gone : s2[i]? = some none := by
        have hl2 : i < s2.length := by rw [l.len']; simpa using hl
        cases q : s2[i]? with
        | none => rw [List.getElem?_eq_none_iff] at q; omega
        | some o =>
          cases o with
          | none => rfl
          | some v => exact absurd rfl (key _ _ (l.old i v q)).1
      refine ⟨by rw [List.length_cons, List.length_cons, l.len], fun j u q => ?_, fun j t' ys' q => ?_, fun j j' i' t' ys' u zs' q1 q2 q3 q4 => ?_, fun j v q => (key _ _ (l.old j v q)).2, by rw [l.len']; simp, fun j => ?_⟩
      · rcases get_cons q with ⟨rfl, rfl⟩ | ⟨k, rfl, q⟩
        · exact ⟨x, rfl, rv⟩
        · obtain ⟨y, h1, h2⟩ := l.rv k u q
          exact ⟨y, by simpa using h1, h2⟩
      · rcases get_cons q with ⟨rfl, q⟩ | ⟨k, rfl, q⟩
        · cases q
          exact .inr ⟨i, t, rfl, hs, gone⟩
        · rcases l.own k t' ys' q with h | ⟨i', u, h1, h2, h3⟩
          · exact .inl (by simpa using h)
          · exact .inr ⟨i', u, by simpa using h1, (key _ _ h2).2, h3⟩
      · have away : ∀ (k : Nat) (t : Bool) (ys : List D), vs[k]? = some (.own t ys) → ags[k]? = some (.ref i) → False := fun k t ys a b => by
          rcases l.own k t ys a with h | ⟨i2, u, h1, h2, _⟩
          · rw [b] at h; cases h
          · rw [b] at h1; cases h1; exact (key _ _ h2).1 rfl
        rcases get_cons q1 with ⟨rfl, q1⟩ | ⟨k, rfl, q1⟩
        · have q3 : Ag.ref i = Ag.ref i' := by simpa using q3
          cases q3
          rcases get_cons q2 with ⟨rfl, _⟩ | ⟨k', rfl, q2⟩
          · rfl
          · exact (away k' _ _ q2 (by simpa using q4)).elim
        · rcases get_cons q2 with ⟨rfl, q2⟩ | ⟨k', rfl, q2⟩
          · have q4 : Ag.ref i = Ag.ref i' := by simpa using q4
            cases q4
            exact (away k _ _ q1 (by simpa using q3)).elim
          · rw [l.one k k' i' t' ys' u zs' q1 q2 (by simpa using q3) (by simpa using q4)]
      · by_cases hij : i = j
        · subst hij
          exact .inr ⟨0, t, zs, rfl, hs⟩
        · rcases l.kept j with h | ⟨k, t', ys', h1, h2⟩
          · rw [List.getElem?_set_ne hij] at h
            exact .inl h
          · exact .inr ⟨k + 1, t', ys', by simpa using h1, (key _ _ h2).2⟩
    · rename_i zs hs
      obtain ⟨⟨vs, s2⟩, e1, e2⟩ := Option.map_eq_some_iff.mp e
      cases e2
      obtain ⟨x', hx', q⟩ := st.rel i _ hs
      rw [hx] at hx'
      obtain rfl := Option.some.inj (Option.some.inj hx')
      exact (lend_is st r2 e1).cons (v := .d (.lst zs)) q (.inr ⟨i, rfl, fun _ _ z => nomatch z⟩)
    · rename_i d hs
      obtain ⟨⟨vs, s2⟩, e1, e2⟩ := Option.map_eq_some_iff.mp e
      cases e2
      obtain ⟨x', hx', q⟩ := st.rel i _ hs
      rw [hx] at hx'
      obtain rfl := Option.some.inj (Option.some.inj hx')
      exact (lend_is st r2 e1).cons (v := .d d) q (.inr ⟨i, rfl, fun _ _ z => nomatch z⟩)
    · cases e

structure LentOk (g : G) (H0 Z H : Hp) (σ : L2.St) (xs : List V) (s s' : S) (us : List Vl) : Prop where
  callee : Sr g Z (us.map some) (xs.map some) H
  rest : Sr g Z s' σ H
  from_ : ∀ a, Own (us.map some) (xs.map some) a → H0 a = none ∨ (Own s σ a ∧ ¬ Own s' σ a)
  away : ∀ a, Own s' σ a → Own s σ a ∧ ¬ Own (us.map some) (xs.map some) a
theorem map_some {α : Type} {l : List α} {j : Nat} {v : α} (h : (l.map some)[j]? = some (some v)) : l[j]? = some v := by
  rw [List.getElem?_map] at h
  cases e : l[j]? with
  | none => rw [e] at h; cases h
  | some u => rw [e] at h; cases h; rfl
theorem some_map {α : Type} {l : List α} {j : Nat} {v : α} (h : l[j]? = some v) : (l.map some)[j]? = some (some v) := by
  rw [List.getElem?_map, h]; rfl
theorem lend_ok {H0 Z H : Hp} {σ : L2.St} {ags : List Ag} {xs : List V} {s s' : S} {us : List Vl} (st : Sr g Z s σ H) (o : ∀ a, Own s σ a → H0 a ≠ none) (r : AgsR g H0 Z H σ ags xs) (l : Lent g Z H σ ags xs s s' us) : LentOk g H0 Z H σ xs s s' us := by
  have st' : Sr g Z s' σ H := ⟨by rw [l.len', st.len], st.sub, fun j v q => st.rel j v (l.old j v q), fun j k t u xs ys b e1 e2 e3 e4 => st.inj j k t u xs ys b (l.old _ _ e1) (l.old _ _ e2) e3 e4⟩
  have fr : ∀ (j : Nat) t ys a, us[j]? = some (.own t ys) → xs[j]? = some (.ref a) → (ags[j]? = some (.val (.own t ys)) ∧ H0 a = none) ∨ ∃ (i : Nat) (u : Bool), ags[j]? = some (.ref i) ∧ s[i]? = some (some (.own u ys)) ∧ s'[i]? = some none ∧ σ[i]? = some (some (.ref a)) := fun j t ys a e1 e2 => by
    rcases l.own j t ys e1 with h | ⟨i, u, h1, h2, h3⟩
    · exact .inl ⟨h, r.new j t ys a h e2⟩
    · exact .inr ⟨i, u, h1, h2, h3, r.ref j i _ h1 e2⟩
  have frm : ∀ a, Own (us.map some) (xs.map some) a → H0 a = none ∨ (Own s σ a ∧ ¬ Own s' σ a) := fun a ⟨j, t, ys, e1, e2⟩ => by
    rcases fr j t ys a (map_some e1) (map_some e2) with ⟨_, h⟩ | ⟨i, u, h1, h2, h3, h4⟩
    · exact .inl h
    · refine .inr ⟨⟨i, u, ys, h2, h4⟩, fun ⟨k, t', zs, q1, q2⟩ => ?_⟩
      have hk := l.old k _ q1
      have : k = i := st.inj k i t' u zs ys a hk h2 q2 h4
      subst this
      rw [h3] at q1
      cases q1
  refine ⟨⟨by rw [List.length_map, List.length_map, l.len, r.len], st.sub, fun j v e => ?_, fun j j' t u ys zs a e1 e2 e3 e4 => ?_⟩, st', frm, fun a q => ⟨?_, fun z => ?_⟩⟩
  · obtain ⟨x, h1, h2⟩ := l.rv j v (map_some e)
    exact ⟨x, some_map h1, h2⟩
  · have b1 := map_some e1
    have b2 := map_some e2
    rcases fr j t ys a b1 (map_some e3) with ⟨h1, n1⟩ | ⟨i, w, h1, h2, h3, h4⟩
    · rcases fr j' u zs a b2 (map_some e4) with ⟨k1, n2⟩ | ⟨i', w', k1, k2, k3, k4⟩
      · exact r.apart j j' t u ys zs a h1 k1 (map_some e3) (map_some e4)
      · exact absurd n1 (o a ⟨i', w', zs, k2, k4⟩)
    · rcases fr j' u zs a b2 (map_some e4) with ⟨k1, n2⟩ | ⟨i', w', k1, k2, k3, k4⟩
      · exact absurd n2 (o a ⟨i, w, ys, h2, h4⟩)
      · have : i = i' := st.inj i i' w w' ys zs a h2 k2 h4 k4
        subst this
        exact l.one j j' i t ys u zs b1 b2 h1 k1
  · obtain ⟨i, t, ys, q1, q2⟩ := q
    exact ⟨i, t, ys, l.old i _ q1, q2⟩
  · rcases frm a z with n | ⟨_, n⟩
    · obtain ⟨i, t, ys, q1, q2⟩ := q
      exact o a ⟨i, t, ys, l.old i _ q1, q2⟩ n
    · exact n q

/-! ### what comes back -/
/-- a slot's list as it comes back -/
def Conv (o : Option Vl) (tag : Bool) (v : Vl) : Prop := (∃ t ys, o = some (.own t ys) ∧ v = .own tag ys) ∨ ∃ ys, o = some (.fz ys) ∧ (v = .fz ys ∨ v = .d (.lst ys))
def ownAt (s : S) (k : Nat) : Prop := ∃ t ys, s[k]? = some (some (.own t ys))
theorem back_is : ∀ (ags : List Ag) (os : List (Option Vl)) (s : S) (k : Nat) (v : Vl), (back ags os s)[k]? = some (some v) → os.length = ags.length →
    (s[k]? = some (some v) ∧ ∀ j : Nat, ags[j]? = some (.ref k) → ¬ ownAt s k) ∨ ∃ (j : Nat) (o : Option Vl) (tag : Bool) (ys : List D), ags[j]? = some (.ref k) ∧ os[j]? = some o ∧ s[k]? = some (some (.own tag ys)) ∧ ∃ tag', Conv o tag' v
  | [], os, s, k, v, e, _ => .inl ⟨by simpa [back] using e, fun j h => by simp at h⟩
  | .val w :: r, [], s, k, v, e, h => by simp at h
  | .ref i :: r, [], s, k, v, e, h => by simp at h
  | .val w :: r, o :: os, s, k, v, e, h => by
    rcases back_is r os s k v e (by simpa using h) with ⟨h1, h2⟩ | ⟨j, o', tag, ys, h1, h2, h3⟩
    · refine .inl ⟨h1, fun j q => ?_⟩
      rcases get_cons q with ⟨rfl, q⟩ | ⟨m, rfl, q⟩
      · cases q
      · exact h2 m q
    · exact .inr ⟨j + 1, o', tag, ys, by simpa using h1, by simpa using h2, h3⟩
  | .ref i :: r, o :: os, s, k, v, e, h => by
    have len : os.length = r.length := by simpa using h
    by_cases ow : ownAt s i
    · obtain ⟨t, zs, hs⟩ := ow
      have hl : i < s.length := (List.getElem?_eq_some_iff.mp hs).1
      -- the slot's new content
      obtain ⟨n, hn, hb⟩ : ∃ n : Option Vl, (∀ w, n = some w → Conv o t w) ∧ back (.ref i :: r) (o :: os) s = back r os (s.set i n) := by
        have e0 : back (.ref i :: r) (o :: os) s = back r os (match s[i]? with
          | some (some (.own tag _)) => s.set i (back1 o tag)
          | _ => s) := rfl
        rw [e0, hs]
        refine ⟨back1 o t, fun w q => ?_, rfl⟩
        unfold back1 at q
        split at q
        · rename_i t' ys
          cases q
          exact .inl ⟨t', ys, rfl, rfl⟩
        · rename_i ys
          cases q
          exact .inr ⟨ys, rfl, by cases t <;> simp⟩
        · cases q
      rw [hb] at e
      rcases back_is r os (s.set i n) k v e len with ⟨h1, h2⟩ | ⟨j, o', tag, ys, h1, h2, h3, h4⟩
      · by_cases hik : i = k
        · subst hik
          rw [List.getElem?_set_self hl] at h1
          have h1 : n = some v := Option.some.inj h1
          exact .inr ⟨0, o, t, zs, rfl, rfl, hs, t, hn v h1⟩
        · rw [List.getElem?_set_ne hik] at h1
          refine .inl ⟨h1, fun j q => ?_⟩
          rcases get_cons q with ⟨rfl, q⟩ | ⟨m, rfl, q⟩
          · cases q; exact absurd rfl hik
          · intro ⟨t', ys', q'⟩
            exact h2 m q ⟨t', ys', by rw [List.getElem?_set_ne hik]; exact q'⟩
      · by_cases hik : i = k
        · subst hik
          exact .inr ⟨j + 1, o', t, zs, by simpa using h1, by simpa using h2, hs, h4⟩
        · rw [List.getElem?_set_ne hik] at h3
          exact .inr ⟨j + 1, o', tag, ys, by simpa using h1, by simpa using h2, h3, h4⟩
    · have hb : back (.ref i :: r) (o :: os) s = back r os s := by
        have e0 : back (.ref i :: r) (o :: os) s = back r os (match s[i]? with
          | some (some (.own tag _)) => s.set i (back1 o tag)
          | _ => s) := rfl
        rw [e0]
        congr 1
        split
        · rename_i tag ys q
          exact absurd ⟨tag, ys, q⟩ ow
        · rfl
      rw [hb] at e
      rcases back_is r os s k v e len with ⟨h1, h2⟩ | ⟨j, o', tag, ys, h1, h2, h3⟩
      · refine .inl ⟨h1, fun j q => ?_⟩
        rcases get_cons q with ⟨rfl, q⟩ | ⟨m, rfl, q⟩
        · cases q; exact ow
        · exact h2 m q
      · exact .inr ⟨j + 1, o', tag, ys, by simpa using h1, by simpa using h2, h3⟩
theorem back_len : ∀ (ags : List Ag) (os : List (Option Vl)) (s : S), (back ags os s).length = s.length
  | [], _, s => by simp [back]
  | .val _ :: _, [], s => by simp [back]
  | .ref _ :: _, [], s => by simp [back]
  | .val _ :: r, _ :: os, s => back_len r os s
  | .ref i :: r, o :: os, s => by
    rw [back, back_len r os]
    split <;> simp
theorem back_ok {H0 Z H Z' H' : Hp} {σ : L2.St} {ags : List Ag} {xs : List V} {s s' : S} {us : List Vl} {os : List (Option Vl)} (st : Sr g Z s σ H) (o : ∀ a, Own s σ a → H0 a ≠ none) (r : AgsR g H0 Z H σ ags xs) (l : Lent g Z H σ ags xs s s' us) (L : LentOk g H0 Z H σ xs s s' us)
    (k : Keep Z H (Own (us.map some) (xs.map some)) Z' H') (so : Sr g Z' os (xs.map some) H') (oo : ∀ a, Own os (xs.map some) a → Own (us.map some) (xs.map some) a) : Sr g Z' (back ags os s) σ H' ∧ ∀ a, Own (back ags os s) σ a → Own s σ a := by
  have lo : os.length = ags.length := by rw [so.len, List.length_map, r.len]
  -- what a slot holds behind the call
  have cases' : ∀ (i : Nat) v, (back ags os s)[i]? = some (some v) → (s'[i]? = some (some v) ∧ s[i]? = some (some v)) ∨ ∃ (j : Nat) (x : V) (tag : Bool) (ys : List D) (ov : Option Vl) (tg : Bool), xs[j]? = some x ∧ σ[i]? = some (some x) ∧ os[j]? = some ov ∧ s[i]? = some (some (.own tag ys)) ∧ Conv ov tg v := fun i v e => by
    rcases back_is ags os s i v e lo with ⟨h1, h2⟩ | ⟨j, ov, tag, ys, h1, h2, h3, tg, h4⟩
    · refine .inl ⟨?_, h1⟩
      rcases l.kept i with q | ⟨j, t, ys, q1, q2⟩
      · rw [q]; exact h1
      · exact absurd ⟨t, ys, q2⟩ (h2 j q1)
    · have hj : j < xs.length := by
        have := (List.getElem?_eq_some_iff.mp h1).1
        rw [r.len] at this
        exact this
      have hx := List.getElem?_eq_getElem hj
      exact .inr ⟨j, _, tag, ys, ov, tg, hx, r.ref j i _ h1 hx, h2, h3, h4⟩
  have own' : ∀ (i : Nat) t ys a, (back ags os s)[i]? = some (some (.own t ys)) → σ[i]? = some (some (.ref a)) → (∃ u, s'[i]? = some (some (.own u ys)) ∧ s[i]? = some (some (.own u ys))) ∨ ∃ (j : Nat) (u w : Bool) (zs : List D), xs[j]? = some (.ref a) ∧ os[j]? = some (some (.own u ys)) ∧ s[i]? = some (some (.own w zs)) := fun i t ys a e hx => by
    rcases cases' i _ e with ⟨h1, h2⟩ | ⟨j, x, tag, zs, ov, tg, h1, h2, h3, h4, h5⟩
    · exact .inl ⟨t, h1, h2⟩
    · rw [hx] at h2
      cases h2
      rcases h5 with ⟨t', ys', rfl, q⟩ | ⟨ys', rfl, q⟩
      · cases q
        exact .inr ⟨j, t', tag, zs, h1, h3, h4⟩
      · rcases q with q | q <;> cases q
  refine ⟨⟨by rw [back_len, st.len], so.sub, fun i v e => ?_, fun i i' t u ys zs a e1 e2 e3 e4 => ?_⟩, fun a ⟨i, t, ys, e1, e2⟩ => ?_⟩
  · rcases cases' i v e with ⟨h1, h2⟩ | ⟨j, x, tag, ys, ov, tg, h1, h2, h3, h4, h5⟩
    · obtain ⟨x, hx, rv⟩ := st.rel i v h2
      refine ⟨x, hx, rv.keep k fun t ys a q1 q2 => ?_⟩
      subst q1; subst q2
      exact (L.away a ⟨i, t, ys, h1, hx⟩).2
    · refine ⟨x, h2, ?_⟩
      rcases h5 with ⟨t', ys', rfl, rfl⟩ | ⟨ys', rfl, q⟩
      · obtain ⟨x', hx', rv⟩ := so.rel j _ h3
        rw [some_map h1] at hx'
        cases hx'
        exact rv
      · obtain ⟨x', hx', rv⟩ := so.rel j _ h3
        rw [some_map h1] at hx'
        cases hx'
        rcases q with rfl | rfl <;> exact rv
  · rcases own' i t ys a e1 e3 with ⟨u1, h1, h2⟩ | ⟨j, u1, w1, z1, h1, h2, h3⟩
    · rcases own' i' u zs a e2 e4 with ⟨u2, k1, k2⟩ | ⟨j', u2, w2, z2, k1, k2, k3⟩
      · exact st.inj i i' u1 u2 ys zs a h2 k2 e3 e4
      · exact absurd (oo a ⟨j', u2, zs, k2, some_map k1⟩) (L.away a ⟨i, u1, ys, h1, e3⟩).2
    · rcases own' i' u zs a e2 e4 with ⟨u2, k1, k2⟩ | ⟨j', u2, w2, z2, k1, k2, k3⟩
      · exact absurd (oo a ⟨j, u1, ys, h2, some_map h1⟩) (L.away a ⟨i', u2, zs, k1, e4⟩).2
      · exact st.inj i i' w1 w2 z1 z2 a h3 k3 e3 e4
  · rcases own' i t ys a e1 e2 with ⟨u1, h1, h2⟩ | ⟨j, u1, w1, z1, h1, h2, h3⟩
    · exact ⟨i, u1, ys, h2, e2⟩
    · exact ⟨i, w1, z1, h3, e2⟩
end
end MI

set_option Elab.async false
set_option linter.all false
set_option maxRecDepth 100000
set_option maxHeartbeats 4000000
/-! Calls of the text's own defs. -/
namespace MI
open PySem PySem.Spec PyProof.Rows L2
section
variable {g : G} {c : Cc} {W : WXX} {Φ : Call} {kk : Nat} {X : Cx}
theorem pe_P {k : Nat} {f : Addr} {fd : FuncData} {ps : List Str} {sp : Sp} {E : L2.St → XK} {x : Str} {p pos : Pos} {es : List Expr} {t : TA} (F : FnG X.prog X.w X.K X.mg X.base k f fd ps sp) (hr : Room k X.A) (gd : X.A.guards = some []) (hg : Gl X x) (hm : X.mg x = some (.ref f)) (hk : PySem.W.keepIn X.K (.ref f) = true)
    (db : (x == ("__debug__" : Str)) = false) (hx : ∀ σ, PassesAt (L2.CX X.prog X.w) X σ (E σ)) (hb : ∀ (s : Shared) (us : List Value), us.length = ps.length → BindsTo s fd ⟨us, []⟩ (ps.zip us)) (h0 : es = [] → ∀ σ H Q, t σ H Q → Q [] H) (ha : PA X es t) (ns : es.all noStar = true) :
    PE X (.Call (.Name x p) es [] pos) (fun σ H Q => t σ H fun vs H1 => sp vs H1 Q (E σ)) := by
  refine ⟨fun pins s σ H Q I h => wpAny_Call_Name_kw (ld_glob I hg hm ?_ db)⟩
  have go : ∀ (us : List Value) (vs : List V) (s1 : Shared) (H1 : Hp), Inv X pins σ H1 s1 → Vals vs us → sp vs H1 Q (E σ) → wpAny (model X.prog X.w) X.A (call (.ref f) us) (EP X pins σ Q) X.xe s1 := fun us vs s1 H1 I1 r q => by
    have := run_G (ks := []) (ws := []) (zs := []) (gU := fun a _ => a) (gV := fun a _ => a) (vs := vs) (us := us) F hr gd (fun hl => by simpa using hb s1 us hl) r (hx σ) I1 q
    simpa using this
  cases es with
  | nil => exact PySem.W.callWith_K0 I.kIn hk (go [] [] s H I .nil (h0 rfl σ H _ h))
  | cons e es =>
    have n2 := ns
    rw [List.all_cons, Bool.and_eq_true] at n2
    refine PySem.W.callWith_K (h₀ := X.base) I.ok.mod.kin hk (thn (ha.run pos pins s σ H _ I h) fun us s1 ⟨vs, H1, I1, r, q⟩ => ⟨I1.kIn, go us vs s1 H1 I1 r q⟩) (star_cons n2.1 es _) (star_any n2.2 pos _)
theorem Keep.two {Z H Z1 H1 Z' H' : Hp} {O O1 : Addr → Prop} (a : Keep Z H O Z1 H1) (b : Keep Z1 H1 O1 Z' H') (o : ∀ x, O1 x → H x = none ∨ O x) : Keep Z H O Z' H' where
  z := a.z.trans b.z
  h := fun x u e k => b.h x u (a.h x u e k) fun q => (o x q).elim (fun n => by rw [n] at e; cases e) k
  n := fun x u e k z => b.n x u (a.h x u e k) (fun q => (o x q).elim (fun n => by rw [n] at e; cases e) k) (a.n x u e k z)
  f := fun x e => a.f x (b.f x e)
/-- how positional arguments bind -/
theorem bind_pos {fd : FuncData} {as : List Arg} {ps : List Str} {us : List Value} (hp : fd.params = plainArgs as) (ha : as.map (·.arg) = ps) (hd : fd.defaults = .none) (nd : ps.Nodup) (hl : us.length = ps.length) (s : Shared) : BindsTo s fd ⟨us, []⟩ (ps.zip us) := by
  refine .of_eq ?_
  have := bind_args (ks := []) (ws := []) (us := us) (vs := us) hp ha hd (by simp [hl]) rfl (fun _ h => by simp at h) List.nodup_nil (fun _ h => by simp at h) hl fun i p v e1 e2 => by
    rw [List.zip_nil_left, List.append_nil]
    have hp' : p ∈ ps := List.mem_of_getElem? e1
    rw [lookup_zip hl.symm.symm hp']
    have : ps.idxOf p = i := by
      have hi := (List.getElem?_eq_some_iff.mp e1)
      obtain ⟨hi, e⟩ := hi
      rw [← e]
      exact nd.idxOf_getElem i hi
    rw [this]
    exact e2
  simpa using this
/-- a call's arguments by place -/
theorem d_call {k : Nat} {sg : Sg} {p pos : Pos} {es : List Expr} {ts : T} (O : OkX g c W Φ kk X) (hS : c.sg[k]? = some sg) (hg : c.sc.names.lookup sg.name = some .globalImplicit) (db : (sg.name == ("__debug__" : Str)) = false) (ha : PA X es (rdA g W Φ ts)) (ns : es.all noStar = true) (hn : es = [] → ts = .nil) :
    PE X (.Call (.Name sg.name p) es [] pos) (rdE g W Φ (.call k ts)) := by
  obtain ⟨fd, as, hm, hk, hp, has, hd, nd, F⟩ := O.fnm k sg hS
  refine PE.mono (pe_P (E := fun σ => WE W σ) (t := rdA g W Φ ts) F O.hr O.gd (by show X.env.scope.names.lookup sg.name = _; rw [O.hs]; exact hg) hm hk db (fun σ => passAt O.tk σ) (fun s us hl => bind_pos hp has hd nd hl s) (fun e σ H Q h => ?_) ha ns) fun σ H Q ⟨Z, s, st, h⟩ => ?_
  · obtain ⟨Z, s, st, h⟩ := h
    rw [hn e] at h
    have h : Res g W σ Z H s (.ok [] s) fun ags _ Z' H' => ∀ xs, AgsR g H Z' H' σ ags xs → Q xs H' := h
    exact h.now st [] .nil
  · refine ⟨Z, s, st, ?_⟩
    let nx : List Ag → S → R Vl := fun vs s => match lend vs s with
      | none => .no
      | some (us, _) => match Φ k us with
        | .ok (v, os) _ => .ok v (back vs os s)
        | .ex c fs os => .ex c fs (back vs os s)
        | .no => .no
    have h : Res g W σ Z H s ((evA Φ ts s).bind nx) fun v _ Z' H' => ∀ x, RF g H Z' H' v x → Q x H' := h
    cases e : evA Φ ts s with
    | no => rw [e] at h; exact h.elim
    | ex c fs s' => rw [e] at h; exact h
    | ok ags s1 =>
      rw [e] at h
      intro Z1 H1 k1 st1 o1 xs rs
      have h : Res g W σ Z H s (nx ags s1) fun v _ Z' H' => ∀ x, RF g H Z' H' v x → Q x H' := h
      cases e1 : lend ags s1 with
      | none => simp only [nx, e1] at h; exact h.elim
      | some p =>
        obtain ⟨us, s2⟩ := p
        have old := own_old st o1
        have l := lend_is st1 rs e1
        have L := lend_ok st1 old rs l
        have ow : ∀ a, Own (us.map some) (xs.map some) a → H a = none ∨ Own s σ a := fun a q => (L.from_ a q).imp id fun z => o1 a z.1
        refine ⟨Z1, us, L.callee, ?_⟩
        cases e2 : Φ k us with
        | no => simp only [nx, e1, e2] at h; exact h.elim
        | ok r sr =>
          obtain ⟨v, os⟩ := r
          simp only [nx, e1, e2] at h
          intro Z' H' x k2 so oo rf
          obtain ⟨sb, ob⟩ := back_ok st1 old rs l L k2 so oo
          exact h Z' H' (k1.two k2 ow) sb (fun a q => o1 a (ob a q)) x (rf.back k1)
        | ex cc fs os =>
          simp only [nx, e1, e2] at h
          intro Z' H' dd k2 so oo rx
          obtain ⟨sb, ob⟩ := back_ok st1 old rs l L k2 so oo
          exact h Z' H' dd (k1.two k2 ow) sb (fun a q => o1 a (ob a q)) rx

/-! ### keywords -/
theorem PK.mono {kws : List Keyword} {t t' : TA} (h : PK X kws t) (m : ∀ σ H Q, t' σ H Q → t σ H Q) : PK X kws t' := ⟨fun pos pins s σ H Q I q => h.run pos pins s σ H Q I (m σ H Q q)⟩
theorem k_nil : PK X [] (rdIt g W Φ .nil) := PK.mono pk_nil fun σ H Q ⟨Z, s, st, h⟩ => by
  have h : Res g W σ Z H s (.ok [] s) fun ds _ Z' H' => ∀ xs, RDs g Z' ds xs → Q xs H' := h
  exact h.now st [] .nil
theorem k_cons {e : Expr} {kws : List Keyword} {t ts : T} {nm : Option Str} {kp : Pos} (h1 : PE X e (rdE g W Φ t)) (h2 : PK X kws (rdIt g W Φ ts)) : PK X (⟨nm, e, kp⟩ :: kws) (rdIt g W Φ (.cons t ts)) := by
  refine PK.mono (pk_cons h1 h2) fun σ H Q ⟨Z, s, st, h⟩ => ?_
  refine rdE_of st (h.bind.mono fun v s1 Z1 H1 k1 st1 o1 q x rx => ⟨Z1, s1, st1, q.bind.mono fun ds s2 Z2 H2 k2 st2 o2 q2 xs rs => ?_⟩)
  have q2 : Res g W σ Z2 H2 s2 (.ok (v.dat :: ds) s2) fun ds _ Z' H' => ∀ xs, RDs g Z' ds xs → Q xs H' := q2
  exact q2.now st2 _ (.cons (rx.mono k2.z) rs)
theorem bind_ok {α β : Type} {r : R α} {f : α → S → R β} {b : β} {s' : S} (h : r.bind f = .ok b s') : ∃ a s1, r = .ok a s1 ∧ f a s1 = .ok b s' := by
  cases r with
  | ok a s1 => exact ⟨a, s1, rfl, h⟩
  | ex c fs s1 => cases h
  | no => cases h
theorem evL_len : ∀ (t : T) {s s' : S} {ds : List D} {n : Nat}, plainLen t = some n → evL Φ t s = .ok ds s' → ds.length = n := by
  intro t
  induction t with
  | nil => intro s s' ds n h e; cases h; cases e; rfl
  | cons a r _ ih =>
    intro s s' ds n h e
    obtain ⟨m, h1, rfl⟩ := Option.map_eq_some_iff.mp h
    obtain ⟨x, s1, e1, e2⟩ := bind_ok (show (evE Φ a s).bind (fun x s => (evL Φ r s).bind fun xs s => .ok (x.dat :: xs) s) = .ok ds s' from e)
    obtain ⟨xs, s2, e3, e4⟩ := bind_ok e2
    cases e4
    rw [List.length_cons, ih h1 e3]
  | _ => intro s s' ds n h e; cases h
theorem rdIt_len {t : T} {n : Nat} (h : plainLen t = some n) : ∀ σ H Q, rdIt g W Φ t σ H Q → rdIt g W Φ t σ H fun vs H1 => vs.length = n ∧ Q vs H1 := fun σ H Q ⟨Z, s, st, q⟩ => ⟨Z, s, st, by
  cases e : evL Φ t s with
  | no => rw [e] at q; exact q.elim
  | ex c fs s' => rw [e] at q; exact q
  | ok ds s' =>
    rw [e] at q
    exact fun Z' H' k st' o xs rs => ⟨by rw [← rs.length]; exact evL_len t h e, q Z' H' k st' o xs rs⟩⟩
theorem pick_get {α : Type} {l : List α} : ∀ {perm : List Nat}, (∀ j ∈ perm, j < l.length) → (pick perm l).length = perm.length ∧ ∀ i : Nat, (pick perm l)[i]? = (perm[i]?).bind fun j => l[j]?
  | [], _ => ⟨rfl, fun i => by simp [pick]⟩
  | j :: perm, h => by
    obtain ⟨h1, h2⟩ := pick_get (perm := perm) fun k hk => h k (List.mem_cons_of_mem _ hk)
    have e : pick (j :: perm) l = l[j]'(h j List.mem_cons_self) :: pick perm l := by
      unfold pick
      rw [List.filterMap_cons, List.getElem?_eq_getElem (h j List.mem_cons_self)]
    rw [e]
    refine ⟨by rw [List.length_cons, h1, List.length_cons], fun i => ?_⟩
    cases i with
    | zero => simp
    | succ i => simpa using h2 i
theorem pick_rel {α β : Type} {R : α → β → Prop} {l : List α} {m : List β} {perm : List Nat} (h : ∀ (j : Nat) a b, l[j]? = some a → m[j]? = some b → R a b) (hl : l.length = m.length) : ∀ (i : Nat) a b, (pick perm l)[i]? = some a → (pick perm m)[i]? = some b → R a b := by
  induction perm with
  | nil => intro i a b h1; simp [pick] at h1
  | cons j perm ih =>
    by_cases hj : j < l.length
    · have e1 : pick (j :: perm) l = l[j] :: pick perm l := by unfold pick; rw [List.filterMap_cons, List.getElem?_eq_getElem hj]
      have e2 : pick (j :: perm) m = m[j]'(hl ▸ hj) :: pick perm m := by unfold pick; rw [List.filterMap_cons, List.getElem?_eq_getElem (hl ▸ hj)]
      rw [e1, e2]
      intro i a b h1 h2
      cases i with
      | zero =>
        simp at h1 h2
        subst h1; subst h2
        exact h j _ _ (List.getElem?_eq_getElem hj) (List.getElem?_eq_getElem (hl ▸ hj))
      | succ i => exact ih i a b (by simpa using h1) (by simpa using h2)
    · have e1 : pick (j :: perm) l = pick perm l := by unfold pick; rw [List.filterMap_cons, List.getElem?_eq_none (by omega)]
      have e2 : pick (j :: perm) m = pick perm m := by unfold pick; rw [List.filterMap_cons, List.getElem?_eq_none (by omega)]
      rw [e1, e2]
      exact ih
theorem pick_len {α β : Type} {l : List α} {m : List β} {perm : List Nat} (hl : l.length = m.length) : (pick perm l).length = (pick perm m).length := by
  induction perm with
  | nil => rfl
  | cons j perm ih =>
    by_cases hj : j < l.length
    · have e1 : pick (j :: perm) l = l[j] :: pick perm l := by unfold pick; rw [List.filterMap_cons, List.getElem?_eq_getElem hj]
      have e2 : pick (j :: perm) m = m[j]'(hl ▸ hj) :: pick perm m := by unfold pick; rw [List.filterMap_cons, List.getElem?_eq_getElem (hl ▸ hj)]
      rw [e1, e2, List.length_cons, List.length_cons, ih]
    · have e1 : pick (j :: perm) l = pick perm l := by unfold pick; rw [List.filterMap_cons, List.getElem?_eq_none (by omega)]
      have e2 : pick (j :: perm) m = pick perm m := by unfold pick; rw [List.filterMap_cons, List.getElem?_eq_none (by omega)]
      rw [e1, e2, ih]
theorem vals_of : ∀ {xs : List V} {us : List Value}, xs.length = us.length → (∀ (i : Nat) x u, xs[i]? = some x → us[i]? = some u → RelV x u) → Vals xs us
  | [], [], _, _ => .nil
  | [], _ :: _, h, _ => by simp at h
  | _ :: _, [], h, _ => by simp at h
  | x :: xs, u :: us, h, r => .cons (r 0 x u rfl rfl) (vals_of (by simpa using h) fun i y w a b => r (i + 1) y w (by simpa using a) (by simpa using b))
theorem pick_vals {vs : List V} {us : List Value} {perm : List Nat} (r : Vals vs us) : Vals (pick perm vs) (pick perm us) :=
  vals_of (pick_len r.length) (pick_rel (fun j a b e1 e2 => by
    obtain ⟨u, h1, h2⟩ := r.get e1
    rw [e2] at h1
    cases h1
    exact h2) r.length)
/-- the arguments' places by the parameters: n by place, then by the keywords ks -/
def permOf (ps : List Str) (n : Nat) (ks : List Str) : List Nat := (List.range ps.length).map fun i => if i < n then i else n + ks.idxOf (ps.getD i ⟨#[]⟩)
def kwOk (ps : List Str) (n : Nat) (ks : List Str) : Bool := decide (ps.length = n + ks.length) && decide ks.Nodup && ks.all (fun k => (ps.drop n).contains k) && (ps.drop n).all (fun p => ks.contains p)
theorem permOf_get {ps : List Str} {n : Nat} {ks : List Str} {i : Nat} {p : Str} (h : ps[i]? = some p) : (permOf ps n ks)[i]? = some (if i < n then i else n + ks.idxOf p) := by
  have hi := (List.getElem?_eq_some_iff.mp h)
  unfold permOf
  rw [List.getElem?_map, List.getElem?_range hi.1]
  simp only [Option.map_some]
  rw [List.getD_eq_getElem?_getD, h]
  rfl
theorem bind_kw {fd : FuncData} {as : List Arg} {ps ks : List Str} {n : Nat} {us ws : List Value} (hp : fd.params = plainArgs as) (ha : as.map (·.arg) = ps) (hd : fd.defaults = .none) (nd : ps.Nodup) (ok : kwOk ps n ks = true) (hu : us.length = n) (hw : ws.length = ks.length) (s : Shared) :
    BindsTo s fd ⟨us, ks.zip ws⟩ (ps.zip (pick (permOf ps n ks) (us ++ ws))) := by
  unfold kwOk at ok
  simp only [Bool.and_eq_true, decide_eq_true_eq, List.all_eq_true, List.contains_iff_mem] at ok
  obtain ⟨⟨⟨k1, k2⟩, k3⟩, k4⟩ := ok
  have inr : ∀ j ∈ permOf ps n ks, j < (us ++ ws).length := fun j hj => by
    obtain ⟨i, hi⟩ := List.getElem?_of_mem hj
    have hil : i < ps.length := by
      have := (List.getElem?_eq_some_iff.mp hi).1
      unfold permOf at this
      simpa using this
    rw [permOf_get (List.getElem?_eq_getElem hil)] at hi
    rw [List.length_append, hu, hw]
    split at hi
    · cases hi; omega
    · rename_i h
      cases hi
      have : ps[i] ∈ ps.drop n := List.mem_of_getElem? (i := i - n) (by rw [List.getElem?_drop, show n + (i - n) = i by omega]; exact List.getElem?_eq_getElem hil)
      have := List.idxOf_lt_length_iff.mpr (k4 _ this)
      omega
  obtain ⟨l1, l2⟩ := pick_get inr
  refine .of_eq (bind_args hp ha hd (by rw [hu]; exact k1) hw (fun k hk => List.mem_of_mem_drop (k3 k hk)) k2 (fun k hk i hi e => ?_) (by rw [l1]; unfold permOf; simp) fun i p v e1 e2 => ?_)
  · obtain ⟨j, hj⟩ := List.getElem?_of_mem (k3 k hk)
    rw [List.getElem?_drop] at hj
    have := (List.getElem?_inj (List.getElem?_eq_some_iff.mp e).1 nd).mp (e.trans hj.symm)
    omega
  · have hil := (List.getElem?_eq_some_iff.mp e1).1
    rw [l2, permOf_get e1] at e2
    rw [lookup_app]
    have zt : ps.zip us = (ps.take n).zip us := by
      rw [← hu]
      exact (List.zip_eq_zip_take_min (l₁ := ps) (l₂ := us)).trans (by rw [Nat.min_eq_right (by omega), List.take_length])
    by_cases h : i < n
    · rw [if_pos h] at e2
      have e2 : (us ++ ws)[i]? = some v := e2
      rw [List.getElem?_append_left (by omega)] at e2
      have e3 : (ps.take n)[i]? = some p := by rw [List.getElem?_take_of_lt h]; exact e1
      have nd2 : (ps.take n).Nodup := nd.sublist (List.take_sublist _ _)
      have ix : (ps.take n).idxOf p = i := by
        obtain ⟨hi, e⟩ := List.getElem?_eq_some_iff.mp e3
        rw [← e]
        exact nd2.idxOf_getElem i hi
      rw [zt, lookup_zip (by rw [List.length_take, hu]; omega) (List.mem_of_getElem? e3), ix, e2]
      rfl
    · rw [if_neg h] at e2
      have e2 : (us ++ ws)[n + ks.idxOf p]? = some v := e2
      rw [List.getElem?_append_right (by omega)] at e2
      have no : (ps.zip us).lookup p = none := lookup_none fun q hq z => by
        rw [zt] at hq
        obtain ⟨j, hj⟩ := List.getElem?_of_mem (List.of_mem_zip (show (q.1, q.2) ∈ _ from hq)).1
        have hjn : j < n := by
          have := (List.getElem?_eq_some_iff.mp hj).1
          rw [List.length_take] at this
          omega
        rw [List.getElem?_take_of_lt hjn, z] at hj
        have := (List.getElem?_inj (List.getElem?_eq_some_iff.mp e1).1 nd).mp (e1.trans hj.symm)
        omega
      have hm : p ∈ ks := k4 p (List.mem_of_getElem? (i := i - n) (by rw [List.getElem?_drop, show n + (i - n) = i by omega]; exact e1))
      rw [no, lookup_zip hw hm, Option.none_or]
      rw [show n + ks.idxOf p - us.length = ks.idxOf p by omega] at e2
      exact e2

theorem rd_pick {Z : Hp} {ds : List D} {xs : List V} {perm : List Nat} (r : RDs g Z ds xs) : RDs g Z (pick perm ds) (pick perm xs) := by
  induction perm with
  | nil => exact .nil
  | cons j perm ih =>
    have l := r.length
    by_cases hj : j < ds.length
    · have e1 : pick (j :: perm) ds = ds[j] :: pick perm ds := by unfold pick; rw [List.filterMap_cons, List.getElem?_eq_getElem hj]
      have e2 : pick (j :: perm) xs = xs[j]'(l ▸ hj) :: pick perm xs := by unfold pick; rw [List.filterMap_cons, List.getElem?_eq_getElem (l ▸ hj)]
      rw [e1, e2]
      obtain ⟨v, h1, h2⟩ := r.get (List.getElem?_eq_getElem hj)
      rw [List.getElem?_eq_getElem (l ▸ hj)] at h1
      cases h1
      exact .cons h2 ih
    · have e1 : pick (j :: perm) ds = pick perm ds := by unfold pick; rw [List.filterMap_cons, List.getElem?_eq_none (by omega)]
      have e2 : pick (j :: perm) xs = pick perm xs := by unfold pick; rw [List.filterMap_cons, List.getElem?_eq_none (by omega)]
      rw [e1, e2]
      exact ih
/-- data as arguments -/
theorem sr_data {Z H : Hp} {ds : List D} {xs : List V} (sb : Same Z H) (r : RDs g Z ds xs) : Sr g Z ((ds.map Vl.d).map some) (xs.map some) H := by
  refine ⟨by simp [r.length], sb, fun i v e => ?_, fun i j t u ys zs a e => ?_⟩
  · have e := map_some e
    rw [List.getElem?_map] at e
    cases q : ds[i]? with
    | none => rw [q] at e; cases e
    | some d =>
      rw [q] at e
      cases e
      obtain ⟨x, h1, h2⟩ := r.get q
      exact ⟨x, some_map h1, h2⟩
  · have e := map_some e
    rw [List.getElem?_map] at e
    cases q : ds[i]? with
    | none => rw [q] at e; cases e
    | some d => rw [q] at e; cases e
theorem no_own {ds : List D} {σ : L2.St} {a : Addr} : ¬ Own ((ds.map Vl.d).map some) σ a := fun ⟨i, t, ys, e, _⟩ => by
  have e := map_some e
  rw [List.getElem?_map] at e
  cases q : ds[i]? with
  | none => rw [q] at e; cases e
  | some d => rw [q] at e; cases e
theorem d_callk {k n : Nat} {sg : Sg} {ks : List Str} {p pos : Pos} {es : List Expr} {kws : List Keyword} {ts tk : T} (O : OkX g c W Φ kk X) (hS : c.sg[k]? = some sg) (hg : c.sc.names.lookup sg.name = some .globalImplicit) (db : (sg.name == ("__debug__" : Str)) = false)
    (ha : PA X es (rdIt g W Φ ts)) (hk : PK X kws (rdIt g W Φ tk)) (ns : es.all noStar = true) (hn : es = [] → ts = .nil) (kn : kwNames kws = some ks) (ok : kwOk sg.ps es.length ks = true) (l1 : plainLen ts = some es.length) (l2 : plainLen tk = some ks.length) :
    PE X (.Call (.Name sg.name p) es kws pos) (rdE g W Φ (.callk k (permOf sg.ps es.length ks) ts tk)) := by
  obtain ⟨fd, as, hm, hkp, hp, has, hd, nd, F⟩ := O.fnm k sg hS
  refine PE.mono (pe_G (E := fun σ => WE W σ) (gU := fun us ws => pick (permOf sg.ps es.length ks) (us ++ ws)) (gV := fun us ws => pick (permOf sg.ps es.length ks) (us ++ ws)) F O.hr O.gd (by show X.env.scope.names.lookup sg.name = _; rw [O.hs]; exact hg) hm hkp db
    (fun σ => passAt O.tk σ) (fun s us ws h1 h2 => bind_kw hp has hd nd ok h1 h2 s) (fun vs zs us ws r1 r2 => pick_vals (r1.append r2)) (rdIt_len l1) (rdIt_len l2) (fun e σ H Q h => ?_) ha hk ns kn) fun σ H Q ⟨Z, s, st, h⟩ => ?_
  · obtain ⟨Z, s, st, h⟩ := h
    rw [hn e] at h
    have h : Res g W σ Z H s (.ok [] s) fun ds _ Z' H' => ∀ xs, RDs g Z' ds xs → Q xs H' := h
    exact h.now st [] .nil
  · let nx : List D → List D → S → R Vl := fun xs ys s => match Φ k ((pick (permOf sg.ps es.length ks) (xs ++ ys)).map .d) with
      | .ok (v, _) _ => .ok v s
      | .ex c fs _ => .ex c fs s
      | .no => .no
    have h : Res g W σ Z H s ((evL Φ ts s).bind fun xs s => (evL Φ tk s).bind fun ys s => nx xs ys s) fun v _ Z' H' => ∀ x, RF g H Z' H' v x → Q x H' := h
    refine ⟨Z, s, st, h.bind.mono fun ds s1 Z1 H1 k1 st1 o1 q xs rs => ⟨Z1, s1, st1, q.bind.mono fun es' s2 Z2 H2 k2 st2 o2 q2 ys rs2 => ?_⟩⟩
    have rr : RDs g Z2 (pick (permOf sg.ps es.length ks) (ds ++ es')) (pick (permOf sg.ps es.length ks) (xs ++ ys)) := rd_pick ((rs.mono k2.z).append rs2)
    refine ⟨Z2, _, sr_data st2.sub rr, ?_⟩
    cases e2 : Φ k ((pick (permOf sg.ps es.length ks) (ds ++ es')).map .d) with
    | no => simp only [nx, e2] at q2; exact q2.elim
    | ok r sr =>
      obtain ⟨v, os⟩ := r
      simp only [nx, e2] at q2
      intro Z' H' x k3 so oo rf
      have k3' : Ext Z2 H2 Z' H' := k3.wide fun a z => (no_own z).elim
      exact q2 Z' H' (k3'.wide fun _ z => z.elim) (st2.ext k3' so.sub) (fun _ q => q) x ((rf.back k2).back k1)
    | ex cc fs os =>
      simp only [nx, e2] at q2
      intro Z' H' dd k3 so oo rx
      have k3' : Ext Z2 H2 Z' H' := k3.wide fun a z => (no_own z).elim
      exact q2 Z' H' dd (k3'.wide fun _ z => z.elim) (st2.ext k3' so.sub) (fun _ q => q) rx
end
end MI

set_option Elab.async false
set_option linter.all false
set_option maxRecDepth 100000
set_option maxHeartbeats 4000000
/-! Built-in functions. -/
namespace MI
open PySem PySem.Spec PyProof.Rows L2
section
variable {g : G} {c : Cc} {W : WXX} {Φ : Call} {kk : Nat} {X : Cx}
inductive RBs (g : G) (Z H : Hp) : List D → List V → Prop where
  | nil : RBs g Z H [] []
  | cons {x : D} {v : V} {xs : List D} {vs : List V} : RB g Z H x v → RBs g Z H xs vs → RBs g Z H (x :: xs) (v :: vs)
theorem RBs.of {Z H : Hp} : ∀ {xs : List D} {vs : List V}, RDs g Z xs vs → RBs g Z H xs vs
  | _, _, .nil => .nil
  | _, _, .cons h r => .cons (.d h) (RBs.of r)
theorem RB.l {Z H : Hp} {xs : List D} {v : V} (sb : Same Z H) (r : RB g Z H (.lst xs) v) : ∃ a vs, v = .ref a ∧ SqP g.K H a vs ∧ RDs g Z xs vs := by
  cases r with
  | d h =>
    obtain ⟨a, vs, e, q, rs⟩ := h.l
    exact ⟨a, vs, e, sqP_mono sb q, rs⟩
  | own h rs => exact ⟨_, _, rfl, .inl (.inl h), rs⟩
theorem RB.t {Z H : Hp} {xs : List D} {v : V} (r : RB g Z H (.tup xs) v) : RD g Z (.tup xs) v := by
  cases r with
  | d h => exact h
theorem RB.i {Z H : Hp} {i : Int} {v : V} (r : RB g Z H (.int i) v) : v = .int i := by
  cases r with
  | d h => exact h.i
theorem RB.bl' {Z H : Hp} {b : Bool} {v : V} (r : RB g Z H (.bl b) v) : v = .bl b := by
  cases r with
  | d h => cases h; rfl
theorem RB.dp {Z H : Hp} (sb : Same Z H) {x : D} {v : V} {d : PyData} (r : RB g Z H x v) (e : toPy x = some d) : Dp g.K H v d := by
  cases r with
  | d h => exact h.dp sb e
  | own h rs =>
    simp only [toPy, Option.map_eq_some_iff] at e
    obtain ⟨ds, q, rfl⟩ := e
    exact .lst (.inl (.inl h)) (rs.dp sb q)
/-- what a built-in function asks and gives -/
def rBf (g : G) (b : Bf) : List V → Hp → VK → Prop := fun xs H Q => ∃ Z ds r, Same Z H ∧ RBs g Z H ds xs ∧ bf1 b ds = some r ∧ ∀ Z' H' v, Ext Z H Z' H' → Same Z' H' → RF g H Z' H' r v → Q v H'
theorem rbs1 {Z H : Hp} {x : D} {vs : List V} (r : RBs g Z H [x] vs) : ∃ v, vs = [v] ∧ RB g Z H x v := by
  cases r with
  | cons h q => cases q; exact ⟨_, rfl, h⟩
theorem rbs2 {Z H : Hp} {x y : D} {vs : List V} (r : RBs g Z H [x, y] vs) : ∃ v w, vs = [v, w] ∧ RB g Z H x v ∧ RB g Z H y w := by
  cases r with
  | cons h q =>
    obtain ⟨w, rfl, h2⟩ := rbs1 q
    exact ⟨_, _, rfl, h, h2⟩
theorem ints_rel {Z : Hp} : ∀ {xs : List D} {vs : List V} {ns : List Int}, RDs g Z xs vs → intsOf xs = some ns → vs = ns.map V.int ∧ xs = ns.map D.int
  | _, _, _, .nil, e => by cases e; exact ⟨rfl, rfl⟩
  | x :: xs, _, ns, .cons h r, e => by
    cases x with
    | int i =>
      obtain ⟨ms, e1, rfl⟩ := Option.map_eq_some_iff.mp (show (intsOf xs).map (i :: ·) = some ns from e)
      cases h
      obtain ⟨h1, h2⟩ := ints_rel r e1
      rw [h1, h2]
      exact ⟨rfl, rfl⟩
    | _ => cases e
theorem bools_rel {Z : Hp} : ∀ {xs : List D} {vs : List V} {ns : List Bool}, RDs g Z xs vs → boolsOf xs = some ns → vs = ns.map V.bl
  | _, _, _, .nil, e => by cases e; rfl
  | x :: xs, _, ns, .cons h r, e => by
    cases x with
    | bl i =>
      obtain ⟨ms, e1, rfl⟩ := Option.map_eq_some_iff.mp (show (boolsOf xs).map (i :: ·) = some ns from e)
      cases h
      rw [bools_rel r e1]
      rfl
    | _ => cases e
theorem ints_rd {Z : Hp} : ∀ ns : List Int, RDs g Z (ns.map D.int) (ns.map V.int)
  | [] => .nil
  | n :: ns => .cons (.int n) (ints_rd ns)
theorem cf_len (hK : g.K = X.K) : CallR X (.builtin "len") (rBf g .len) := by
  rintro pins s σ H vs us Q I r ⟨Z, ds, v, sb, rb, e, q⟩
  unfold bf1 at e
  split at e <;> first | cases e | skip
  all_goals rename_i h0; cases h0
  · obtain ⟨w, rfl, r1⟩ := rbs1 rb
    obtain ⟨a, ws, rfl, h, rs⟩ := r1.l sb
    exact call_len pins s σ H _ us Q I r ⟨_, _, rfl, .inl ⟨ws, hK ▸ h.sq, rs.length⟩, q Z H _ .refl sb (.flat (.int _))⟩
  · obtain ⟨w, rfl, r1⟩ := rbs1 rb
    obtain ⟨a, ws, rfl, h, rs⟩ := r1.t.t
    exact call_len pins s σ H _ us Q I r ⟨_, _, rfl, .inr ⟨ws, hK ▸ sqT_mono sb h, rs.length⟩, q Z H _ .refl sb (.flat (.int _))⟩

theorem kit_all : ∀ n ∈ tyNames, kitB "NoneType" n = some false ∧ kitB "bool" n = some (n == "bool" || n == "int") ∧ kitB "int" n = some (n == "int") ∧ kitB "str" n = some (n == "str") ∧ kitB "list" n = some (n == "list") ∧ kitB "tuple" n = some (n == "tuple") := by
  decide +kernel
theorem tyx_list {H : Hp} {a : Addr} {vs : List V} (h : SqP X.K H a vs) : TyX X.K H (.ref a) (.type "list") := by
  rcases h with (h | ⟨o, h⟩) | ⟨its, n, h, _⟩
  · exact .base (.lst h)
  · exact .base (.frz h)
  · exact .kList h rfl
theorem tyx_tup {H : Hp} {a : Addr} {vs : List V} (h : SqT X.K H a vs) : TyX X.K H (.ref a) (.type "tuple") := by
  rcases h with (h | ⟨o, h⟩) | ⟨o, its, n, hk, hc, _⟩
  · exact .base (.tup h)
  · exact .fTuple h
  · exact .kTuple hk hc
theorem cf_isinst (hK : g.K = X.K) : CallR X (.builtin "isinstance") (rBf g .isinst) := by
  rintro pins s σ H vs us Q I r ⟨Z, ds, v, sb, rb, e, q⟩
  unfold bf1 at e
  split at e <;> first | cases e | skip
  all_goals rename_i h0; cases h0
  rename_i x n
  split at e
  · rename_i hn
    have hn : n ∈ tyNames := by simpa using hn
    obtain ⟨k1, k2, k3, k4, k5, k6⟩ := kit_all n hn
    obtain ⟨b, e1, e2⟩ := Option.map_eq_some_iff.mp e
    subst e2
    obtain ⟨u, w, rfl, r1, r2⟩ := rbs2 rb
    have hw : w = .ty n := by
      cases r2 with
      | d h => cases h; rfl
    subst hw
    have qb := q Z H _ .refl sb (RF.b b)
    have fin : ∀ {t : String}, TyX X.K H u (.type t) → kitB t n = some b → wpAny (model X.prog X.w) X.A (call (.builtin "isinstance") us) (EP X pins σ Q) X.xe s := fun {t} ht hk => call_isi pins s σ H _ us Q I r ⟨_, _, _, _, _, rfl, .ty n, ht, kit_ty hk, qb⟩
    cases x with
    | non =>
      cases r1 with
      | d h => cases h; cases e1; exact fin (.base .non) k1
    | bl y =>
      cases r1 with
      | d h => cases h; cases e1; exact fin (.base (.bl _)) k2
    | int y =>
      cases r1 with
      | d h => cases h; cases e1; exact fin (.base (.int _)) k3
    | str y =>
      cases r1 with
      | d h => cases h; cases e1; exact fin (.base (.str _)) k4
    | lst y =>
      obtain ⟨a, ws, rfl, h, _⟩ := r1.l sb
      cases e1
      exact fin (tyx_list (hK ▸ h)) k5
    | tup y =>
      obtain ⟨a, ws, rfl, h, _⟩ := r1.t.t
      cases e1
      exact fin (tyx_tup (hK ▸ sqT_mono sb h)) k6
    | ty y => cases e1
    | fn y => cases e1
    | cl y => cases e1
  · cases e
theorem cf_abs : CallR X (.builtin "abs") (rBf g .abs) := by
  rintro pins s σ H vs us Q I r ⟨Z, ds, v, sb, rb, e, q⟩
  unfold bf1 at e
  split at e <;> first | cases e | skip
  all_goals rename_i h0; cases h0
  rename_i i
  obtain ⟨w, rfl, r1⟩ := rbs1 rb
  cases r1.i
  refine call_abs pins s σ H _ us Q I r ⟨i, rfl, ?_⟩
  have : (if i < 0 then -i else i) = (i.natAbs : Int) := by split <;> omega
  rw [this]
  exact q Z H _ .refl sb (.flat (.int _))
theorem cf_max (hK : g.K = X.K) (cm : X.calm = true) : CallR X (.builtin "max") (rBf g .max) := by
  rintro pins s σ H vs us Q I r ⟨Z, ds, v, sb, rb, e, q⟩
  unfold bf1 at e
  split at e <;> first | cases e | skip
  all_goals rename_i h0; cases h0
  · rename_i i j
    obtain ⟨w, w', rfl, r1, r2⟩ := rbs2 rb
    cases r1.i
    cases r2.i
    exact call_max2 cm pins s σ H _ us Q I r ⟨i, j, rfl, q Z H _ .refl sb (.flat (.int _))⟩
  · obtain ⟨ns, e1, e2⟩ := Option.bind_eq_some_iff.mp e
    obtain ⟨m, e3, e4⟩ := Option.map_eq_some_iff.mp e2
    subst e4
    obtain ⟨w, rfl, r1⟩ := rbs1 rb
    obtain ⟨a, ws, rfl, h, rs⟩ := r1.l sb
    obtain ⟨rfl, -⟩ := ints_rel rs e1
    obtain ⟨hm, hg⟩ := List.max?_eq_some_iff.mp e3
    refine cr_max cm pins s σ H _ us Q I r ⟨a, ns, rfl, (hK ▸ h.sq), List.length_pos_of_mem hm, fun m' hm' hg' => ?_⟩
    have : m' = m := Int.le_antisymm (hg m' hm') (hg' m hm)
    subst this
    exact q Z H _ .refl sb (.flat (.int _))
theorem cf_min (hK : g.K = X.K) (cm : X.calm = true) : CallR X (.builtin "min") (rBf g .min) := by
  rintro pins s σ H vs us Q I r ⟨Z, ds, v, sb, rb, e, q⟩
  unfold bf1 at e
  split at e <;> first | cases e | skip
  all_goals rename_i h0; cases h0
  · rename_i i j
    obtain ⟨w, w', rfl, r1, r2⟩ := rbs2 rb
    cases r1.i
    cases r2.i
    exact call_min2 cm pins s σ H _ us Q I r ⟨i, j, rfl, q Z H _ .refl sb (.flat (.int _))⟩
  · obtain ⟨ns, e1, e2⟩ := Option.bind_eq_some_iff.mp e
    obtain ⟨m, e3, e4⟩ := Option.map_eq_some_iff.mp e2
    subst e4
    obtain ⟨w, rfl, r1⟩ := rbs1 rb
    obtain ⟨a, ws, rfl, h, rs⟩ := r1.l sb
    obtain ⟨rfl, -⟩ := ints_rel rs e1
    obtain ⟨hm, hg⟩ := List.min?_eq_some_iff.mp e3
    refine cr_min cm pins s σ H _ us Q I r ⟨a, ns, rfl, (hK ▸ h.sq), List.length_pos_of_mem hm, fun m' hm' hg' => ?_⟩
    have : m' = m := Int.le_antisymm (hg' m hm) (hg m' hm')
    subst this
    exact q Z H _ .refl sb (.flat (.int _))
theorem cf_int : CallR X (.type "int") (rBf g .int) := by
  rintro pins s σ H vs us Q I r ⟨Z, ds, v, sb, rb, e, q⟩
  unfold bf1 at e
  split at e <;> first | cases e | skip
  all_goals rename_i h0; cases h0
  obtain ⟨w, rfl, r1⟩ := rbs1 rb
  cases r1.i
  exact call_int1 pins s σ H _ us Q I r (.inl ⟨_, rfl, q Z H _ .refl sb (.flat (.int _))⟩)
theorem cf_bool : CallR X (.type "bool") (rBf g .bool) := by
  rintro pins s σ H vs us Q I r ⟨Z, ds, v, sb, rb, e, q⟩
  unfold bf1 at e
  split at e <;> first | cases e | skip
  all_goals rename_i h0; cases h0
  · obtain ⟨w, rfl, r1⟩ := rbs1 rb
    cases r1.i
    exact call_bool1 pins s σ H _ us Q I r (.inl ⟨_, rfl, q Z H _ .refl sb (.flat (.bl _))⟩)
  · obtain ⟨w, rfl, r1⟩ := rbs1 rb
    cases r1.bl'
    exact call_bool1 pins s σ H _ us Q I r (.inr ⟨_, rfl, q Z H _ .refl sb (.flat (.bl _))⟩)
theorem cf_divmod : CallR X (.builtin "divmod") (rBf g .divmod) := by
  rintro pins s σ H vs us Q I r ⟨Z, ds, v, sb, rb, e, q⟩
  unfold bf1 at e
  split at e <;> first | cases e | skip
  all_goals rename_i h0; cases h0
  rename_i i j
  split at e
  · rename_i hc
    cases e
    simp only [Bool.and_eq_true, decide_eq_true_eq] at hc
    obtain ⟨w, w', rfl, r1, r2⟩ := rbs2 rb
    cases r1.i
    cases r2.i
    have lg := w4_log hc.2
    refine call_divmodW pins s σ H _ us Q I r ⟨i, j, rfl, ⟨hc.1, PyProof.noPylong_of_log2 (by omega)⟩, fun p hp => ?_⟩
    exact q _ _ _ (.layT sb hp) (Same.layT sb hp) (.tup sb hp (.cons (.int _) (.cons (.int _) .nil)))
  · cases e
theorem cf_all (hK : g.K = X.K) (cm : X.calm = true) : CallR X (.builtin "all") (rBf g .all) := by
  rintro pins s σ H vs us Q I r ⟨Z, ds, v, sb, rb, e, q⟩
  unfold bf1 at e
  split at e <;> first | cases e | skip
  all_goals rename_i h0; cases h0
  obtain ⟨bs, e1, e2⟩ := Option.map_eq_some_iff.mp e
  subst e2
  obtain ⟨w, rfl, r1⟩ := rbs1 rb
  obtain ⟨a, ws, rfl, h, rs⟩ := r1.l sb
  rw [bools_rel rs e1] at h
  exact cr_all cm pins s σ H _ us Q I r ⟨a, bs, rfl, (hK ▸ h.sq), q Z H _ .refl sb (.flat (.bl _))⟩
theorem cf_any (hK : g.K = X.K) (cm : X.calm = true) : CallR X (.builtin "any") (rBf g .any) := by
  rintro pins s σ H vs us Q I r ⟨Z, ds, v, sb, rb, e, q⟩
  unfold bf1 at e
  split at e <;> first | cases e | skip
  all_goals rename_i h0; cases h0
  obtain ⟨bs, e1, e2⟩ := Option.map_eq_some_iff.mp e
  subst e2
  obtain ⟨w, rfl, r1⟩ := rbs1 rb
  obtain ⟨a, ws, rfl, h, rs⟩ := r1.l sb
  rw [bools_rel rs e1] at h
  exact cr_any cm pins s σ H _ us Q I r ⟨a, bs, rfl, (hK ▸ h.sq), q Z H _ .refl sb (.flat (.bl _))⟩
theorem cf_sum (hK : g.K = X.K) (cm : X.calm = true) : CallR X (.builtin "sum") (rBf g .sum) := by
  rintro pins s σ H vs us Q I r ⟨Z, ds, v, sb, rb, e, q⟩
  unfold bf1 at e
  split at e <;> first | cases e | skip
  all_goals rename_i h0; cases h0
  obtain ⟨ns, e1, e2⟩ := Option.map_eq_some_iff.mp e
  subst e2
  obtain ⟨w, rfl, r1⟩ := rbs1 rb
  obtain ⟨a, ws, rfl, h, rs⟩ := r1.l sb
  rw [(ints_rel rs e1).1] at h
  exact cr_sum cm pins s σ H _ us Q I r ⟨a, ns, rfl, (hK ▸ h.sq), q Z H _ .refl sb (.flat (.int _))⟩
theorem le_ord : (∀ a b c : Int, decide (a ≤ b) = true → decide (b ≤ c) = true → decide (a ≤ c) = true) ∧ ∀ a b : Int, (decide (a ≤ b) || decide (b ≤ a)) = true := by
  constructor
  · intro a b c h1 h2
    simp only [decide_eq_true_eq] at *
    omega
  · intro a b
    simp only [Bool.or_eq_true, decide_eq_true_eq]
    omega
theorem sorted_is {ns ns' : List Int} (p : ns'.Perm ns) (s : ns'.Pairwise (· ≤ ·)) : ns' = ns.mergeSort fun a b => decide (a ≤ b) := by
  have h1 := List.pairwise_mergeSort (le := fun a b : Int => decide (a ≤ b)) le_ord.1 le_ord.2 ns
  have h2 := List.mergeSort_perm ns fun a b : Int => decide (a ≤ b)
  have h1' : (ns.mergeSort fun a b => decide (a ≤ b)).Pairwise (· ≤ ·) := h1.imp fun h => by simpa using h
  exact (p.trans h2.symm).eq_of_pairwise (fun a b _ _ h h' => Int.le_antisymm h h') s h1'
theorem cf_sorted (hK : g.K = X.K) : CallR X (.builtin "sorted") (rBf g .sorted) := by
  rintro pins s σ H vs us Q I r ⟨Z, ds, v, sb, rb, e, q⟩
  unfold bf1 at e
  split at e <;> first | cases e | skip
  all_goals rename_i h0; cases h0
  obtain ⟨ns, e1, e2⟩ := Option.map_eq_some_iff.mp e
  subst e2
  obtain ⟨w, rfl, r1⟩ := rbs1 rb
  obtain ⟨a, ws, rfl, h, rs⟩ := r1.l sb
  rw [(ints_rel rs e1).1] at h
  refine cr_sortedI pins s σ H _ us Q I r ⟨a, ns, rfl, (hK ▸ h.sq), fun ns' p pm st hp => ?_⟩
  rw [sorted_is pm st]
  exact q _ _ _ (.lay hp) (Same.lay sb hp) (.own sb hp (ints_rd _))
theorem cf_tuple (hK : g.K = X.K) : CallR X (.type "tuple") (rBf g .tuple) := by
  rintro pins s σ H vs us Q I r ⟨Z, ds, v, sb, rb, e, q⟩
  unfold bf1 at e
  split at e <;> first | cases e | skip
  all_goals rename_i h0; cases h0
  · obtain ⟨w, rfl, r1⟩ := rbs1 rb
    obtain ⟨a, ws, rfl, h, rs⟩ := r1.l sb
    exact call_tuple_of pins s σ H _ us Q I r ⟨a, ws, rfl, .inl ⟨hK ▸ h.sq, fun l hl => q _ _ _ (.layT sb hl) (Same.layT sb hl) (.tup sb hl rs)⟩⟩
  · obtain ⟨w, rfl, r1⟩ := rbs1 rb
    obtain ⟨a, ws, rfl, h, rs⟩ := r1.t.t
    exact call_tuple_of pins s σ H _ us Q I r ⟨a, ws, rfl, .inr ⟨hK ▸ sqT_mono sb h, q Z H _ .refl sb (.flat (.tup h rs))⟩⟩
theorem cf_list (hK : g.K = X.K) : CallR X (.type "list") (rBf g .list) := by
  rintro pins s σ H vs us Q I r ⟨Z, ds, v, sb, rb, e, q⟩
  unfold bf1 at e
  split at e <;> first | cases e | skip
  all_goals rename_i h0; cases h0
  · obtain ⟨w, rfl, r1⟩ := rbs1 rb
    obtain ⟨a, ws, rfl, h, rs⟩ := r1.l sb
    exact call_list_of pins s σ H _ us Q I r ⟨a, ws, rfl, .inl (hK ▸ h.sq), fun l hl => q _ _ _ (.lay hl) (Same.lay sb hl) (.own sb hl rs)⟩
  · obtain ⟨w, rfl, r1⟩ := rbs1 rb
    obtain ⟨a, ws, rfl, h, rs⟩ := r1.t.t
    exact call_list_of pins s σ H _ us Q I r ⟨a, ws, rfl, .inr (hK ▸ sqT_mono sb h), fun l hl => q _ _ _ (.lay hl) (Same.lay sb hl) (.own sb hl rs)⟩
theorem cf_repr (gd : X.A.guards = some []) (hr : X.A.units + 200 < cLine) (hK : g.K = X.K) : CallR X (.builtin "repr") (rBf g .repr) := by
  rintro pins s σ H vs us Q I r ⟨Z, ds, v, sb, rb, e, q⟩
  unfold bf1 at e
  split at e <;> first | cases e | skip
  all_goals rename_i h0; cases h0
  rename_i x
  split at e
  · rename_i d hd
    split at e
    · rename_i ok
      cases e
      simp only [Bool.and_eq_true, Bool.not_eq_true', decide_eq_true_eq] at ok
      obtain ⟨⟨⟨o1, o2⟩, o3⟩, o4⟩ := ok
      have o4 := fitsL_le o4
      obtain ⟨w, rfl, r1⟩ := rbs1 rb
      obtain ⟨u, rfl, ru⟩ := vals1 r
      have dp : Dp X.K H w d := hK ▸ r1.dp sb hd
      obtain ⟨as, rd⟩ := Dp.reads I d w u dp ru
      have qs := q Z H _ .refl sb (.flat (.str d.shown))
      have fin : ∀ h' t tk, (∀ b o, s.heap.get? b = some o → h'.get? b = some o) → EP X pins σ Q (.str d.shown t) { s with heap := h', toks := tk } := fun h' t tk k => ⟨.str d.shown, H, I.kept k, ⟨t, rfl⟩, qs⟩
      cases dp with
      | non =>
        cases ru
        refine PySem.P.repr_of_none ?_
        exact ⟨.str _, H, I.tok _, ⟨s.toks, by simp [PyData.shown]⟩, qs⟩
      | bl b =>
        cases ru
        refine PySem.P.repr_of_bool ?_
        exact ⟨.str _, H, I.tok _, ⟨s.toks, by simp [PyData.shown]⟩, qs⟩
      | int i =>
        obtain ⟨t, rfl⟩ := ru
        refine PySem.P.repr_of_int (by simpa [PyData.showable] using o1) ?_
        exact ⟨.str _, H, I.tok _, ⟨s.toks, by simp [PyData.shown]⟩, qs⟩
      | str z =>
        obtain ⟨t, rfl⟩ := ru
        have e : (PyData.str z).shown = reprText z := by simp [PyData.shown]
        rw [e] at qs o4
        exact PySem.P.repr_of_str ⟨.str _, H, I.tok _, ⟨_, rfl⟩, qs⟩ o4
      | lst h a =>
        cases ru
        exact repr_of_reads' rd o1 (PyData.noDict_hsm o2) gd (by omega) (fun _ _ e => e) (fun h' t tk k => fin h' t tk k) o4
      | tup h a =>
        cases ru
        exact repr_of_reads' rd o1 (PyData.noDict_hsm o2) gd (by omega) (fun _ _ e => e) (fun h' t tk k => fin h' t tk k) o4
    · cases e
  · cases e

/-! ### the call of a built-in by its name -/
def bfV : Bf → Value
  | .len => .builtin "len" | .abs => .builtin "abs" | .max => .builtin "max" | .min => .builtin "min" | .int => .type "int" | .isinst => .builtin "isinstance" | .divmod => .builtin "divmod" | .repr => .builtin "repr" | .all => .builtin "all" | .any => .builtin "any"
  | .sum => .builtin "sum" | .sorted => .builtin "sorted" | .list => .type "list" | .tuple => .type "tuple" | .bool => .type "bool" | .str => .type "str"
def bfTab : List (Str × Bf) := [("len", .len), ("abs", .abs), ("max", .max), ("min", .min), ("int", .int), ("isinstance", .isinst), ("divmod", .divmod), ("repr", .repr), ("all", .all), ("any", .any), ("sum", .sum), ("sorted", .sorted), ("list", .list), ("tuple", .tuple), ("bool", .bool)]
theorem bfTab_ok : ∀ p ∈ bfTab, bootBuiltins p.1 = some (bfV p.2) ∧ p.1 ∈ bns ∧ p.1 ≠ ("__name__" : Str) ∧ (p.1 == ("__debug__" : Str)) = false := by decide +kernel
theorem cf_any_bf (O : OkX g c W Φ kk X) (b : Bf) (hb : b ≠ .str) : CallR X (bfV b) (rBf g b) := by
  cases b with
  | len => exact cf_len O.hK
  | abs => exact cf_abs
  | max => exact cf_max O.hK O.cm
  | min => exact cf_min O.hK O.cm
  | int => exact cf_int
  | isinst => exact cf_isinst O.hK
  | divmod => exact cf_divmod
  | repr => exact cf_repr O.gd (by have := O.hr.un; omega) O.hK
  | all => exact cf_all O.hK O.cm
  | any => exact cf_any O.hK O.cm
  | sum => exact cf_sum O.hK O.cm
  | sorted => exact cf_sorted O.hK
  | list => exact cf_list O.hK
  | tuple => exact cf_tuple O.hK
  | bool => exact cf_bool
  | str => exact absurd rfl hb
theorem pe_bf {b : Bf} {x : Str} {p pos : Pos} {e : Expr} {es : List Expr} {t : TA} (O : OkX g c W Φ kk X) (hx : (x, b) ∈ bfTab) (hg : c.sc.names.lookup x = some .globalImplicit) (ha : PA X (e :: es) t) (ns : (e :: es).all noStar = true) :
    PE X (.Call (.Name x p) (e :: es) [] pos) (tCB (rBf g b) t) := by
  obtain ⟨hv, hm, h1, h2⟩ := bfTab_ok _ hx
  have hg' : Gl X x := by show X.env.scope.names.lookup x = _; rw [O.hs]; exact hg
  have mg := O.blt x hm
  rw [List.all_cons, Bool.and_eq_true] at ns
  have hb : b ≠ .str := by
    rintro rfl
    simp [bfTab] at hx
  have cf := cf_any_bf (g := g) O b hb
  cases b <;> first
    | exact pe_callB cf hg' mg hv ha h1 h2 (star_cons ns.1 es _) (star_any ns.2 pos _)
    | exact pe_callTy cf hg' mg hv ha h1 h2 (star_cons ns.1 es _) (star_any ns.2 pos _)
    | exact absurd rfl hb
theorem d_bf {b : Bf} {x : Str} {p pos : Pos} {e : Expr} {es : List Expr} {ts : T} (O : OkX g c W Φ kk X) (hx : (x, b) ∈ bfTab) (hg : c.sc.names.lookup x = some .globalImplicit) (ha : PA X (e :: es) (rdIt g W Φ ts)) (ns : (e :: es).all noStar = true) (nv : ∀ i, ts ≠ .cons (.var i) .nil) :
    PE X (.Call (.Name x p) (e :: es) [] pos) (rdE g W Φ (.bf b ts)) := by
  refine PE.mono (pe_bf O hx hg ha ns) fun σ H Q ⟨Z, s, st, h⟩ => ?_
  have e : evE Φ (.bf b ts) s = (evL Φ ts s).bind fun xs s => R.ofO (bf1 b xs) s := by
    cases ts with
    | cons a r =>
      cases a <;> first
        | rfl
        | (cases r <;> first | rfl | exact absurd rfl (nv _))
    | _ => rfl
  rw [e] at h
  refine ⟨Z, s, st, h.bind.mono fun ds s1 Z1 H1 k1 st1 o1 q xs rs => ?_⟩
  obtain ⟨r, e, q⟩ := fin_ofO st1 k1.f q
  exact ⟨Z1, ds, r, st1.sub, .of rs, e, q⟩
theorem d_bfV {b : Bf} {x y : Str} {p py pos : Pos} {i : Nat} (O : OkX g c W Φ kk X) (hx : (x, b) ∈ bfTab) (hg : c.sc.names.lookup x = some .globalImplicit) (hy : PE X (.Name y py) (tVar i)) :
    PE X (.Call (.Name x p) [.Name y py] [] pos) (rdE g W Φ (.bf b (.cons (.var i) .nil))) := by
  refine PE.mono (pe_bf O hx hg (pa_cons hy pa_nil rfl) rfl) fun σ H Q ⟨Z, s, st, h⟩ => ?_
  have h : Res g W σ Z H s (match peek i s with
    | some x => R.ofO (bf1 b [x]) s
    | none => .no) fun v _ Z' H' => ∀ x, RF g H Z' H' v x → Q x H' := h
  cases e0 : peek i s with
  | none => rw [e0] at h; exact h.elim
  | some d =>
    rw [e0] at h
    obtain ⟨v, hv, rb⟩ := peek_ok st e0
    obtain ⟨r, e, q⟩ := fin_ofO st (fun a e => e) h
    exact ⟨v, hv, Z, [d], r, st.sub, .cons rb .nil, e, q⟩
end
end MI

set_option Elab.async false
set_option linter.all false
set_option maxRecDepth 100000
set_option maxHeartbeats 4000000
/-! What is walked; targets; statements. -/
namespace MI
open PySem PySem.Spec PyProof.Rows L2
section
variable {g : G} {c : Cc} {W : WXX} {Φ : Call} {kk : Nat} {X : Cx}

/-! ### what is walked -/
structure JR (g : G) (Z0 : Hp) (ds : List D) (J : It) : Prop where
  go : ∀ (i : Nat) d Z H, Same Z0 Z → Same Z H → ds[i]? = some d → J.go i H ∧ ∀ x H', J.yld i H x H' → ∃ Z', Ext Z H Z' H' ∧ Same Z' H' ∧ RD g Z' d x
  stop : ∀ (i : Nat) Z H, Same Z0 Z → Same Z H → ds.length ≤ i → J.stop i H
def rdI (g : G) (W : WXX) (Φ : Call) (t : T) : TI := fun σ H R => ∃ Z s, Sr g Z s σ H ∧ Res g W σ Z H s (evI Φ t s) fun ds _ Z' H' => ∀ J, JR g Z' ds J → R J H'
theorem PI.mono {tg e : Expr} {t t' : TI} (h : PI X tg e t) (m : ∀ σ H Q, t' σ H Q → t σ H Q) : PI X tg e t' := ⟨fun pins s σ H Q I q => h.run pins s σ H Q I (m σ H Q q)⟩
theorem jr_list (hK : g.K = X.K) {Z0 : Hp} {ds : List D} {a : Addr} {vs : List V} (h : SqP X.K Z0 a vs) (r : RDs g Z0 ds vs) : JR g Z0 ds (Itl X.K a) where
  go := fun i d Z H z sb e => by
    obtain ⟨v, hv, rd⟩ := r.get e
    have hH := sqP_mono sb (sqP_mono z h)
    refine ⟨⟨vs, v, hH.sq, hv⟩, fun x H' ⟨e1, e2⟩ => ?_⟩
    subst e1
    have := e2 vs hH.sq
    rw [hv] at this
    cases this
    exact ⟨Z, .refl, sb, rd.mono z⟩
  stop := fun i Z H z sb l => ⟨vs, (sqP_mono sb (sqP_mono z h)).sq, by rw [← r.length]; exact l⟩
theorem jr_tup (hK : g.K = X.K) {Z0 : Hp} {ds : List D} {a : Addr} {vs : List V} (h : SqT X.K Z0 a vs) (r : RDs g Z0 ds vs) : JR g Z0 ds (Itt X.K a) where
  go := fun i d Z H z sb e => by
    obtain ⟨v, hv, rd⟩ := r.get e
    have hH := sqT_mono sb (sqT_mono z h)
    refine ⟨⟨vs, v, hH, hv⟩, fun x H' ⟨e1, e2⟩ => ?_⟩
    subst e1
    have := e2 vs hH
    rw [hv] at this
    cases this
    exact ⟨Z, .refl, sb, rd.mono z⟩
  stop := fun i Z H z sb l => ⟨vs, sqT_mono sb (sqT_mono z h), by rw [← r.length]; exact l⟩
theorem rangeL_get {lo : Int} {n i : Nat} {d : D} (h : (rangeL lo n)[i]? = some d) : i < n ∧ d = .int (lo + i) := by
  unfold rangeL at h
  rw [List.getElem?_map] at h
  cases e : (List.range n)[i]? with
  | none => rw [e] at h; cases h
  | some k =>
    rw [e] at h
    obtain ⟨h1, h2⟩ := List.getElem?_eq_some_iff.mp e
    simp at h2
    subst h2
    cases h
    exact ⟨by simpa using h1, rfl⟩
theorem rangeL_len (lo : Int) (n : Nat) : (rangeL lo n).length = n := by unfold rangeL; simp
theorem jr_range {Z0 : Hp} {lo : Int} {n : Nat} : JR g Z0 (rangeL lo n) (Itr lo n) where
  go := fun i d Z H z sb e => by
    obtain ⟨h1, rfl⟩ := rangeL_get e
    refine ⟨h1, fun x H' ⟨e1, e2⟩ => ?_⟩
    subst e1; subst e2
    exact ⟨Z, .refl, sb, .int _⟩
  stop := fun i Z H z sb l => by rw [rangeL_len] at l; exact l
/-- a list or a tuple, walked -/
def iSeq (K : PySem.W.Frag) (tl : TE) : TI := fun σ H R => tl σ H fun x H1 => ∃ a, x = .ref a ∧ ((∃ xs, SqL K H1 a xs ∧ R (Itl K a) H1) ∨ ∃ xs, SqT K H1 a xs ∧ R (Itt K a) H1)
theorem pi_seq {tg l : Expr} {tl : TE} (hl : PE X l tl) : PI X tg l (iSeq X.K tl) := by
  refine ⟨fun pins s σ H R I h => thn (hl.run pins s σ H _ I h) fun v s1 ⟨x, H1, I1, r1, a, e, q⟩ => ?_⟩
  subst e
  cases r1
  have here : ∀ b ∈ [s1.heap.objs.size], FpOk X pins H1 b := fun b hb => by
    have e : b = s1.heap.objs.size := by simpa using hb
    subst e
    exact I1.fpOk (Nat.le_refl _) (I1.hok.fresh (Nat.le_refl _))
  rcases q with ⟨xs, hq, q⟩ | ⟨xs, hq, q⟩
  · obtain ⟨its, rv, p, hz⟩ := I1.list hq
    exact wpAny_pyIter_list p.isList ⟨_, _, _, _, H1, rfl, I1.kept (t' := s1.toks) fun b o e => Heap.get?_push_of_some _ e, turn_list a _, ⟨_, Heap.get?_push_size _ rfl, rfl, rfl⟩, here, q⟩
  · obtain ⟨its, rv, p, hz⟩ := I1.tuple hq
    exact wpAny_pyIter_tuple (show s1.heap.IsTuple a its.toArray from p) ⟨_, _, _, _, H1, rfl, I1.kept (t' := s1.toks) fun b o e => Heap.get?_push_of_some _ e, turn_tuple a _, ⟨_, Heap.get?_push_size _ rfl, rfl, rfl⟩, here, q⟩
theorem i_it {tg e : Expr} {t : T} (O : OkX g c W Φ kk X) (h : PE X e (rdE g W Φ t)) : PI X tg e (rdI g W Φ (.it t)) := by
  refine PI.mono (pi_seq h) fun σ H R ⟨Z, s, st, h⟩ => ?_
  let nx : Vl → S → MI.R (List D) := fun x s => match items x.dat with
    | some xs => .ok xs s
    | none => .no
  have h : Res g W σ Z H s ((evE Φ t s).bind nx) fun ds _ Z' H' => ∀ J, JR g Z' ds J → R J H' := h
  refine rdE_op (f := nx) st h fun v s1 Z1 H1 x k1 st1 o1 rx h1 => ?_
  cases e : v.dat with
  | lst xs =>
    simp only [nx, e, items] at h1
    rw [e] at rx
    obtain ⟨a, vs, rfl, q, rs⟩ := rx.l
    exact ⟨a, rfl, .inl ⟨vs, O.hK ▸ (sqP_mono st1.sub q).sq, h1.now st1 _ (jr_list O.hK (O.hK ▸ q) rs)⟩⟩
  | tup xs =>
    simp only [nx, e, items] at h1
    rw [e] at rx
    obtain ⟨a, vs, rfl, q, rs⟩ := rx.t
    exact ⟨a, rfl, .inr ⟨vs, O.hK ▸ sqT_mono st1.sub q, h1.now st1 _ (jr_tup O.hK (O.hK ▸ q) rs)⟩⟩
  | _ => simp only [nx, e, items] at h1; exact h1.elim
theorem in62_ok {i : Int} (h : in62 i = true) : -(2 ^ 62) ≤ i ∧ i < 2 ^ 62 := by
  unfold in62 at h
  simpa only [Bool.and_eq_true, decide_eq_true_eq] using h
theorem i_rng1 {tg a : Expr} {ta : T} {p pos : Pos} (O : OkX g c W Φ kk X) (hg : c.sc.names.lookup ("range" : Str) = some .globalImplicit) (ha : PE X a (rdE g W Φ ta)) (ns : noStar a = true) : PI X tg (.Call (.Name "range" p) [a] [] pos) (rdI g W Φ (.rng (.cons ta .nil))) := by
  refine PI.mono (pi_range1 (by show X.env.scope.names.lookup _ = _; rw [O.hs]; exact hg) (O.blt _ (by decide +kernel)) (pa_cons ha pa_nil (star_cons ns [] _)) (star_cons ns [] _)) fun σ H R ⟨Z, s, st, h⟩ => ?_
  refine rdE_op (f := (fun x s => match x with | .d (.int j) => if in62 j then .ok (rangeL 0 j.toNat) s else .no | _ => .no : Vl → S → MI.R (List D))) st h fun v s1 Z1 H1 x k1 st1 o1 rx h1 => ?_
  split at h1
  · rename_i j
    split at h1
    · rename_i hj
      cases rx
      exact ⟨j, rfl, (in62_ok hj).1, (in62_ok hj).2, h1.now st1 _ jr_range⟩
    · exact h1.elim
  · exact h1.elim
theorem i_rng2 {tg a b : Expr} {ta tb : T} {p pos : Pos} (O : OkX g c W Φ kk X) (hg : c.sc.names.lookup ("range" : Str) = some .globalImplicit) (ha : PE X a (rdE g W Φ ta)) (hb : PE X b (rdE g W Φ tb)) (na : noStar a = true) (nb : noStar b = true) :
    PI X tg (.Call (.Name "range" p) [a, b] [] pos) (rdI g W Φ (.rng (.cons ta (.cons tb .nil)))) := by
  refine PI.mono (pi_range2 (by show X.env.scope.names.lookup _ = _; rw [O.hs]; exact hg) (O.blt _ (by decide +kernel)) (pa_cons ha (pa_cons hb pa_nil (star_cons nb [] _)) (star_cons na _ _)) (by rw [star_cons na, star_cons nb]; rfl) (star_cons nb [] _)) fun σ H R ⟨Z, s, st, h⟩ => ?_
  let fin : Vl → Vl → S → MI.R (List D) := fun x y s => match x, y with
    | .d (.int i), .d (.int j) => if in62 i && in62 j then .ok (rangeL i (j - i).toNat) s else .no
    | _, _ => .no
  have h : Res g W σ Z H s ((evE Φ ta s).bind fun x s => (evE Φ tb s).bind fun y s => fin x y s) fun ds _ Z' H' => ∀ J, JR g Z' ds J → R J H' := h
  refine rdE_op (f := fun x s => (evE Φ tb s).bind fun y s => fin x y s) st h fun v s1 Z1 H1 x k1 st1 o1 rx h1 => ?_
  refine rdE_op (f := fun y s => fin v y s) st1 h1 fun w s2 Z2 H2 y k2 st2 o2 ry h2 => ?_
  simp only [fin] at h2
  split at h2
  · rename_i i j
    split at h2
    · rename_i hij
      rw [Bool.and_eq_true] at hij
      cases rx
      cases ry
      exact ⟨i, j, rfl, ⟨(in62_ok hij.1).1, (in62_ok hij.1).2, (in62_ok hij.2).1, (in62_ok hij.2).2⟩, h2.now st2 _ jr_range⟩
    · exact h2.elim
  · exact h2.elim

/-! ### targets -/
/-- from a state to a later one: the slots may be others, a list that a slot holds for itself is an old one or new -/
structure KS (g : G) (Z H : Hp) (s : S) (σ : L2.St) (Z' H' : Hp) (s' : S) (σ' : L2.St) : Prop where
  k : Keep Z H (Own s σ) Z' H'
  st : Sr g Z' s' σ' H'
  o : ∀ a, Own s' σ' a → Own s σ a ∨ H a = none
  p : ∀ i, Tg s' i → Tg s i ∧ σ'[i]? = σ[i]?
theorem KS.trans {Z H Z1 H1 Z2 H2 : Hp} {s s1 s2 : S} {σ σ1 σ2 : L2.St} (a : KS g Z H s σ Z1 H1 s1 σ1) (b : KS g Z1 H1 s1 σ1 Z2 H2 s2 σ2) : KS g Z H s σ Z2 H2 s2 σ2 where
  k := a.k.two b.k fun x q => (a.o x q).symm
  st := b.st
  o := fun x q => (b.o x q).elim (fun z => a.o x z) fun z => .inr (a.k.f x z)
  p := fun i q => ⟨(a.p i (b.p i q).1).1, (b.p i q).2.trans (a.p i (b.p i q).1).2⟩
theorem KS.ofE {Z H Z1 H1 : Hp} {s s1 : S} {σ : L2.St} (k : Keep Z H (Own s σ) Z1 H1) (st : Sr g Z1 s1 σ H1) (o : ∀ a, Own s1 σ a → Own s σ a) (tl : TL s1 s) : KS g Z H s σ Z1 H1 s1 σ := ⟨k, st, fun a q => .inl (o a q), fun i q => ⟨tl i q, rfl⟩⟩
theorem KS.set1 {s : S} {σ : L2.St} {i j : Nat} {o : Option Vl} {x : Option V} (q : Tg (s.set i o) j) (h : ∀ ys, ¬ (o = some (.own true ys) ∨ o = some (.fz ys))) : Tg s j ∧ (σ.set i x)[j]? = σ[j]? := by
  rcases q.of_set with ⟨n, q⟩ | ⟨_, _, ys, e⟩
  · exact ⟨q, List.getElem?_set_ne (fun z => n z.symm)⟩
  · exact (h ys e).elim
theorem fresh_no (v : Vl) : ∀ ys, ¬ (some v.fresh = some (.own true ys) ∨ some v.fresh = some (.fz ys)) := fun ys e => by
  cases v <;> rcases e with e | e <;> cases e
theorem fresh_own {v : Vl} {t : Bool} {ys : List D} (e : v.fresh = .own t ys) : ∃ t', v = .own t' ys := by
  cases v with
  | own t' zs => cases e; exact ⟨t', rfl⟩
  | _ => cases e
theorem RV.fresh {Z H : Hp} {v : Vl} {x : V} (r : RV g Z H v x) : RV g Z H v.fresh x := by
  cases v <;> exact r
theorem RF.fresh {H0 Z H : Hp} {v : Vl} {x : V} (r : RF g H0 Z H v x) : RF g H0 Z H v.fresh x := ⟨r.1.fresh, fun t ys a e1 e2 => by
  obtain ⟨t', e⟩ := fresh_own e1
  exact r.2 t' ys a e e2⟩
def ResB (g : G) (W : WXX) (Z H : Hp) (s : S) (σ : L2.St) (o : O) (Q : L2.St → Hp → Prop) : Prop := match o with
  | .nx s' => ∀ Z' H' σ', KS g Z H s σ Z' H' s' σ' → Q σ' H'
  | .ex c fs s' => ∀ Z' H' σ' dd, KS g Z H s σ Z' H' s' σ' → RX g Z' H' fs dd → W (.ref (g.ca c)) dd σ' H'
  | _ => False
theorem ResB.rebase {Z H Z1 H1 : Hp} {s s1 : S} {σ σ1 : L2.St} {o : O} {Q : L2.St → Hp → Prop} (h : ResB g W Z H s σ o Q) (a : KS g Z H s σ Z1 H1 s1 σ1) : ResB g W Z1 H1 s1 σ1 o Q := by
  cases o with
  | nx s' => exact fun Z' H' σ' b => h Z' H' σ' (a.trans b)
  | ex c fs s' => exact fun Z' H' σ' dd b rx => h Z' H' σ' dd (a.trans b) rx
  | _ => exact h
def rdG (g : G) (W : WXX) (Φ : Call) (p : T) : TG := fun v σ H Q => ∃ Z s d, Sr g Z s σ H ∧ RD g Z d v ∧ ResB g W Z H s σ (bindP Φ p d s) Q
def rdGs (g : G) (W : WXX) (Φ : Call) (p : T) : TGs := fun vs σ H Q => ∃ Z s ds, Sr g Z s σ H ∧ RDs g Z ds vs ∧ ResB g W Z H s σ (bindPs Φ p ds s) Q
theorem PG.mono {tg : Expr} {t t' : TG} (h : PG X tg t) (m : ∀ v σ H Q, t' v σ H Q → t v σ H Q) : PG X tg t' := ⟨fun pins s σ H v u Q I r q => h.run pins s σ H v u Q I r (m v σ H Q q)⟩
theorem PGs.mono {tg : List Expr} {t t' : TGs} (h : PGs X tg t) (m : ∀ v σ H Q, t' v σ H Q → t v σ H Q) : PGs X tg t' := ⟨fun pins s σ H v u Q I r q => h.run pins s σ H v u Q I r (m v σ H Q q)⟩
/-- a slot takes a value -/
theorem Sr.set {Z H : Hp} {s : S} {σ : L2.St} {i : Nat} {v : Vl} {x : V} (st : Sr g Z s σ H) (rv : RV g Z H v x) (fr : ∀ t ys a, v = .own t ys → x = .ref a → ¬ Own s σ a) :
    Sr g Z (s.set i (some v)) (σ.set i (some x)) H ∧ ∀ a, Own (s.set i (some v)) (σ.set i (some x)) a → Own s σ a ∨ ∃ t ys, v = .own t ys ∧ x = .ref a := by
  have key : ∀ (j : Nat) (w : Vl), (s.set i (some v))[j]? = some (some w) → (i = j ∧ w = v ∧ (σ.set i (some x))[j]? = some (some x)) ∨ (i ≠ j ∧ s[j]? = some (some w) ∧ (σ.set i (some x))[j]? = σ[j]?) := fun j w e => by
    by_cases hij : i = j
    · subst hij
      have hl : i < s.length := by
        have := (List.getElem?_eq_some_iff.mp e).1
        simpa using this
      rw [List.getElem?_set_self hl] at e
      cases e
      exact .inl ⟨rfl, rfl, List.getElem?_set_self (by rw [← st.len]; exact hl)⟩
    · rw [List.getElem?_set_ne hij] at e
      exact .inr ⟨hij, e, List.getElem?_set_ne hij⟩
  refine ⟨⟨by simp [st.len], st.sub, fun j w e => ?_, fun j j' t u ys zs a e1 e2 e3 e4 => ?_⟩, fun a ⟨j, t, ys, e1, e2⟩ => ?_⟩
  · rcases key j w e with ⟨rfl, rfl, h⟩ | ⟨_, h1, h2⟩
    · exact ⟨x, h, rv⟩
    · obtain ⟨y, hy, r⟩ := st.rel j w h1
      exact ⟨y, h2.trans hy, r⟩
  · rcases key j _ e1 with ⟨rfl, q1, h1⟩ | ⟨n1, q1, h1⟩
    · rw [h1] at e3
      cases e3
      rcases key j' _ e2 with ⟨rfl, q2, h2⟩ | ⟨n2, q2, h2⟩
      · rfl
      · rw [h2] at e4
        exact absurd ⟨j', u, zs, q2, e4⟩ (fr t ys a q1.symm rfl)
    · rw [h1] at e3
      rcases key j' _ e2 with ⟨rfl, q2, h2⟩ | ⟨n2, q2, h2⟩
      · rw [h2] at e4
        cases e4
        exact absurd ⟨j, t, ys, q1, e3⟩ (fr u zs a q2.symm rfl)
      · rw [h2] at e4
        exact st.inj j j' t u ys zs a q1 q2 e3 e4
  · rcases key j _ e1 with ⟨rfl, q1, h1⟩ | ⟨n1, q1, h1⟩
    · rw [h1] at e2
      cases e2
      exact .inr ⟨t, ys, q1.symm, rfl⟩
    · rw [h1] at e2
      exact .inl ⟨j, t, ys, q1, e2⟩
theorem g_var {i : Nat} {x : Str} {pos : Pos} (O : OkX g c W Φ kk X) (hN : c.N[i]? = some x) (hl : Loc c.sc x) (hf : X.fn x = true ∨ c.sc.names.lookup x = some .local) : PG X (.Name x pos) (rdG g W Φ (.var i)) := by
  refine PG.mono (pg_name (i := i) (by rw [O.hN]; exact O.nd) (by rw [O.hN]; exact hN) (by rw [O.hs]; exact hl) (by rw [O.hs]; exact hf)) fun v σ H Q ⟨Z, s, d, st, rd, h⟩ => ?_
  have h : ResB g W Z H s σ (if i < s.length then .nx (s.set i (some (.d d))) else .no) Q := h
  split at h
  · obtain ⟨st', o'⟩ := st.set (i := i) (v := .d d) (x := v) rd fun _ _ _ e => nomatch e
    exact h Z H _ ⟨.refl, st', fun a q => (o' a q).imp id (fun ⟨_, _, e, _⟩ => nomatch e), fun j q => KS.set1 q fun ys e => (by rcases e with e | e <;> cases e)⟩
  · exact h.elim
theorem gs_nil : PGs X [] (rdGs g W Φ .nil) := PGs.mono pgs_nil fun vs σ H Q ⟨Z, s, ds, st, r, h⟩ => by
  cases ds with
  | nil =>
    cases r
    exact ⟨rfl, h Z H σ ⟨.refl, st, fun _ q => .inl q, fun _ q => ⟨q, rfl⟩⟩⟩
  | cons d ds => exact h.elim
theorem gs_cons {e : Expr} {es : List Expr} {p ps : T} (h1 : PG X e (rdG g W Φ p)) (h2 : PGs X es (rdGs g W Φ ps)) (hs : (assignEach (e :: es) X.env).map (·.2) = assign e X.env :: (assignEach es X.env).map (·.2)) : PGs X (e :: es) (rdGs g W Φ (.cons p ps)) := by
  refine PGs.mono (pgs_cons h1 h2 hs) fun vs σ H Q ⟨Z, s, ds, st, r, h⟩ => ?_
  cases r with
  | nil => exact h.elim
  | @cons d v ds vs rd rs =>
    have h : ResB g W Z H s σ (match bindP Φ p d s with
      | .nx s => bindPs Φ ps ds s
      | o => o) Q := h
    refine ⟨v, vs, rfl, Z, s, d, st, rd, ?_⟩
    cases e : bindP Φ p d s with
    | nx s1 =>
      rw [e] at h
      exact fun Z1 H1 σ1 k => ⟨Z1, s1, ds, k.st, rs.mono k.k.z, ResB.rebase (o := bindPs Φ ps ds s1) h k⟩
    | ex c fs s' => rw [e] at h; exact h
    | rt v s' => rw [e] at h; exact h
    | bk s' => rw [e] at h; exact h
    | ct s' => rw [e] at h; exact h
    | no => rw [e] at h; exact h
theorem g_tup {es : List Expr} {k : Nat} {pos : Pos} {ps : T} (O : OkX g c W Φ kk X) (h : PGs X es (rdGs g W Φ ps)) (hst : (assignEach es X.env).findIdx? (·.1) = none) (hn : (assignEach es X.env).length = es.length) (hl : plainLen ps = some es.length) :
    PG X (.Tuple es k pos) (rdG g W Φ (.tup ps)) := by
  refine PG.mono (pg_tup (n := es.length) O.cm h hn hst) fun v σ H Q ⟨Z, s, d, st, rd, h⟩ => ?_
  cases d with
  | tup ds =>
    obtain ⟨a, vs, rfl, q, rs⟩ := rd.t
    have h : ResB g W Z H s σ (if plainLen ps = some ds.length then bindPs Φ ps ds s else .no) Q := h
    rw [hl] at h
    split at h
    · rename_i e
      exact ⟨a, vs, rfl, O.hK ▸ sqT_mono st.sub q, by rw [← rs.length]; exact (Option.some.inj e).symm, Z, s, ds, st, rs, h⟩
    · exact h.elim
  | _ => exact h.elim
/-- an item of a slot's own list changed -/
theorem Sr.item {Z H : Hp} {s : S} {σ : L2.St} {i : Nat} {t : Bool} {xs ys : List D} {a : Addr} {ws : List V} (st : Sr g Z s σ H) (e : s[i]? = some (some (.own t xs))) (hx : σ[i]? = some (some (.ref a))) (r : RDs g Z ys ws) (ha : H a ≠ none) (za : Z a = none) :
    KS g Z H s σ Z (upd H a (.lst ws)) (s.set i (some (.own t ys))) σ := by
  have hl : i < s.length := (List.getElem?_eq_some_iff.mp e).1
  have key : ∀ (j : Nat) (w : Vl), (s.set i (some (.own t ys)))[j]? = some (some w) → (i = j ∧ w = .own t ys) ∨ (i ≠ j ∧ s[j]? = some (some w)) := fun j w q => by
    by_cases hij : i = j
    · subst hij
      rw [List.getElem?_set_self hl] at q
      cases q
      exact .inl ⟨rfl, rfl⟩
    · rw [List.getElem?_set_ne hij] at q
      exact .inr ⟨hij, q⟩
  have own : ∀ b, Own (s.set i (some (.own t ys))) σ b → Own s σ b := fun b ⟨j, u, zs, e1, e2⟩ => by
    rcases key j _ e1 with ⟨rfl, _⟩ | ⟨_, q⟩
    · exact ⟨i, t, xs, e, e2⟩
    · exact ⟨j, u, zs, q, e2⟩
  have oa : Own s σ a := ⟨i, t, xs, e, hx⟩
  refine ⟨⟨Same.refl _, fun b o q n => ?_, fun _ _ _ _ z => z, fun b q => ?_⟩, ⟨by simp [st.len], fun b o q => ?_, fun j w q => ?_, fun j k u u' zs zs' b e1 e2 e3 e4 => ?_⟩, fun b q => .inl (own b q), fun j q => ?_⟩
  · rw [upd_ne (by rintro rfl; exact n oa)]; exact q
  · by_cases hb : b = a
    · subst hb; rw [upd_same] at q; cases q
    · rwa [upd_ne hb] at q
  · rw [upd_ne (by rintro rfl; rw [za] at q; cases q)]; exact st.sub b o q
  · rcases key j w q with ⟨rfl, rfl⟩ | ⟨hij, q⟩
    · exact ⟨_, hx, a, ws, rfl, upd_same, za, r⟩
    · obtain ⟨x, h1, h2⟩ := st.rel j w q
      refine ⟨x, h1, ?_⟩
      cases w with
      | d y => exact h2
      | fz y => exact h2
      | own u zs =>
        obtain ⟨b, vs, rfl, hb, zb, rs⟩ := h2
        have : b ≠ a := by rintro rfl; exact hij (st.inj i j t u xs zs b e q hx h1)
        exact ⟨b, vs, rfl, by rw [upd_ne this]; exact hb, zb, rs⟩
  · rcases key j _ e1 with ⟨rfl, _⟩ | ⟨_, q1⟩
    · rcases key k _ e2 with ⟨rfl, _⟩ | ⟨_, q2⟩
      · rfl
      · exact st.inj _ _ t u' xs zs' b e q2 e3 e4
    · rcases key k _ e2 with ⟨rfl, _⟩ | ⟨_, q2⟩
      · exact st.inj _ _ u t zs xs b q1 e e3 e4
      · exact st.inj j k u u' zs zs' b q1 q2 e3 e4
  · refine ⟨TL.set (fun ys' q l => ?_) j q, rfl⟩
    rcases q with q | q
    · cases q
      exact ⟨xs, .inl e⟩
    · cases q
def noSlice : Expr → Bool
  | .Slice _ _ _ _ => false
  | _ => true
theorem sub_plain {b : Expr} (h : noSlice b = true) : PlainIx b := fun o i => by cases b <;> first | rfl | cases h
theorem assign_sub {o b : Expr} {pos : Pos} (h : noSlice b = true) (env : Env) (v : Value) : assign (.Subscript o b pos) env v = (do
      let ov ← holding [v] (eval o env)
      let iv ← holding [v, ov] (eval b env)
      standAt pos
      holding [v, ov, iv] (setItem ov iv v)
      release [v, ov, iv] []) := by cases b <;> first | rfl | cases h
theorem g_sub {i : Nat} {x : Str} {px pos : Pos} {b : Expr} {tb : T} (O : OkX g c W Φ kk X) (hv : PE X (.Name x px) (tVar i)) (hb : PE X b (rdE g W Φ tb)) (hp : noSlice b = true) : PG X (.Subscript (.Name x px) b pos) (rdG g W Φ (.idx (.var i) tb)) := by
  refine PG.mono (pg_sub hv hb set_list (assign_sub hp _)) fun v σ H Q ⟨Z, s, d, st, rd, h⟩ => ?_
  let nx : Vl → S → MI.O := fun y s => match y with
    | .d (.int k) => (match s[i]? with
      | some (some (.own tag xs)) => if 0 ≤ k && k.toNat < xs.length then .nx (s.set i (some (.own tag (xs.set k.toNat d)))) else .no
      | _ => .no)
    | _ => .no
  have h : ResB g W Z H s σ (match peek i s with
    | none => (.no : MI.O)
    | some _ => match evE Φ tb s with
      | .ok (.d (.int k)) s => (match s[i]? with
        | some (some (.own tag xs)) => if 0 ≤ k && k.toNat < xs.length then .nx (s.set i (some (.own tag (xs.set k.toNat d)))) else .no
        | _ => .no)
      | .ex c fs s => .ex c fs s
      | _ => .no) Q := h
  cases e0 : peek i s with
  | none => rw [e0] at h; exact h.elim
  | some x0 =>
    rw [e0] at h
    obtain ⟨v0, hv0, _⟩ := peek_ok st e0
    refine ⟨v0, hv0, Z, s, st, ?_⟩
    cases e : evE Φ tb s with
    | no => rw [e] at h; exact h.elim
    | ex cc fs s' =>
      rw [e] at h
      exact fun Z' H' dd k st' o rx => h Z' H' σ dd (.ofE k st' o (tlEx e)) rx
    | ok y s1 =>
      rw [e] at h
      intro Z1 H1 k1 st1 o1 u rf
      have h : ResB g W Z H s σ (nx y s1) Q := by
        cases y with
        | d z => cases z <;> exact h
        | own t xs => exact h
        | fz xs => exact h
      cases y with
      | d z =>
        cases z with
        | int k =>
          have hu : u = .int k := RD.i rf.1
          subst hu
          simp only [nx] at h
          split at h
          · rename_i tag xs es
            split at h
            · rename_i hk
              simp only [Bool.and_eq_true, decide_eq_true_eq] at hk
              obtain ⟨x1, hx1, a, vs, rfl, ha, za, rs⟩ := st1.rel _ _ es
              rw [hv0] at hx1
              cases hx1
              have hl := rs.length
              have ks := st1.item (i := i) es hv0 (rs.set (rd.mono k1.z) k.toNat) (by rw [ha]; simp) za
              refine ⟨a, vs, k, k.toNat, rfl, rfl, ha, ?_, h _ _ _ ((KS.ofE k1 st1 o1 (tlE e)).trans ks)⟩
              unfold ixN
              rw [if_pos hk.1, if_pos (by omega)]
            · exact h.elim
          · exact h.elim
        | _ => exact h.elim
      | own t xs => exact h.elim
      | fz xs => exact h.elim

/-! ### statements -/
/-- what is wanted behind a statement, told of the evaluator's end -/
def ResS (g : G) (W : WXX) (D : Ends) (Z H : Hp) (s : S) (σ : L2.St) (o : O) : Prop := match o with
  | .nx s' => ∀ Z' H' σ', KS g Z H s σ Z' H' s' σ' → D.nx σ' H'
  | .bk s' => ∀ Z' H' σ', KS g Z H s σ Z' H' s' σ' → D.bk σ' H'
  | .ct s' => ∀ Z' H' σ', KS g Z H s σ Z' H' s' σ' → D.ct σ' H'
  | .rt v s' => ∀ Z' H' σ' x, KS g Z H s σ Z' H' s' σ' → RF g H Z' H' v x → D.rt x H'
  | .ex c fs s' => ∀ Z' H' σ' dd, KS g Z H s σ Z' H' s' σ' → RX g Z' H' fs dd → W (.ref (g.ca c)) dd σ' H'
  | .no => False
theorem ResS.rebase {D : Ends} {Z H Z1 H1 : Hp} {s s1 : S} {σ σ1 : L2.St} {o : O} (h : ResS g W D Z H s σ o) (a : KS g Z H s σ Z1 H1 s1 σ1) : ResS g W D Z1 H1 s1 σ1 o := by
  cases o with
  | nx s' => exact fun Z' H' σ' b => h Z' H' σ' (a.trans b)
  | bk s' => exact fun Z' H' σ' b => h Z' H' σ' (a.trans b)
  | ct s' => exact fun Z' H' σ' b => h Z' H' σ' (a.trans b)
  | rt v s' => exact fun Z' H' σ' x b rf => h Z' H' σ' x (a.trans b) (rf.back a.k)
  | ex c fs s' => exact fun Z' H' σ' dd b rx => h Z' H' σ' dd (a.trans b) rx
  | no => exact h
def rdS (g : G) (W : WXX) (Φ : Call) (t : T) : TS := fun D σ H => ∃ Z s, Sr g Z s σ H ∧ ResS g W D Z H s σ (exS Φ t s)
theorem PS.mono {st : Stmt} {t t' : TS} (h : PS X st t) (m : ∀ D σ H, t' D σ H → t D σ H) : PS X st t' := ⟨fun pins s σ H D I q => h.run pins s σ H D I (m D σ H q)⟩
theorem PSs.mono {st : List Stmt} {t t' : TS} (h : PSs X st t) (m : ∀ D σ H, t' D σ H → t D σ H) : PSs X st t' := ⟨fun pins s σ H D I q => h.run pins s σ H D I (m D σ H q)⟩
theorem s_nil : PSs X [] (rdS g W Φ .pass) := PSs.mono pss_nil fun D σ H ⟨Z, s, st, h⟩ => by
  have h : ResS g W D Z H s σ (.nx s) := h
  exact h Z H σ ⟨.refl, st, fun _ q => .inl q, fun _ q => ⟨q, rfl⟩⟩
theorem s_one {st : Stmt} {t : T} (h : PS X st (rdS g W Φ t)) : PSs X [st] (rdS g W Φ t) := pss_one h
theorem s_cons {st : Stmt} {r : List Stmt} {t u : T} (h1 : PS X st (rdS g W Φ t)) (h2 : PSs X r (rdS g W Φ u)) : PSs X (st :: r) (rdS g W Φ (.seq t u)) := by
  refine PSs.mono (pss_cons h1 h2) fun D σ H ⟨Z, s, st, h⟩ => ⟨Z, s, st, ?_⟩
  have h : ResS g W D Z H s σ (match exS Φ t s with | .nx s => exS Φ u s | o => o) := h
  cases e : exS Φ t s with
  | nx s1 =>
    rw [e] at h
    exact fun Z1 H1 σ1 k => ⟨Z1, s1, k.st, ResS.rebase (o := exS Φ u s1) h k⟩
  | bk s' => rw [e] at h; exact h
  | ct s' => rw [e] at h; exact h
  | rt v s' => rw [e] at h; exact h
  | ex c fs s' => rw [e] at h; exact h
  | no => rw [e] at h; exact h
end
end MI

set_option Elab.async false
set_option linter.all false
set_option maxRecDepth 100000
set_option maxHeartbeats 4000000
/-! Statements. -/
namespace MI
open PySem PySem.Spec PyProof.Rows L2
section
variable {g : G} {c : Cc} {W : WXX} {Φ : Call} {kk : Nat} {X : Cx}
/-- an expression within a statement -/
theorem st_E {D : Ends} {Z H : Hp} {s : S} {σ : L2.St} {t : T} {f : Vl → S → MI.O} {Q : VK} (st : Sr g Z s σ H) (h : ResS g W D Z H s σ (match evE Φ t s with | .ok v s => f v s | .ex c fs s => .ex c fs s | .no => .no))
    (k : ∀ v s1 Z1 H1 x, KS g Z H s σ Z1 H1 s1 σ → (∀ a, Own s1 σ a → Own s σ a) → RF g H Z1 H1 v x → ResS g W D Z H s σ (f v s1) → Q x H1) : rdE g W Φ t σ H Q := by
  refine ⟨Z, s, st, ?_⟩
  cases e : evE Φ t s with
  | no => rw [e] at h; exact h.elim
  | ex cc fs s' =>
    rw [e] at h
    exact fun Z' H' dd k st' o rx => h Z' H' σ dd (.ofE k st' o (tlEx e)) rx
  | ok v s1 =>
    rw [e] at h
    exact fun Z1 H1 k1 st1 o1 x rf => k v s1 Z1 H1 x (.ofE k1 st1 o1 (tlE e)) o1 rf h
/-- .. used as a datum -/
theorem st_D {D : Ends} {Z H : Hp} {s : S} {σ : L2.St} {t : T} {f : Vl → S → MI.O} {Q : VK} (st : Sr g Z s σ H) (h : ResS g W D Z H s σ (match evE Φ t s with | .ok v s => f v s | .ex c fs s => .ex c fs s | .no => .no))
    (k : ∀ v s1 Z1 H1 x, KS g Z H s σ Z1 H1 s1 σ → RD g Z1 v.dat x → ResS g W D Z H s σ (f v s1) → Q x H1) : rdE g W Φ t σ H Q := by
  refine rdE_of st ?_
  cases e : evE Φ t s with
  | no => rw [e] at h; exact h.elim
  | ex cc fs s' =>
    rw [e] at h
    exact fun Z' H' dd k st' o rx => h Z' H' σ dd (.ofE k st' o (tlEx e)) rx
  | ok v s1 =>
    rw [e] at h
    exact fun Z1 H1 k1 st1 o1 x rd => k v s1 Z1 H1 x (.ofE k1 st1 o1 (tlE e)) rd h
theorem st_T {D : Ends} {Z H : Hp} {s : S} {σ : L2.St} {t : T} {f : Bool → S → MI.O} {Q : Bool → Hp → Prop} (st : Sr g Z s σ H)
    (h : ResS g W D Z H s σ (match evE Φ t s with | .ok v s => (match tru v.dat with | some b => f b s | none => .no) | .ex c fs s => .ex c fs s | .no => .no))
    (k : ∀ b s1 Z1 H1, KS g Z H s σ Z1 H1 s1 σ → ResS g W D Z H s σ (f b s1) → Q b H1) : rdT g W Φ t σ H Q := by
  refine ⟨Z, s, st, ?_⟩
  cases e : evE Φ t s with
  | no => rw [e] at h; exact h.elim
  | ex cc fs s' =>
    rw [e] at h
    exact fun Z' H' dd k st' o rx => h Z' H' σ dd (.ofE k st' o (tlEx e)) rx
  | ok v s1 =>
    rw [e] at h
    show Res g W σ Z H s (R.ofO (tru v.dat) s1) _
    cases e2 : tru v.dat with
    | none => simp only [e2] at h; exact h.elim
    | some b =>
      simp only [e2] at h
      exact fun Z1 H1 k1 st1 o1 => k b s1 Z1 H1 (.ofE k1 st1 o1 (tlE e)) h
theorem s_ret {e : Expr} {t : T} {pos : Pos} (h : PE X e (rdE g W Φ t)) : PS X (.Return (some e) pos) (rdS g W Φ (.ret t)) := PS.mono (ps_ret h) fun D σ H ⟨Z, s, st, h⟩ =>
  st_E (f := fun v s => .rt v s) st h fun v s1 Z1 H1 x ks _ rf q => q Z1 H1 σ x ks rf
theorem s_retN {pos : Pos} : PS X (.Return none pos) (rdS g W Φ .retN) := PS.mono ps_retN fun D σ H ⟨Z, s, st, h⟩ => by
  have h : ResS g W D Z H s σ (.rt (.d .non) s) := h
  exact h Z H σ .non ⟨.refl, st, fun _ q => .inl q, fun _ q => ⟨q, rfl⟩⟩ (.flat .non)
theorem s_pass {pos : Pos} : PS X (.Pass pos) (rdS g W Φ .pass) := PS.mono ps_pass fun D σ H ⟨Z, s, st, h⟩ => by
  have h : ResS g W D Z H s σ (.nx s) := h
  exact h Z H σ ⟨.refl, st, fun _ q => .inl q, fun _ q => ⟨q, rfl⟩⟩
theorem s_brk {pos : Pos} : PS X (.Break pos) (rdS g W Φ .brk) := PS.mono ps_break fun D σ H ⟨Z, s, st, h⟩ => by
  have h : ResS g W D Z H s σ (.bk s) := h
  exact h Z H σ ⟨.refl, st, fun _ q => .inl q, fun _ q => ⟨q, rfl⟩⟩
theorem s_cont {pos : Pos} : PS X (.Continue pos) (rdS g W Φ .cont) := PS.mono ps_continue fun D σ H ⟨Z, s, st, h⟩ => by
  have h : ResS g W D Z H s σ (.ct s) := h
  exact h Z H σ ⟨.refl, st, fun _ q => .inl q, fun _ q => ⟨q, rfl⟩⟩
theorem s_ex {e : Expr} {t : T} {pos : Pos} (h : PE X e (rdE g W Φ t)) (hs : swapsWith e none pos.line X.env = pure false) : PS X (.Expr e pos) (rdS g W Φ (.ex t)) := PS.mono (ps_expr h hs) fun D σ H ⟨Z, s, st, h⟩ =>
  st_E (f := fun _ s => .nx s) st h fun v s1 Z1 H1 x ks _ rf q => q Z1 H1 σ ks
theorem s_if {e : Expr} {a b : List Stmt} {tc ta tb : T} {pos : Pos} (hc : PT X e (rdT g W Φ tc)) (ha : PSs X a (rdS g W Φ ta)) (hb : PSs X b (rdS g W Φ tb)) : PS X (.If e a b pos) (rdS g W Φ (.iff tc ta tb)) := by
  refine PS.mono (ps_if hc ha hb) fun D σ H ⟨Z, s, st, h⟩ => ?_
  refine st_T (D := D) (f := fun b s => if b = true then exS Φ ta s else exS Φ tb s) st ?_ fun b s1 Z1 H1 ks q => ?_
  · have h : ResS g W D Z H s σ (match evE Φ tc s with
      | .ok v s => (match tru v.dat with
        | some true => exS Φ ta s
        | some false => exS Φ tb s
        | none => .no)
      | .ex c fs s => .ex c fs s
      | .no => .no) := h
    cases e1 : evE Φ tc s with
    | no => rw [e1] at h; exact h
    | ex cc fs s' => rw [e1] at h; exact h
    | ok v s1 =>
      rw [e1] at h
      dsimp only at h ⊢
      cases e2 : tru v.dat with
      | none => rw [e2] at h; exact h
      | some b => rw [e2] at h; cases b <;> exact h
  · cases b with
    | true => exact iteT ⟨Z1, s1, ks.st, ResS.rebase (by simpa using q) ks⟩
    | false => exact iteF ⟨Z1, s1, ks.st, ResS.rebase (by simpa using q) ks⟩
/-- name = value -/
theorem s_asg {i : Nat} {x : Str} {e : Expr} {t : T} {px pos : Pos} (O : OkX g c W Φ kk X) (hN : c.N[i]? = some x) (hl : Loc c.sc x) (hf : X.fn x = true ∨ c.sc.names.lookup x = some .local) (h : PE X e (rdE g W Φ t)) (hs : swapsWith e (some (.Name x px)) pos.line X.env = pure false) :
    PS X (.Assign [.Name x px] e pos) (rdS g W Φ (.asg (.var i) t)) := by
  refine PS.mono (ps_set (i := i) (by rw [O.hN]; exact O.nd) (by rw [O.hN]; exact hN) (by rw [O.hs]; exact hl) h hs (by rw [O.hs]; exact hf)) fun D σ H ⟨Z, s, st, h⟩ => ?_
  refine st_E (D := D) (f := fun v s => if i < s.length then .nx (s.set i (some v.fresh)) else .no) st h fun v s1 Z1 H1 x ks o1 rf q => ?_
  split at q
  · obtain ⟨st', o'⟩ := ks.st.set (i := i) rf.fresh.1 fun t ys a e1 e2 o => by
      obtain ⟨ws, hw, _⟩ := Own.some st (o1 a o)
      rw [rf.fresh.2 t ys a e1 e2] at hw
      cases hw
    refine q Z1 H1 _ ⟨ks.k, st', fun a z => ?_, fun j z => ⟨(ks.p j (KS.set1 (σ := σ) (x := none) z (fresh_no v)).1).1, (KS.set1 z (fresh_no v)).2⟩⟩
    rcases o' a z with z | ⟨t, ys, e1, e2⟩
    · exact ks.o a z
    · exact .inr (rf.fresh.2 t ys a e1 e2)
  · exact q.elim
theorem only_B {D : Ends} {Z H : Hp} {s : S} {σ : L2.St} {o : MI.O} (h : ResS g W D Z H s σ (onlyN o)) : ResB g W Z H s σ o D.nx := by
  cases o with
  | nx s' => exact h
  | ex c fs s' => exact h
  | _ => exact h.elim
/-- target = value -/
theorem s_asgP {tg e : Expr} {p t : T} {pos : Pos} (hp : PG X tg (rdG g W Φ p)) (h : PE X e (rdE g W Φ t)) (nv : ∀ i, p ≠ .var i) (hs : swapsWithSole [tg] e pos.line X.env = pure false) (hw : swappedStores [tg] e X.env = pure none) (h1 : (assignEach [tg] X.env).map (·.2) = [assign tg X.env]) :
    PS X (.Assign [tg] e pos) (rdS g W Φ (.asg p t)) := by
  refine PS.mono (ps_asg h hp hs hw h1) fun D σ H ⟨Z, s, st, h⟩ => ?_
  have h : ResS g W D Z H s σ (match evE Φ t s with
    | .ok v s => onlyN (bindP Φ p v.dat s)
    | .ex c fs s => .ex c fs s
    | .no => .no) := by
    cases p <;> first | exact h | exact absurd rfl (nv _)
  refine st_D (D := D) (f := fun v s => onlyN (bindP Φ p v.dat s)) st h fun v s1 Z1 H1 x ks rd q => ⟨Z1, s1, v.dat, ks.st, rd, (only_B q).rebase ks⟩
/-- xs.append(e) -/
theorem s_app {i : Nat} {x : Str} {e : Expr} {t : T} {px pa pos pos2 : Pos} (hv : PE X (.Name x px) (tVar i)) (h : PE X e (rdE g W Φ t)) (ns : noStar e = true) (ln : (pa.endLine == pos.line) = true) : PS X (.Expr (.Call (.Attribute (.Name x px) "append" pa) [e] [] pos) pos2) (rdS g W Φ (.app i t)) := by
  have few : ((backTo pos (starEach [e] X.env)).all (fun x => !x.1) && (backToKw pos (keywordEach [] X.env)).all (fun x => x.1.isSome) && decide ([e].length + ([] : List Keyword).length + (if ([] : List Keyword).isEmpty then 0 else 1) < 30)) = true := by
    rw [star_cons ns]; rfl
  refine PS.mono (ps_expr (pe_bm PySem.F.plainAttrs_list PySem.F.slot_list_append PySem.F.type_list_append mt_append hv (pa_cons h pa_nil (star_cons ns [] _)) rfl few ln (star_cons ns [] _))) fun D σ H ⟨Z, s, st, h⟩ => ?_
  let f : Vl → S → MI.O := fun v s => match s[i]? with
    | some (some (.own tag xs)) => if fitsL (xs.length + 1) then .nx (s.set i (some (.own tag (xs ++ [v.dat])))) else .no
    | _ => .no
  have h : ResS g W D Z H s σ (match s[i]? with
    | some (some (.own _ _)) => (match evE Φ t s with
      | .ok v s => f v s
      | .ex c fs s => .ex c fs s
      | .no => .no)
    | _ => .no) := h
  split at h
  · rename_i tg zs e0
    obtain ⟨x0, hx0, a, vs0, rfl, ha0, _, _⟩ := st.rel _ _ e0
    refine ⟨_, hx0, .inl ⟨rfl, _, .inl (.inl ha0)⟩, st_D (D := D) (f := f) st h fun v s1 Z1 H1 y ks rd q => ?_⟩
    simp only [f] at q
    split at q
    · rename_i tag xs es
      split at q
      · rename_i fit
        obtain ⟨x1, hx1, a1, vs, rfl, ha, za, rs⟩ := ks.st.rel _ _ es
        rw [hx0] at hx1
        cases hx1
        have fit := fitsL_le fit
        rw [rs.length] at fit
        have ks2 := ks.st.item (i := i) es hx0 (rs.append (.cons rd .nil)) (by rw [ha]; simp) za
        exact ⟨a, vs, y, rfl, rfl, ha, fit, q _ _ _ (ks.trans ks2)⟩
      · exact q.elim
    · exact q.elim
  · exact h.elim
end
end MI

set_option Elab.async false
set_option linter.all false
set_option maxRecDepth 100000
set_option maxHeartbeats 4000000
/-! Several names at once; loops. -/
namespace MI
open PySem PySem.Spec PyProof.Rows L2
section
variable {g : G} {c : Cc} {W : WXX} {Φ : Call} {kk : Nat} {X : Cx}
/-- how a tuple of targets takes a written tuple: the names, stored crosswise; or one by one -/
def swK (sc : Scope) (ts vs : List Expr) : Option (Option (List Str)) :=
  if (!(ts.length == 2 || ts.length == 3) || vs.length != ts.length || sc.kind != .function) = true then some none
  else if (vs.any fun | .Starred .. => true | _ => false) = true then some none
  else
    let line := (ts.head?.map (·.pos.line)).getD 0
    let names := ts.filterMap fun
      | .Name id pos => if (sc.names.lookup id == some .local && pos.line == line) = true then some id else none
      | _ => none
    if (names.length != ts.length || names.eraseDups.length != names.length) = true then some none
    else if vs.all (foldedForSure 8) = true then some none
    else if vs.all (constantsAlone 8) = true then none
    else some (some names)
theorem sw_is {sc : Scope} {ts vs : List Expr} {env : Env} {k k2 : Nat} {p p2 : Pos} {r : Option (List Str)} (he : env.scope = sc) (hk : sc.kind = .function) (h : swK sc ts vs = some r) : swappedStores [.Tuple ts k p] (.Tuple vs k2 p2) env = pure r := by
  have bk : env.blockKind = sc.kind := by
    unfold Env.blockKind
    rw [he, hk]
    rfl
  have kd : env.kindOf = fun x => sc.names.lookup x := by
    funext x
    unfold Env.kindOf
    rw [he]
  unfold swappedStores
  dsimp only
  rw [bk, kd]
  unfold swK at h
  split at h
  · rename_i c1
    cases h
    exact if_pos c1
  · rename_i c1
    refine (if_neg c1).trans ?_
    split at h
    · rename_i c2
      cases h
      exact if_pos c2
    · rename_i c2
      refine (if_neg c2).trans ?_
      dsimp only at h
      split at h
      · rename_i c3
        cases h
        exact if_pos c3
      · rename_i c3
        refine (if_neg c3).trans ?_
        split at h
        · rename_i c4
          cases h
          exact if_pos c4
        · rename_i c4
          refine (if_neg c4).trans ?_
          split at h
          · cases h
          · rename_i c5
            refine (if_neg c5).trans ?_
            cases h
            rfl
/-- values side by side -/
def rdV' (g : G) (W : WXX) (Φ : Call) (t : T) : TA := fun σ H Q => ∃ Z s, Sr g Z s σ H ∧ Res g W σ Z H s (evV Φ t s) fun vs _ Z' H' => ∀ xs, AgsR g H Z' H' σ (vs.map .val) xs → Q xs H'
theorem v_nil : PA X [] (rdV' g W Φ .nil) := PA.mono pa_nil fun σ H Q ⟨Z, s, st, h⟩ => by
  have h : Res g W σ Z H s (.ok [] s) fun vs _ Z' H' => ∀ xs, AgsR g H Z' H' σ (vs.map .val) xs → Q xs H' := h
  exact h.now st [] .nil
theorem v_cons {e : Expr} {es : List Expr} {t ts : T} (h1 : PE X e (rdE g W Φ t)) (h2 : PA X es (rdV' g W Φ ts)) (ns : noStar e = true) : PA X (e :: es) (rdV' g W Φ (.cons t ts)) := by
  refine PA.mono (pa_cons h1 h2 (star_cons ns es _)) fun σ H Q ⟨Z, s, st, h⟩ => ?_
  have h : Res g W σ Z H s ((evE Φ t s).bind fun x s => (evV Φ ts s).bind fun vs s => .ok (x :: vs) s) fun vs _ Z' H' => ∀ xs, AgsR g H Z' H' σ (vs.map .val) xs → Q xs H' := h
  refine ⟨Z, s, st, h.bind.mono fun v s1 Z1 H1 k1 st1 o1 q x rf => ⟨Z1, s1, st1, q.bind.mono fun vs s2 Z2 H2 k2 st2 o2 q2 xs rs => ?_⟩⟩
  have q2 : Res g W σ Z2 H2 s2 (.ok (v :: vs) s2) fun vs _ Z' H' => ∀ xs, AgsR g H Z' H' σ (vs.map .val) xs → Q xs H' := q2
  exact q2.now st2 _ (.val_cons rf k1.f (own_old st o1) k2 rs)
def setAllV : List Nat → List V → L2.St → L2.St
  | i :: is, x :: xs, σ => setAllV is xs (σ.set i (some x))
  | _, _, σ => σ
theorem set_all {H0 Z H : Hp} : ∀ {is : List Nat} {vs : List Vl} {xs : List V} {s : S} {σ : L2.St} {σ0 : L2.St}, Sr g Z s σ H → AgsR g H0 Z H σ0 (vs.map .val) xs → (∀ (j : Nat) t ys a, vs[j]? = some (.own t ys) → xs[j]? = some (.ref a) → ¬ Own s σ a) → is.length = vs.length →
    Sr g Z (setAll is vs s) (setAllV is xs σ) H ∧ ∀ a, Own (setAll is vs s) (setAllV is xs σ) a → Own s σ a ∨ H0 a = none
  | [], vs, xs, s, σ, σ0, st, r, fr, h => ⟨by simpa [setAll, setAllV] using st, fun a q => .inl (by simpa [setAll, setAllV] using q)⟩
  | i :: is, [], xs, s, σ, σ0, st, r, fr, h => by simp at h
  | i :: is, v :: vs, xs, s, σ, σ0, st, r, fr, h => by
    obtain ⟨x, ys, rfl, r2⟩ := AgsR.tail (a := .val v) (ags := vs.map .val) r
    obtain ⟨st1, o1⟩ := st.set (i := i) (v := v) (x := x) (r.val 0 v x rfl rfl) fun t zs a e1 e2 => by
      subst e1; subst e2
      exact fr 0 t zs a rfl rfl
    have fr1 : ∀ (j : Nat) t zs a, vs[j]? = some (.own t zs) → ys[j]? = some (.ref a) → ¬ Own (s.set i (some v)) (σ.set i (some x)) a := fun j t zs a e1 e2 q => by
      rcases o1 a q with q | ⟨t', zs', e3, e4⟩
      · exact fr (j + 1) t zs a (by simpa using e1) (by simpa using e2) q
      · subst e3; subst e4
        have := r.apart 0 (j + 1) t' t zs' zs a (by simp) (by simp [e1]) rfl (by simpa using e2)
        omega
    obtain ⟨st2, o2⟩ := set_all (is := is) (vs := vs) (xs := ys) st1 r2 fr1 (by simpa using h)
    refine ⟨st2, fun a q => ?_⟩
    rcases o2 a q with q | q
    · rcases o1 a q with q | ⟨t, zs, e3, e4⟩
      · exact .inl q
      · subst e3; subst e4
        exact .inr (r.new 0 t zs a rfl rfl)
    · exact .inr q
theorem AgsR.fresh {H0 Z H : Hp} {σ : L2.St} {vs : List Vl} {xs : List V} (r : AgsR g H0 Z H σ (vs.map .val) xs) : AgsR g H0 Z H σ ((vs.map Vl.fresh).map .val) xs := by
  have get : ∀ (j : Nat) v, ((vs.map Vl.fresh).map Ag.val)[j]? = some (.val v) → ∃ w, (vs.map Ag.val)[j]? = some (.val w) ∧ v = w.fresh := fun j v e => by
    rw [List.map_map, List.getElem?_map] at e
    obtain ⟨w, h1, h2⟩ := Option.map_eq_some_iff.mp e
    cases h2
    exact ⟨w, by rw [List.getElem?_map, h1]; rfl, rfl⟩
  refine ⟨by simpa using r.len, fun j v x e1 e2 => ?_, fun j i x e1 e2 => ?_, fun j t ys a e1 e2 => ?_, fun j j' t u ys zs a e1 e2 e3 e4 => ?_⟩
  · obtain ⟨w, h, rfl⟩ := get j v e1
    exact (r.val j w x h e2).fresh
  · rw [List.map_map, List.getElem?_map] at e1
    obtain ⟨w, h1, h2⟩ := Option.map_eq_some_iff.mp e1
    cases h2
  · obtain ⟨w, h, q⟩ := get j _ e1
    obtain ⟨t', rfl⟩ := fresh_own q.symm
    exact r.new j t' ys a h e2
  · obtain ⟨w, h, q⟩ := get j _ e1
    obtain ⟨t', rfl⟩ := fresh_own q.symm
    obtain ⟨w2, h2, q2⟩ := get j' _ e2
    obtain ⟨u', rfl⟩ := fresh_own q2.symm
    exact r.apart j j' t' u' ys zs a h h2 e3 e4
theorem set_all_p : ∀ {is : List Nat} {vs : List Vl} {xs : List V} {s : S} {σ : L2.St} {j : Nat}, is.length = vs.length → is.length = xs.length → Tg (setAll is (vs.map Vl.fresh) s) j → Tg s j ∧ (setAllV is xs σ)[j]? = σ[j]?
  | [], [], [], s, σ, j, _, _, q => ⟨by simpa [setAll] using q, by simp [setAllV]⟩
  | i :: is, v :: vs, x :: xs, s, σ, j, h1, h2, q => by
    obtain ⟨q1, q2⟩ := set_all_p (is := is) (vs := vs) (xs := xs) (s := s.set i (some v.fresh)) (σ := σ.set i (some x)) (by simpa using h1) (by simpa using h2) q
    obtain ⟨q3, q4⟩ := KS.set1 (σ := σ) (x := some x) q1 (fresh_no v)
    exact ⟨q3, q2.trans q4⟩
  | [], _ :: _, _, _, _, _, h, _, _ => by simp at h
  | [], [], _ :: _, _, _, _, _, h, _ => by simp at h
  | _ :: _, [], _, _, _, _, h, _, _ => by simp at h
  | _ :: _, _ :: _, [], _, _, _, _, h, _ => by simp at h
/-- the evaluator's end of such an assignment -/
theorem par_end {D : Ends} {σ : L2.St} {Z H : Hp} {s : S} {is : List Nat} {ts : T} {Q : List V → Hp → Prop} (st : Sr g Z s σ H) (h : ResS g W D Z H s σ (exS Φ (.par is ts) s))
    (k : ∀ xs Z1 H1, xs.length = is.length → (Same Z1 H1 ∧ ∀ Z' H', Ext Z1 H1 Z' H' → Z' = Z1 → Same Z1 H' → D.nx (setAllV is xs σ) H') → Q xs H1) : rdV' g W Φ ts σ H Q := by
  have h : ResS g W D Z H s σ (match evV Φ ts s with
    | .ok vs s => if is.length = vs.length && is.all (fun i => decide (i < s.length)) then .nx (setAll is (vs.map Vl.fresh) s) else .no
    | .ex c fs s => .ex c fs s
    | .no => .no) := h
  refine ⟨Z, s, st, ?_⟩
  cases e : evV Φ ts s with
  | no => rw [e] at h; exact h.elim
  | ex cc fs s' =>
    rw [e] at h
    exact fun Z' H' dd k st' o rx => h Z' H' σ dd (.ofE k st' o (tlVx e)) rx
  | ok vs s1 =>
    rw [e] at h
    intro Z1 H1 k1 st1 o1 xs rs
    dsimp only at h
    split at h
    · rename_i c1
      simp only [Bool.and_eq_true, decide_eq_true_eq] at c1
      have lx : xs.length = is.length := by
        have := rs.len
        rw [List.length_map] at this
        omega
      refine k xs Z1 H1 lx ⟨st1.sub, fun Z' H' ex ez sb => ?_⟩
      subst ez
      have st2 := st1.ext ex sb
      have fr : ∀ (j : Nat) t ys a, vs[j]? = some (.own t ys) → xs[j]? = some (.ref a) → H a = none := fun j t ys a e1 e2 => rs.new j t ys a (by rw [List.getElem?_map, e1]; rfl) e2
      have rs2 : AgsR g H Z' H' σ (vs.map .val) xs := ⟨rs.len, fun j v x e1 e2 => (rs.val j v x e1 e2).keep ex fun _ _ _ _ _ z => z.elim, rs.ref, rs.new, rs.apart⟩
      obtain ⟨st3, o3⟩ := set_all (is := is) st2 rs2.fresh (fun j t ys a e1 e2 q => by
        rw [List.getElem?_map] at e1
        obtain ⟨w, h1, h2⟩ := Option.map_eq_some_iff.mp e1
        obtain ⟨t', rfl⟩ := fresh_own h2
        obtain ⟨ws, hw, _⟩ := Own.some st (o1 a q)
        rw [fr j t' ys a h1 e2] at hw
        cases hw) (by rw [List.length_map]; exact c1.1)
      exact h Z' H' _ ⟨k1.two ex (fun _ z => z.elim), st3, fun a q => (o3 a q).imp (o1 a) id, fun j q => ⟨tlV e j (set_all_p (σ := σ) c1.1 lx.symm q).1, (set_all_p c1.1 lx.symm q).2⟩⟩
    · exact h.elim

theorem s_par2 {i j : Nat} {x y : Str} {a b : Expr} {px py pt pos : Pos} {kt k2 : Nat} {pt2 : Pos} {ts : T} (O : OkX g c W Φ kk X) (hi : c.N[i]? = some x) (hj : c.N[j]? = some y) (hij : i ≠ j) (hx : c.sc.names.lookup x = some .local) (hy : c.sc.names.lookup y = some .local) (ha : PA X [a, b] (rdV' g W Φ ts))
    (hk : c.sc.kind = .function) (hw : swK c.sc [.Name x px, .Name y py] [a, b] = some (some [x, y])) : PS X (.Assign [.Tuple [.Name x px, .Name y py] kt pt] (.Tuple [a, b] k2 pt2) pos) (rdS g W Φ (.par [i, j] ts)) := by
  refine PS.mono (ps_par (i := i) (j := j) O.cm (by rw [O.hN]; exact O.nd) (by rw [O.hN]; exact hi) (by rw [O.hN]; exact hj) hij (by rw [O.hs]; exact hx) (by rw [O.hs]; exact hy) ha (sw_is O.hs hk hw)) fun D σ H ⟨Z, s, st, h⟩ => ?_
  refine par_end st h fun xs Z1 H1 hl q => ?_
  match xs, hl with
  | [v, w], _ => exact ⟨v, w, rfl, q.2 Z1 H1 .refl rfl q.1⟩
theorem s_par3 {i j l : Nat} {x y z : Str} {a b e : Expr} {px py pz pt pos : Pos} {kt k2 : Nat} {pt2 : Pos} {ts : T} (O : OkX g c W Φ kk X) (hi : c.N[i]? = some x) (hj : c.N[j]? = some y) (hl : c.N[l]? = some z) (hij : i ≠ j) (hil : i ≠ l) (hjl : j ≠ l) (hx : c.sc.names.lookup x = some .local)
    (hy : c.sc.names.lookup y = some .local) (hz : c.sc.names.lookup z = some .local) (ha : PA X [a, b, e] (rdV' g W Φ ts)) (hk : c.sc.kind = .function) (hw : swK c.sc [.Name x px, .Name y py, .Name z pz] [a, b, e] = some (some [x, y, z])) :
    PS X (.Assign [.Tuple [.Name x px, .Name y py, .Name z pz] kt pt] (.Tuple [a, b, e] k2 pt2) pos) (rdS g W Φ (.par [i, j, l] ts)) := by
  refine PS.mono (ps_par3 (i := i) (j := j) (l := l) O.cm (by rw [O.hN]; exact O.nd) (by rw [O.hN]; exact hi) (by rw [O.hN]; exact hj) (by rw [O.hN]; exact hl) hij hil hjl (by rw [O.hs]; exact hx) (by rw [O.hs]; exact hy) (by rw [O.hs]; exact hz) ha (sw_is O.hs hk hw)) fun D σ H ⟨Z, s, st, h⟩ => ?_
  refine par_end st h fun xs Z1 H1 hl q => ?_
  match xs, hl with
  | [u, v, w], _ => exact ⟨u, v, w, rfl, q.2 Z1 H1 .refl rfl q.1⟩
/-- names as targets, one by one -/
def gNames (is : List Nat) : TGs := fun vs σ H Q => vs.length = is.length ∧ Q (setAllV is vs σ) H
def isNames (c : Cc) : List Expr → List Nat → Prop
  | [], [] => True
  | .Name x _ :: es, i :: is => c.N[i]? = some x ∧ Loc c.sc x ∧ isNames c es is
  | _, _ => False
theorem names_each {env : Env} : ∀ {es : List Expr} {is : List Nat}, isNames c es is → (assignEach es env).findIdx? (·.1) = none ∧ (assignEach es env).length = is.length
  | [], [], _ => ⟨rfl, rfl⟩
  | .Name x p :: es, i :: is, h => by
    obtain ⟨h1, h2⟩ := names_each (env := env) h.2.2
    constructor
    · show (((false, assign (.Name x p) env) :: assignEach es env).findIdx? (·.1)) = none
      rw [List.findIdx?_cons]
      simp [h1]
    · show ((false, assign (.Name x p) env) :: assignEach es env).length = _
      rw [List.length_cons, h2, List.length_cons]
theorem gs_names (O : OkX g c W Φ kk X) (hf : ∀ x, X.fn x = true) : ∀ {es : List Expr} {is : List Nat}, isNames c es is → PGs X es (gNames is)
  | [], [], _ => PGs.mono pgs_nil fun vs σ H Q ⟨h1, h2⟩ => by
    cases vs with
    | nil => exact ⟨rfl, by simpa [setAllV] using h2⟩
    | cons v vs => simp at h1
  | .Name x p :: es, i :: is, h => by
    refine PGs.mono (pgs_cons (pg_name (i := i) (by rw [O.hN]; exact O.nd) (by rw [O.hN]; exact h.1) (by rw [O.hs]; exact h.2.1) (.inl (hf x))) (gs_names O hf h.2.2) rfl) fun vs σ H Q ⟨h1, h2⟩ => ?_
    cases vs with
    | nil => simp at h1
    | cons v vs => exact ⟨v, vs, rfl, by simpa using h1, h2⟩
theorem s_parT {es vs : List Expr} {is : List Nat} {pt pos : Pos} {kt k2 : Nat} {pt2 : Pos} {ts : T} (O : OkX g c W Φ kk X) (hf : ∀ x, X.fn x = true) (hn : isNames c es is) (ha : PA X vs (rdV' g W Φ ts)) (hk : c.sc.kind = .function) (hw : swK c.sc es vs = some none) (hz : is.length ≤ 1000) :
    PS X (.Assign [.Tuple es kt pt] (.Tuple vs k2 pt2) pos) (rdS g W Φ (.par is ts)) := by
  obtain ⟨n1, n2⟩ := names_each (env := X.env) hn
  refine PS.mono (ps_asg (pe_tup ha) (pg_tup (n := is.length) O.cm (gs_names O hf hn) n2 n1) rfl (sw_is O.hs hk hw) rfl) fun D σ H ⟨Z, s, st, h⟩ => ?_
  refine par_end st h fun xs Z1 H1 hl q => ⟨by rw [hl]; exact Nat.le_of_lt (small1000 hz), fun p hp => ?_⟩
  exact ⟨p, xs, rfl, .of upd_same, hl, hl, q.2 Z1 _ (.lay hp) rfl (Same.lay q.1 hp)⟩
end
end MI

set_option Elab.async false
set_option linter.all false
set_option maxRecDepth 100000
set_option maxHeartbeats 4000000
/-! Loops. -/
namespace MI
open PySem PySem.Spec PyProof.Rows L2
section
variable {g : G} {c : Cc} {W : WXX} {Φ : Call} {kk : Nat} {X : Cx}
def stepW (Φ : Call) (tc tb : T) : S → MI.O := fun s => match evE Φ tc s with
    | .ok v s => (match tru v.dat with
      | some true => (match exS Φ tb s with | .ct s => .nx s | o => o)
      | some false => .bk s
      | none => .no)
    | .ex c fs s => .ex c fs s
    | .no => .no
theorem s_while {e : Expr} {b : List Stmt} {tc tb : T} {pos : Pos} (O : OkX g c W Φ kk X) (hc : PT X e (rdT g W Φ tc)) (hb : PSs X b (rdS g W Φ tb)) : PS X (.While e b [] pos) (rdS g W Φ (.whl tc tb)) := by
  refine PS.mono (ps_while O.po hc hb) fun D σ H ⟨Z, s, st, h⟩ => ?_
  have h : ResS g W D Z H s σ (loopN FUEL (stepW Φ tc tb) s) := h
  refine ⟨fun m σ' H' => ∃ Z' s', Sr g Z' s' σ' H' ∧ ResS g W D Z' H' s' σ' (loopN m (stepW Φ tc tb) s'), ⟨FUEL, Z, s, st, h⟩, ?_⟩
  clear h st
  rintro m σ1 H1 ⟨Z1, s1, st, h⟩
  cases m with
  | zero => exact h.elim
  | succ n =>
    let f : Bool → S → MI.O := fun k s => if k = true then (match exS Φ tb s with
        | .nx s => loopN n (stepW Φ tc tb) s
        | .ct s => loopN n (stepW Φ tc tb) s
        | .bk s => .nx s
        | o => o) else .nx s
    have h : ResS g W D Z1 H1 s1 σ1 (match evE Φ tc s1 with | .ok v s => (match tru v.dat with | some b => f b s | none => .no) | .ex c fs s => .ex c fs s | .no => .no) := by
      have h : ResS g W D Z1 H1 s1 σ1 (match stepW Φ tc tb s1 with
        | .nx s' => loopN n (stepW Φ tc tb) s'
        | .bk s' => .nx s'
        | o => o) := h
      unfold stepW at h
      cases e1 : evE Φ tc s1 with
      | no => rw [e1] at h; exact h
      | ex cc fs s' => rw [e1] at h; exact h
      | ok v s2 =>
        rw [e1] at h
        dsimp only at h ⊢
        cases e2 : tru v.dat with
        | none => rw [e2] at h; exact h
        | some k =>
          rw [e2] at h
          cases k with
          | false => exact h
          | true =>
            show ResS g W D Z1 H1 s1 σ1 (match exS Φ tb s2 with
              | .nx s => loopN n (stepW Φ tc tb) s
              | .ct s => loopN n (stepW Φ tc tb) s
              | .bk s => .nx s
              | o => o)
            dsimp only at h
            cases e3 : exS Φ tb s2 with
            | nx s' => rw [e3] at h; exact h
            | bk s' => rw [e3] at h; exact h
            | ct s' => rw [e3] at h; exact h
            | rt v s' => rw [e3] at h; exact h
            | ex c fs s' => rw [e3] at h; exact h
            | no => rw [e3] at h; exact h
    refine st_T (D := D) (f := f) st h fun k s2 Z2 H2 ks2 q => ?_
    cases k with
    | false =>
      refine iteF ?_
      have q : ResS g W D Z1 H1 s1 σ1 (.nx s2) := q
      exact q Z2 H2 σ1 ks2
    | true =>
      refine iteT ⟨fun σ' H' => ∃ Z' s', Sr g Z' s' σ' H' ∧ ResS g W D Z' H' s' σ' (loopN n (stepW Φ tc tb) s'), fun σ' H' w => ⟨n, Nat.lt_succ_self n, w⟩, Z2, s2, ks2.st, ?_⟩
      have q : ResS g W D Z2 H2 s2 σ1 (match exS Φ tb s2 with
        | .nx s => loopN n (stepW Φ tc tb) s
        | .ct s => loopN n (stepW Φ tc tb) s
        | .bk s => .nx s
        | o => o) := ResS.rebase (by
          have q := q
          simp only [f, if_true] at q
          exact q) ks2
      cases e3 : exS Φ tb s2 with
      | nx s3 =>
        rw [e3] at q
        exact fun Z3 H3 σ3 k3 => ⟨Z3, s3, k3.st, ResS.rebase q k3⟩
      | ct s3 =>
        rw [e3] at q
        exact fun Z3 H3 σ3 k3 => ⟨Z3, s3, k3.st, ResS.rebase q k3⟩
      | bk s3 => rw [e3] at q; exact q
      | rt v s3 => rw [e3] at q; exact q
      | ex cc fs s3 => rw [e3] at q; exact q
      | no => rw [e3] at q; exact q
def stepF (Φ : Call) (p b : T) : D → S → MI.O := fun x s => match onlyN (bindP Φ p x s) with
      | .nx s => exS Φ b s
      | o => o
theorem drop_some {α : Type} {l : List α} {i : Nat} {d : α} (h : l[i]? = some d) : l.drop i = d :: l.drop (i + 1) := by
  obtain ⟨h1, h2⟩ := List.getElem?_eq_some_iff.mp h
  rw [List.drop_eq_getElem_cons h1, h2]
theorem s_for {tg it : Expr} {b : List Stmt} {p ti tb : T} {pos : Pos} (O : OkX g c W Φ kk X) (hi : PI X tg it (rdI g W Φ ti)) (hp : PG X tg (rdG g W Φ p)) (hb : PSs X b (rdS g W Φ tb)) (hs : ∀ x, foldedSetIterable it X.env x = pure x) : PS X (.For tg it b [] pos) (rdS g W Φ (.for p ti tb)) := by
  refine PS.mono (ps_for O.po O.cm hi hp hb hs) fun D σ H ⟨Z, s, st, h⟩ => ⟨Z, s, st, ?_⟩
  have h : ResS g W D Z H s σ (match evI Φ ti s with
    | .ok xs s => loopL (stepF Φ p tb) xs s
    | .ex c fs s => .ex c fs s
    | .no => .no) := h
  cases e : evI Φ ti s with
  | no => rw [e] at h; exact h
  | ex cc fs s' =>
    rw [e] at h
    exact fun Z' H' dd k st' o rx => h Z' H' σ dd (.ofE k st' o (tlIx e)) rx
  | ok ds s0 =>
    rw [e] at h
    intro Z0 H0 k0 st0 o0 J jr
    have h0 : ResS g W D Z0 H0 s0 σ (loopL (stepF Φ p tb) ds s0) := ResS.rebase h (.ofE k0 st0 o0 (tlI e))
    refine ⟨fun i m σ' H' => m = ds.length - i ∧ ∃ Z' s', Same Z0 Z' ∧ Sr g Z' s' σ' H' ∧ ResS g W D Z' H' s' σ' (loopL (stepF Φ p tb) (ds.drop i) s'), ⟨_, rfl, Z0, s0, Same.refl _, st0, by simpa using h0⟩, ?_⟩
    clear h0 h
    rintro i m σ1 H1 ⟨rfl, Z1, s1, z1, st1, h⟩
    cases hd : ds[i]? with
    | none =>
      have hl : ds.length ≤ i := List.getElem?_eq_none_iff.mp hd
      rw [List.drop_eq_nil_of_le hl] at h
      have h : ResS g W D Z1 H1 s1 σ1 (.nx s1) := h
      exact .inl ⟨jr.stop i Z1 H1 z1 st1.sub hl, h Z1 H1 σ1 ⟨.refl, st1, fun _ q => .inl q, fun _ q => ⟨q, rfl⟩⟩⟩
    | some d =>
      have hl := (List.getElem?_eq_some_iff.mp hd).1
      obtain ⟨go, yl⟩ := jr.go i d Z1 H1 z1 st1.sub hd
      refine .inr ⟨go, fun σ' H' => ∃ Z' s', Same Z0 Z' ∧ Sr g Z' s' σ' H' ∧ ResS g W D Z' H' s' σ' (loopL (stepF Φ p tb) (ds.drop (i + 1)) s'), fun σ' H' w => ⟨ds.length - (i + 1), by omega, rfl, w⟩, fun x H2 hy => ?_⟩
      obtain ⟨Z2, ex, sb, rd⟩ := yl x H2 hy
      have st2 := st1.ext ex sb
      have h2 : ResS g W D Z2 H2 s1 σ1 (loopL (stepF Φ p tb) (ds.drop i) s1) := ResS.rebase h ⟨ex.wide fun _ z => z.elim, st2, fun _ q => .inl q, fun _ q => ⟨q, rfl⟩⟩
      rw [drop_some hd] at h2
      have h2 : ResS g W D Z2 H2 s1 σ1 (match (match onlyN (bindP Φ p d s1) with
          | .nx s => exS Φ tb s
          | o => o) with
        | .nx s' => loopL (stepF Φ p tb) (ds.drop (i + 1)) s'
        | .ct s' => loopL (stepF Φ p tb) (ds.drop (i + 1)) s'
        | .bk s' => .nx s'
        | o => o) := h2
      refine ⟨Z2, s1, d, st2, rd, ?_⟩
      cases e1 : bindP Φ p d s1 with
      | nx s3 =>
        rw [e1] at h2
        intro Z3 H3 σ3 k3
        have q := ResS.rebase h2 k3
        refine ⟨Z3, s3, k3.st, ?_⟩
        have q : ResS g W D Z3 H3 s3 σ3 (match exS Φ tb s3 with
          | .nx s' => loopL (stepF Φ p tb) (ds.drop (i + 1)) s'
          | .ct s' => loopL (stepF Φ p tb) (ds.drop (i + 1)) s'
          | .bk s' => .nx s'
          | o => o) := q
        have zz : Same Z0 Z3 := (z1.trans ex.z).trans k3.k.z
        cases e3 : exS Φ tb s3 with
        | nx s4 =>
          rw [e3] at q
          exact fun Z4 H4 σ4 k4 => ⟨Z4, s4, zz.trans k4.k.z, k4.st, ResS.rebase q k4⟩
        | ct s4 =>
          rw [e3] at q
          exact fun Z4 H4 σ4 k4 => ⟨Z4, s4, zz.trans k4.k.z, k4.st, ResS.rebase q k4⟩
        | bk s4 => rw [e3] at q; exact q
        | rt v s4 => rw [e3] at q; exact q
        | ex cc fs s4 => rw [e3] at q; exact q
        | no => rw [e3] at q; exact q
      | ex cc fs s3 => rw [e1] at h2; exact h2
      | bk s3 => rw [e1] at h2; exact h2
      | ct s3 => rw [e1] at h2; exact h2
      | rt v s3 => rw [e1] at h2; exact h2
      | no => rw [e1] at h2; exact h2
end
end MI

set_option Elab.async false
set_option linter.all false
set_option maxRecDepth 100000
set_option maxHeartbeats 4000000
/-! List comprehensions. -/
namespace MI
open PySem PySem.Spec PyProof.Rows L2
section
variable {g : G} {c : Cc} {W : WXX} {Φ : Call} {kk : Nat} {X : Cx}
theorem wipe_get (σ : L2.St) : ∀ (vs : List Nat) (j : Nat), (wipe σ vs)[j]? = if j ∈ vs then (if j < σ.length then some none else none) else σ[j]?
  | [], j => by simp [wipe]
  | v :: vs, j => by
    unfold wipe
    by_cases h : v = j
    · subst h
      rw [if_pos List.mem_cons_self]
      by_cases hl : v < σ.length
      · rw [List.getElem?_set_self (by rw [wipe_length]; exact hl), if_pos hl]
      · rw [if_neg hl, List.getElem?_eq_none (by rw [List.length_set, wipe_length]; omega)]
    · rw [List.getElem?_set_ne h, wipe_get σ vs j]
      have : (j ∈ v :: vs) ↔ j ∈ vs := by simp [Ne.symm h]
      simp only [this]
theorem wipeS_get (s : S) : ∀ (vs : List Nat) (j : Nat), (wipeS s vs)[j]? = if j ∈ vs then (if j < s.length then some none else none) else s[j]?
  | [], j => by simp [wipeS]
  | v :: vs, j => by
    have len : (wipeS s vs).length = s.length := by
      have : ∀ vs : List Nat, (wipeS s vs).length = s.length := fun vs => by
        induction vs with
        | nil => rfl
        | cons v vs ih => unfold wipeS; rw [List.length_set, ih]
      exact this vs
    unfold wipeS
    by_cases h : v = j
    · subst h
      rw [if_pos List.mem_cons_self]
      by_cases hl : v < s.length
      · rw [List.getElem?_set_self (by rw [len]; exact hl), if_pos hl]
      · rw [if_neg hl, List.getElem?_eq_none (by rw [List.length_set, len]; omega)]
    · rw [List.getElem?_set_ne h, wipeS_get s vs j]
      have : (j ∈ v :: vs) ↔ j ∈ vs := by simp [Ne.symm h]
      simp only [this]
theorem wipeS_len (s : S) : ∀ vs : List Nat, (wipeS s vs).length = s.length
  | [] => rfl
  | v :: vs => by unfold wipeS; rw [List.length_set, wipeS_len s vs]
theorem wipe_wipe {σ : L2.St} {vs : List Nat} : wipe (wipe σ vs) vs = wipe σ vs := by
  apply List.ext_getElem?
  intro j
  rw [wipe_get, wipe_length, wipe_get]
  split <;> rfl
theorem wipe_set {σ : L2.St} {vs : List Nat} {i : Nat} {o : Option V} (h : i ∈ vs) : wipe (σ.set i o) vs = wipe σ vs := by
  apply List.ext_getElem?
  intro j
  rw [wipe_get, wipe_get, List.length_set]
  split
  · rfl
  · rename_i hj
    rw [List.getElem?_set_ne]
    rintro rfl
    exact hj h
/-- slots forgotten on both sides -/
theorem Sr.wipe {Z H : Hp} {s : S} {σ : L2.St} (st : Sr g Z s σ H) (vs : List Nat) : Sr g Z (wipeS s vs) (L2.wipe σ vs) H ∧ ∀ a, Own (wipeS s vs) (L2.wipe σ vs) a → Own s σ a := by
  have key : ∀ (j : Nat) (v : Vl), (wipeS s vs)[j]? = some (some v) → j ∉ vs ∧ s[j]? = some (some v) := fun j v e => by
    rw [wipeS_get] at e
    split at e
    · split at e <;> cases e
    · rename_i h; exact ⟨h, e⟩
  have keyV : ∀ (j : Nat), j ∉ vs → (L2.wipe σ vs)[j]? = σ[j]? := fun j h => by rw [wipe_get, if_neg h]
  have own : ∀ a, Own (wipeS s vs) (L2.wipe σ vs) a → Own s σ a := fun a ⟨j, t, xs, e1, e2⟩ => by
    obtain ⟨h, e⟩ := key j _ e1
    rw [keyV j h] at e2
    exact ⟨j, t, xs, e, e2⟩
  refine ⟨⟨by rw [wipeS_len, wipe_length, st.len], st.sub, fun j v e => ?_, fun j k t u xs ys a e1 e2 e3 e4 => ?_⟩, own⟩
  · obtain ⟨h, e⟩ := key j v e
    rw [keyV j h]
    exact st.rel j v e
  · obtain ⟨h1, q1⟩ := key j _ e1
    obtain ⟨h2, q2⟩ := key k _ e2
    rw [keyV j h1] at e3
    rw [keyV k h2] at e4
    exact st.inj j k t u xs ys a q1 q2 e3 e4
/-- a comprehension's target -/
def PatOk (g : G) (Φ : Call) (p : T) (gr : TG) (own : List Nat) : Prop := ∀ (Z H : Hp) (s s2 : S) (σ : L2.St) (d : D) (x : V) (Q : L2.St → Hp → Prop), Sr g Z s σ H → RD g Z d x → bindP Φ p d s = .nx s2 →
  (∀ σ2, Sr g Z s2 σ2 H → (∀ a, Own s2 σ2 a → Own s σ a) → L2.wipe σ2 own = L2.wipe σ own → Q σ2 H) → gr x σ H Q
theorem pat_var {i : Nat} {own : List Nat} (h : i ∈ own) : PatOk g Φ (.var i) (gName i) own := fun Z H s s2 σ d x Q st rd e q => by
  have e : (if i < s.length then MI.O.nx (s.set i (some (.d d))) else .no) = .nx s2 := e
  split at e
  · cases e
    obtain ⟨st', o'⟩ := st.set (i := i) (v := .d d) (x := x) rd fun _ _ _ e => nomatch e
    exact q _ st' (fun a z => (o' a z).elim id fun ⟨_, _, e, _⟩ => nomatch e) (wipe_set h)
  · cases e
def varsT : List Nat → T
  | [] => .nil
  | i :: is => .cons (.var i) (varsT is)
theorem vars_bind : ∀ {is : List Nat} {ds : List D} {xs : List V} {Z H : Hp} {s s2 : S} {σ : L2.St} {own : List Nat}, Sr g Z s σ H → RDs g Z ds xs → bindPs Φ (varsT is) ds s = .nx s2 → (∀ i ∈ is, i ∈ own) →
    Sr g Z s2 (setAllV is xs σ) H ∧ (∀ a, Own s2 (setAllV is xs σ) a → Own s σ a) ∧ L2.wipe (setAllV is xs σ) own = L2.wipe σ own ∧ xs.length = is.length
  | [], ds, xs, Z, H, s, s2, σ, own, st, rs, e, ho => by
    cases ds with
    | nil =>
      cases rs
      have e : MI.O.nx s = .nx s2 := e
      cases e
      exact ⟨st, fun _ q => q, rfl, rfl⟩
    | cons d ds => cases e
  | i :: is, ds, xs, Z, H, s, s2, σ, own, st, rs, e, ho => by
    cases rs with
    | nil => cases e
    | @cons d x ds xs rd rs =>
      have e : (match (if i < s.length then MI.O.nx (s.set i (some (.d d))) else .no) with
        | .nx s => bindPs Φ (varsT is) ds s
        | o => o) = .nx s2 := e
      by_cases hi : i < s.length
      · rw [if_pos hi] at e
        obtain ⟨st', o'⟩ := st.set (i := i) (v := .d d) (x := x) rd fun _ _ _ e => nomatch e
        obtain ⟨h1, h2, h3, h4⟩ := vars_bind (own := own) st' rs e fun k hk => ho k (List.mem_cons_of_mem _ hk)
        refine ⟨h1, fun a z => ?_, h3.trans (wipe_set (ho i List.mem_cons_self)), by simp [h4]⟩
        rcases o' a (h2 a z) with q | ⟨_, _, e, _⟩
        · exact q
        · cases e
      · rw [if_neg hi] at e
        cases e
theorem varsT_len : ∀ is : List Nat, plainLen (varsT is) = some is.length
  | [] => rfl
  | i :: is => by
    show (plainLen (varsT is)).map (· + 1) = _
    rw [varsT_len is]
    rfl
theorem pat_vars (hK : g.K = X.K) {is own : List Nat} (ho : ∀ i ∈ is, i ∈ own) : PatOk g Φ (.tup (varsT is)) (gTup X.K is.length (gNames is)) own := fun Z H s s2 σ d x Q st rd e q => by
  cases d with
  | tup ds =>
    obtain ⟨a, xs, rfl, h, rs⟩ := rd.t
    have e : (if plainLen (varsT is) = some ds.length then bindPs Φ (varsT is) ds s else .no) = .nx s2 := e
    split at e
    · obtain ⟨h1, h2, h3, h4⟩ := vars_bind (own := own) st rs e ho
      exact ⟨a, xs, rfl, hK ▸ sqT_mono st.sub h, h4, h4, q _ h1 h2 h3⟩
    · cases e
  | _ => cases e

def W0 : WXX := fun _ _ _ _ => False
def TestOk (g : G) (Φ : Call) (tc : T) (tt : TT) : Prop := ∀ (Z H : Hp) (s s' : S) (σ : L2.St) (v : Vl) (k : Bool) (Q : Bool → Hp → Prop), Sr g Z s σ H → evE Φ tc s = .ok v s' → tru v.dat = some k →
  (∀ Z' H', Keep Z H (Own s σ) Z' H' → Sr g Z' s' σ H' → (∀ a, Own s' σ a → Own s σ a) → Q k H') → tt σ H Q
theorem test_rd {tc : T} : TestOk g Φ tc (rdT g W0 Φ tc) := fun Z H s s' σ v k Q st e1 e2 q => by
  refine ⟨Z, s, st, ?_⟩
  rw [e1]
  show Res g W0 σ Z H s (R.ofO (tru v.dat) s') _
  rw [e2]
  exact fun Z' H' k1 st1 o1 => q Z' H' k1 st1 o1
theorem test_yes : TestOk g Φ (.con (.bl true)) tYes := fun Z H s s' σ v k Q st e1 e2 q => by
  have e1 : R.ok (Vl.d (.bl true)) s = .ok v s' := e1
  cases e1
  cases e2
  exact q Z H .refl st fun _ z => z
def stepC (Φ : Call) (own : List Nat) (p c e : T) : D → S → Option (Option D × S) := fun x s => match bindP Φ p x s with
        | .nx s => (match evE Φ c s with
          | .ok b s => (match tru b.dat with
            | some true => (match evE Φ e s with
              | .ok v s => some (some v.dat, wipeS s own)
              | _ => none)
            | some false => some (none, wipeS s own)
            | none => none)
          | _ => none)
        | _ => none
/-- the state of a comprehension between two turns -/
structure LcSt (g : G) (Φ : Call) (own : List Nat) (p c e : T) (Z1 H1 : Hp) (s1 : S) (σ : L2.St) (D : Addr) (ds : List MI.D) (tot : List MI.D) (sf : S) (i : Nat) (H : Hp) (Z : Hp) (s : S) (acc : List MI.D) (vs : List V) (ys : List MI.D) : Prop where
  z : Same Z1 Z
  run : compL (stepC Φ own p c e) (ds.drop i) s = some (ys, sf)
  st : Sr g Z s (L2.wipe σ own) H
  lst : H D = some (.lst vs)
  zD : Z D = none
  rs : RDs g Z acc vs
  all : acc ++ ys = tot
  kp : Keep Z1 H1 (Own s1 σ) Z H
  ow : ∀ a, Own s (L2.wipe σ own) a → Own s1 σ a
theorem lc_read {own : List Nat} {p it tc e : T} {gr : TG} {tt : TT} {te : TE} {σ : L2.St} {Z H : Hp} {s : S} {Q : VK} (O : OkX g c W Φ kk X) (hp : PatOk g Φ p gr own) (ht : TestOk g Φ tc tt) (he : te = rdE g W0 Φ e) (st : Sr g Z s σ H)
    (h : Res g W σ Z H s (evE Φ (.comp own p it tc e) s) fun v _ Z' H' => ∀ x, RF g H Z' H' v x → Q x H') : tLc (rdI g W Φ it) gr tt te own σ H Q := by
  subst he
  let nx : List MI.D → S → MI.R Vl := fun xs s => match compL (stepC Φ own p tc e) xs (wipeS s own) with
    | some (ys, s') => if fitsL ys.length then .ok (.own false ys) (unwipe s s' own) else .no
    | none => .no
  have h : Res g W σ Z H s ((evI Φ it s).bind nx) fun v _ Z' H' => ∀ x, RF g H Z' H' v x → Q x H' := h
  refine ⟨Z, s, st, h.bind.mono fun ds s1 Z1 H1 k1 st1 o1 q J jr D hD => ?_⟩
  simp only [nx] at q
  cases e0 : compL (stepC Φ own p tc e) ds (wipeS s1 own) with
  | none => rw [e0] at q; exact q.elim
  | some pr =>
    obtain ⟨tot, sf⟩ := pr
    rw [e0] at q
    dsimp only at q
    split at q
    · rename_i fit
      have fit := fitsL_le fit
      obtain ⟨stw, oww⟩ := st1.wipe own
      have noD : ∀ a, Own s1 σ a → a ≠ D := fun a o z => by
        obtain ⟨ws, hw, _⟩ := Own.some st1 o
        rw [z, hD] at hw
        cases hw
      refine ⟨fun i m H' => m = ds.length - i ∧ ∃ Z s acc vs ys, LcSt g Φ own p tc e Z1 H1 s1 σ D ds tot sf i H' Z s acc vs ys, ⟨_, rfl, Z1, wipeS s1 own, [], [], tot, ?_⟩, ?_⟩
      · exact ⟨Same.refl _, by simpa using e0, stw.ext (.lay hD) (Same.lay stw.sub hD), upd_same, Same.none st1.sub hD, .nil, rfl, (Ext.lay hD).wide fun _ z => z.elim, oww⟩
      · clear st h
        rintro i m Hc ⟨rfl, Zc, sc, acc, vs, ys, L⟩
        cases hd : ds[i]? with
        | none =>
          have hl : ds.length ≤ i := List.getElem?_eq_none_iff.mp hd
          have run := L.run
          rw [List.drop_eq_nil_of_le hl] at run
          have run : some ([], sc) = some (ys, sf) := run
          cases run
          have all := L.all
          rw [List.append_nil] at all
          refine .inl ⟨jr.stop i Zc Hc L.z L.st.sub hl, ?_⟩
          -- the slots again as they stood
          have lsf : sf.length = s1.length := by rw [L.st.len, wipe_length, st1.len]
          have ug : ∀ (vs : List Nat) (j : Nat), (unwipe s1 sf vs)[j]? = if j ∈ vs then (if j < sf.length then some (match s1[j]? with | some (some (.d x)) => some (.d x) | _ => none) else none) else sf[j]? := fun vs j => by
            have ul : ∀ vs : List Nat, (unwipe s1 sf vs).length = sf.length := fun vs => by
              induction vs with
              | nil => rfl
              | cons v vs ih => unfold unwipe; rw [List.length_set, ih]
            induction vs with
            | nil => simp [unwipe]
            | cons v vs ih =>
              unfold unwipe
              by_cases hvj : v = j
              · subst hvj
                rw [if_pos List.mem_cons_self]
                by_cases hl : v < sf.length
                · rw [List.getElem?_set_self (by rw [ul]; exact hl), if_pos hl]
                  try rfl
                · rw [if_neg hl, List.getElem?_eq_none (by rw [List.length_set, ul]; omega)]
              · rw [List.getElem?_set_ne hvj, ih]
                have : (j ∈ v :: vs) ↔ j ∈ vs := by simp [Ne.symm hvj]
                simp only [this]
          have key : ∀ (j : Nat) (v : Vl), (unwipe s1 sf own)[j]? = some (some v) → (j ∈ own ∧ ∃ x, v = .d x ∧ s1[j]? = some (some (.d x))) ∨ (j ∉ own ∧ sf[j]? = some (some v)) := fun j v ej => by
            rw [ug] at ej
            split at ej
            · rename_i hj
              split at ej
              · have ej := Option.some.inj ej
                split at ej
                · rename_i x hx
                  cases ej
                  exact .inl ⟨hj, x, rfl, hx⟩
                · cases ej
              · cases ej
            · rename_i hj
              exact .inr ⟨hj, ej⟩
          have keyV : ∀ (j : Nat), j ∉ own → (L2.wipe σ own)[j]? = σ[j]? := fun j hj => by rw [wipe_get, if_neg hj]
          have ownU : ∀ a, Own (unwipe s1 sf own) σ a → Own sf (L2.wipe σ own) a := fun a ⟨j, t, xs, q1, q2⟩ => by
            rcases key j _ q1 with ⟨_, x, e, _⟩ | ⟨hj, e⟩
            · cases e
            · exact ⟨j, t, xs, e, by rw [keyV j hj]; exact q2⟩
          have stU : Sr g Zc (unwipe s1 sf own) σ Hc := by
            refine ⟨?_, L.st.sub, fun j v q1 => ?_, fun j k t u xs ys a q1 q2 q3 q4 => ?_⟩
            · have ul : ∀ vs : List Nat, (unwipe s1 sf vs).length = sf.length := fun vs => by
                induction vs with
                | nil => rfl
                | cons v vs ih => unfold unwipe; rw [List.length_set, ih]
              rw [ul, lsf, st1.len]
            · rcases key j v q1 with ⟨_, x, rfl, e⟩ | ⟨hj, e⟩
              · obtain ⟨w, hw, r⟩ := st1.rel j _ e
                exact ⟨w, hw, RD.mono L.z r⟩
              · obtain ⟨w, hw, r⟩ := L.st.rel j v e
                exact ⟨w, by rw [← keyV j hj]; exact hw, r⟩
            · rcases key j _ q1 with ⟨_, x, e, _⟩ | ⟨hj, e⟩
              · cases e
              · rcases key k _ q2 with ⟨_, x, e', _⟩ | ⟨hk, e'⟩
                · cases e'
                · exact L.st.inj j k t u xs ys a e e' (by rw [keyV j hj]; exact q3) (by rw [keyV k hk]; exact q4)
          refine q Zc Hc L.kp stU (fun a o => L.ow a (ownU a o)) (.ref D) ⟨⟨D, vs, rfl, L.lst, L.zD, all ▸ L.rs⟩, fun t xs a e1 e2 => ?_⟩
          cases e2
          exact k1.f D hD
        | some d =>
          obtain ⟨go, yl⟩ := jr.go i d Zc Hc L.z L.st.sub hd
          have hl := (List.getElem?_eq_some_iff.mp hd).1
          refine .inr ⟨go, fun H' => ∃ Z s acc vs ys, LcSt g Φ own p tc e Z1 H1 s1 σ D ds tot sf (i + 1) H' Z s acc vs ys, fun H' w => ⟨ds.length - (i + 1), by omega, rfl, w⟩, fun x H2 hy => ?_⟩
          obtain ⟨Z2, ex, sb, rd⟩ := yl x H2 hy
          have st2 := L.st.ext ex sb
          have run := L.run
          rw [drop_some hd] at run
          have run : (match stepC Φ own p tc e d sc with
            | none => none
            | some (y, s1) => match compL (stepC Φ own p tc e) (ds.drop (i + 1)) s1 with
              | none => none
              | some (ys, s2) => some (joinO y ys, s2)) = some (ys, sf) := run
          -- the turn's parts
          cases es : stepC Φ own p tc e d sc with
          | none => rw [es] at run; cases run
          | some pr =>
            obtain ⟨y, sn⟩ := pr
            rw [es] at run
            dsimp only at run
            cases er : compL (stepC Φ own p tc e) (ds.drop (i + 1)) sn with
            | none => rw [er] at run; cases run
            | some pr2 =>
              obtain ⟨yr, sl⟩ := pr2
              rw [er] at run
              have run := Option.some.inj run
              have ey : joinO y yr = ys := (Prod.mk.inj run).1
              have esl : sl = sf := (Prod.mk.inj run).2
              subst esl
              unfold stepC at es
              split at es
              · rename_i s3 eb
                split at es
                · rename_i b s4 ec
                  refine hp Z2 H2 sc s3 (L2.wipe σ own) d x _ st2 rd eb fun σ3 st3 o3 w3 => ?_
                  have w3 : L2.wipe σ3 own = L2.wipe σ own := w3.trans wipe_wipe
                  refine ⟨w3, ?_⟩
                  -- from the state between the turns to here
                  have kD2 : Keep Z1 H1 (Own s1 σ) Z2 H2 := L.kp.two ex fun _ z => z.elim
                  have D2 : H2 D = some (.lst vs) := ex.h D _ L.lst id
                  have zD2 : Z2 D = none := ex.n D _ L.lst id L.zD
                  have rs2 : RDs g Z2 acc vs := L.rs.mono ex.z
                  have own3 : ∀ a, Own s3 σ3 a → Own s1 σ a := fun a o => L.ow a (o3 a o)
                  split at es
                  · rename_i et
                    split at es
                    · rename_i v s5 ee
                      cases es
                      refine ht Z2 H2 s3 s4 σ3 b true _ st3 ec et fun Z4 H4 k4 st4 o4 => iteT ⟨Z4, s4, st4, ?_⟩
                      rw [ee]
                      refine fun Z5 H5 k5 st5 o5 u rf => ?_
                      have own5 : ∀ a, Own s5 σ3 a → Own s1 σ a := fun a o => own3 a (o4 a (o5 a o))
                      have nD3 : ¬ Own s3 σ3 D := fun o => noD D (own3 D o) rfl
                      have nD4 : ¬ Own s4 σ3 D := fun o => nD3 (o4 D o)
                      have D4 : H4 D = some (.lst vs) := k4.h D _ D2 nD3
                      have zD4 : Z4 D = none := k4.n D _ D2 nD3 zD2
                      have D5 : H5 D = some (.lst vs) := k5.h D _ D4 nD4
                      have zD5 : Z5 D = none := k5.n D _ D4 nD4 zD4
                      have rs5 : RDs g Z5 acc vs := (rs2.mono k4.z).mono k5.z
                      have kD5 : Keep Z1 H1 (Own s1 σ) Z5 H5 := (kD2.two k4 fun a o => .inr (own3 a o)).two k5 fun a o => .inr (own3 a (o4 a o))
                      -- the element as a datum
                      obtain ⟨Z6, st6, rd6, e6, zD6, k6⟩ : ∃ Z6, Sr g Z6 s5 σ3 H5 ∧ RD g Z6 v.dat u ∧ Same Z5 Z6 ∧ Z6 D = none ∧ Keep Z1 H1 (Own s1 σ) Z6 H5 := by
                        obtain ⟨rv, fr⟩ := rf
                        cases v with
                        | d w => exact ⟨Z5, st5, rv, Same.refl _, zD5, kD5⟩
                        | fz w => exact ⟨Z5, st5, rv, Same.refl _, zD5, kD5⟩
                        | own t xs =>
                          obtain ⟨a, ws, rfl, ha, za, rs⟩ := rv
                          have hn : H4 a = none := fr t xs a rfl rfl
                          have aD : a ≠ D := by rintro rfl; rw [D4] at hn; cases hn
                          have no : ¬ Own s5 σ3 a := fun o => by
                            obtain ⟨zs, hz, _⟩ := Own.some st4 (o5 a o)
                            rw [hn] at hz; cases hz
                          have e2 : Same Z5 (upd Z5 a (.lst ws)) := fun b o q => by rw [upd_ne (ne_of_none q za)]; exact q
                          refine ⟨_, st5.freeze ha za no, .lst (.inl (.inl upd_same)) (rs.mono e2), e2, by rw [upd_ne (Ne.symm aD)]; exact zD5, ⟨kD5.z.trans e2, kD5.h, fun b o q nb zb => ?_, kD5.f⟩⟩
                          have : b ≠ a := by
                            rintro rfl
                            have h4 : H4 b = some o := k4.h b _ (kD2.h b _ q nb) fun z => nb (own3 b z)
                            rw [hn] at h4; cases h4
                          rw [upd_ne this]
                          exact kD5.n b o q nb zb
                      have sz : acc.length + 1 ≤ tot.length := by
                        have := congrArg List.length L.all
                        rw [← ey] at this
                        simp only [joinO, List.length_append, List.length_cons] at this
                        omega
                      refine ⟨vs, D5, by rw [← rs5.length]; omega, Z6, wipeS s5 own, acc ++ [v.dat], vs ++ [u], yr, ?_⟩
                      have rsl : RDs g Z6 (acc ++ [v.dat]) (vs ++ [u]) := (rs5.mono e6).append (.cons rd6 .nil)
                      have eL : Same Z6 (upd H5 D (.lst (vs ++ [u]))) := fun b o q => by
                        rw [upd_ne (ne_of_none q zD6)]
                        exact st6.sub b o q
                      have nD5 : ¬ Own s5 σ3 D := fun o => noD D (own5 D o) rfl
                      -- the list has grown; all else stands
                      have st7 : Sr g Z6 s5 σ3 (upd H5 D (.lst (vs ++ [u]))) := ⟨st6.len, eL, fun j w q => by
                        obtain ⟨y, hy, r⟩ := st6.rel j w q
                        refine ⟨y, hy, ?_⟩
                        cases w with
                        | d z => exact r
                        | fz z => exact r
                        | own t zs =>
                          obtain ⟨b, ws, rfl, hb, zb, rs⟩ := r
                          have : b ≠ D := by rintro rfl; exact nD5 ⟨j, t, zs, q, hy⟩
                          exact ⟨b, ws, rfl, by rw [upd_ne this]; exact hb, zb, rs⟩, st6.inj⟩
                      obtain ⟨st8, o8⟩ := st7.wipe own
                      rw [w3] at st8 o8
                      refine ⟨L.z.trans (ex.z.trans (k4.z.trans (k5.z.trans e6))), er, st8, upd_same, zD6, rsl, ?_, ⟨k6.z, fun b o q nb => ?_, k6.n, fun b q => ?_⟩, fun a o => own5 a (o8 a o)⟩
                      · rw [← L.all, ← ey, List.append_assoc]; rfl
                      · have : b ≠ D := by rintro rfl; rw [hD] at q; cases q
                        rw [upd_ne this]; exact k6.h b o q nb
                      · by_cases hb : b = D
                        · subst hb; exact hD
                        · rw [upd_ne hb] at q; exact k6.f b q
                    · cases es
                  · rename_i et
                    cases es
                    refine ht Z2 H2 s3 s4 σ3 b false _ st3 ec et fun Z4 H4 k4 st4 o4 => iteF ⟨Z4, wipeS s4 own, acc, vs, yr, ?_⟩
                    have nD3 : ¬ Own s3 σ3 D := fun o => noD D (own3 D o) rfl
                    obtain ⟨st8, o8⟩ := st4.wipe own
                    rw [w3] at st8 o8
                    exact ⟨L.z.trans (ex.z.trans k4.z), er, st8, k4.h D _ D2 nD3, k4.n D _ D2 nD3 zD2, rs2.mono k4.z, by rw [← L.all, ← ey]; rfl, kD2.two k4 fun a o => .inr (own3 a o), fun a o => own3 a (o4 a (o8 a o))⟩
                  · cases es
                · cases es
              · cases es
    · exact q.elim

/-- the block's own place in the text -/
theorem ok_blk {scope : Scope} {s : Shared} {H : Hp} {C : Addr} {cl : List (Str × Addr)} {fp : List Addr} (O : OkX g c W Φ kk X) : OkX g { c with sc := relS scope c.sc } W0 Φ kk (X.blk s H scope (compEnvC scope cl C X.env) fp) where
  hK := O.hK
  hN := O.hN
  nd := O.nd
  hs := by
    show relS scope X.env.scope = _
    rw [O.hs]
  cm := O.cm
  hr := O.hr
  gd := O.gd
  tk := fun u s' x => by
    obtain ⟨a, B, sI, pins, σ, H, cls, d, _, _, _, _, _, _, _, _, w⟩ := x
    exact w.elim
  po := PassesOwn.never
  fnm := O.fnm
  glm := O.glm
  blt := O.blt
theorem d_comp {elt tg iter : Expr} {ifs : List Expr} {scope : Scope} {own : List (Str × Nat)} {pos : Pos} {p it tc e : T} {gr : TG} {tt : TT} (O : OkX g c W Φ kk X) (hi : PI X tg iter (rdI g W Φ it)) (ok : blkC c.N c.sc scope own = true)
    (hg : ∀ (s : Shared) (H : Hp) (C : Addr) (cl : List (Str × Addr)) (fp : List Addr), PG (X.blk s H scope (compEnvC scope cl C X.env) fp) tg gr) (hp : PatOk g Φ p gr (own.map (·.2)))
    (ht : ∀ (s : Shared) (H : Hp) (C : Addr) (cl : List (Str × Addr)) (fp : List Addr), PTs (X.blk s H scope (compEnvC scope cl C X.env) fp) ifs tt) (ho : TestOk g Φ tc tt)
    (he : ∀ (s : Shared) (H : Hp) (C : Addr) (cl : List (Str × Addr)) (fp : List Addr), PE (X.blk s H scope (compEnvC scope cl C X.env) fp) elt (rdE g W0 Φ e)) (hs : ∀ x, foldedSetIterable iter X.env x = pure x) :
    PE X (.ListComp elt [⟨tg, iter, ifs, 0⟩] scope pos) (rdE g W Φ (.comp (own.map (·.2)) p it tc e)) :=
  PE.mono (pe_lc O.cm (by rw [O.hN]; exact O.nd) hi (by rw [O.hN, O.hs]; exact blkOk_by ok) hg ht he hs) fun σ H Q ⟨Z, s, st, h⟩ => lc_read O hp ho rfl st h
/-- name = [..] -/
theorem s_asgC {i : Nat} {y : Str} {py : Pos} {elt tg iter : Expr} {ifs : List Expr} {scope : Scope} {own : List (Str × Nat)} {pos spos : Pos} {p it tc e : T} {gr : TG} {tt : TT} (O : OkX g c W Φ kk X) (hy : c.N[i]? = some y) (hl : c.sc.names.lookup y = some .local)
    (hsw : swapsWith (.ListComp elt [⟨tg, iter, ifs, 0⟩] scope pos) (some (.Name y py)) spos.line X.env = pure true) (hi : PI X tg iter (rdI g W Φ it)) (ok : blkC c.N c.sc scope own = true)
    (hg : ∀ (s : Shared) (H : Hp) (C : Addr) (cl : List (Str × Addr)) (fp : List Addr), PG (X.blk s H scope (compEnvC scope cl C X.env) fp) tg gr) (hp : PatOk g Φ p gr (own.map (·.2)))
    (ht : ∀ (s : Shared) (H : Hp) (C : Addr) (cl : List (Str × Addr)) (fp : List Addr), PTs (X.blk s H scope (compEnvC scope cl C X.env) fp) ifs tt) (ho : TestOk g Φ tc tt)
    (he : ∀ (s : Shared) (H : Hp) (C : Addr) (cl : List (Str × Addr)) (fp : List Addr), PE (X.blk s H scope (compEnvC scope cl C X.env) fp) elt (rdE g W0 Φ e)) (hs : ∀ x, foldedSetIterable iter X.env x = pure x) :
    PS X (.Assign [.Name y py] (.ListComp elt [⟨tg, iter, ifs, 0⟩] scope pos) spos) (rdS g W Φ (.asg (.var i) (.comp (own.map (·.2)) p it tc e))) := by
  refine PS.mono (ps_setLc (i := i) O.cm (by rw [O.hN]; exact O.nd) (by rw [O.hN]; exact hy) (by rw [O.hs]; exact hl) hsw hi (by rw [O.hN, O.hs]; exact blkOk_by ok) hg ht he hs) fun D σ H ⟨Z, s, st, h⟩ => ?_
  have key : rdE g W Φ (.comp (own.map (·.2)) p it tc e) σ H fun x H1 => D.nx (σ.set i (some x)) H1 := by
    refine st_E (D := D) (f := fun v s => if i < s.length then .nx (s.set i (some v.fresh)) else .no) st h fun v s1 Z1 H1 x ks o1 rf q => ?_
    split at q
    · obtain ⟨st', o'⟩ := ks.st.set (i := i) rf.fresh.1 fun t ys a e1 e2 o => by
        obtain ⟨ws, hw, _⟩ := Own.some st (o1 a o)
        rw [rf.fresh.2 t ys a e1 e2] at hw
        cases hw
      refine q Z1 H1 _ ⟨ks.k, st', fun a z => ?_, fun j z => ⟨(ks.p j (KS.set1 (σ := σ) (x := none) z (fresh_no v)).1).1, (KS.set1 z (fresh_no v)).2⟩⟩
      rcases o' a z with z | ⟨t, ys, e1, e2⟩
      · exact ks.o a z
      · exact .inr (rf.fresh.2 t ys a e1 e2)
    · exact q.elim
  obtain ⟨Z2, s2, st2, h2⟩ := key
  exact lc_read O hp ho rfl st2 h2
end
end MI

set_option Elab.async false
set_option linter.all false
set_option maxRecDepth 100000
set_option maxHeartbeats 4000000
/-! From the text to the small evaluator's trees. -/
namespace MI
open PySem PySem.Spec PyProof.Rows L2

def visB (sc : Scope) (x : Str) : Bool := (match sc.names.lookup x with | some .local => true | some .cell => true | some .free => true | _ => false) && !(x == ("__debug__" : Str)) && !(x == ("__classdict__" : Str))
def locB (sc : Scope) (x : Str) : Bool := match sc.names.lookup x with | some .local => true | some .cell => true | _ => false
def globB (sc : Scope) (x : Str) : Bool := (match sc.names.lookup x with | some .globalImplicit => true | _ => false) && !(x == ("__debug__" : Str))
def ixOf : List Str → Str → Nat → Option Nat
  | [], _, _ => none
  | y :: r, x, k => if y == x then some k else ixOf r x (k + 1)
def sgIx : List Sg → Str → Nat → Option Nat
  | [], _, _ => none
  | y :: r, x, k => if y.name == x then some k else sgIx r x (k + 1)
/-- the slot of a name that is the def's own -/
def slotOf (c : Cc) (x : Str) : Option Nat := if visB c.sc x then ixOf c.N x 0 else none
def locOf (c : Cc) (x : Str) : Option Nat := if locB c.sc x then ixOf c.N x 0 else none
def tyTab : List (Str × String) := [("int", "int"), ("bool", "bool"), ("tuple", "tuple"), ("list", "list"), ("str", "str"), ("dict", "dict")]
/-- a name that nothing of the module shadows -/
def free? (c : Cc) (x : Str) : Bool := (sgIx c.sg x 0).isNone && (c.gl.lookup x).isNone
def noSet : Expr → Bool
  | .Set _ _ _ => false
  | _ => true
def noComp : Expr → Bool
  | .ListComp _ _ _ _ => false
  | .SetComp _ _ _ _ => false
  | .DictComp _ _ _ _ _ => false
  | _ => true
def isVar : T → Bool
  | .var _ => true
  | _ => false
def isVar1 : T → Bool
  | .cons (.var _) .nil => true
  | _ => false
def namesOf : List Expr → Option (List Str)
  | [] => some []
  | .Name x _ :: r => (namesOf r).map (x :: ·)
  | _ :: _ => none
/-- a comprehension's target: names -/
def tgNames : Expr → Option (List Str)
  | .Name x _ => some [x]
  | .Tuple es _ _ => namesOf es
  | _ => none
def slots (N : List Str) : List Str → Option (List Nat)
  | [] => some []
  | x :: r => match ixOf N x 0, slots N r with
    | some i, some is => some (i :: is)
    | _, _ => none
def tgT : Expr → List Nat → T
  | .Name _ _, [i] => .var i
  | _, is => .tup (varsT is)
mutual
def cE : Nat → Cc → Expr → Option T
  | 0, _, _ => none
  | n + 1, c, .Name x _ => match slotOf c x with
    | some i => some (.var i)
    | none => if globB c.sc x then (match sgIx c.sg x 0 with
      | some k => some (.con (.fn k))
      | none => match c.gl.lookup x with
        | some d => some (.con d)
        | none => (tyTab.lookup x).map fun t => .con (.ty t)) else none
  | n + 1, c, .Constant (.int i) _ _ => some (.con (.int i))
  | n + 1, c, .Constant (.str i) _ _ => some (.con (.str i))
  | n + 1, c, .Constant (.bool i) _ _ => some (.con (.bl i))
  | n + 1, c, .Constant .none _ _ => some (.con .non)
  | n + 1, c, .BinOp a op b _ => match cE n c a, cE n c b with
    | some ta, some tb => some (.bin op ta tb)
    | _, _ => none
  | n + 1, c, .UnaryOp .USub a _ => (cE n c a).map .neg
  | n + 1, c, .UnaryOp .Not a _ => (cE n c a).map .nt
  | n + 1, c, .BoolOp op [a] _ => cE n c a
  | n + 1, c, .BoolOp .And (a :: b :: r) pos => match cE n c a, cE n c (.BoolOp .And (b :: r) pos) with
    | some ta, some tb => some (.and ta tb)
    | _, _ => none
  | n + 1, c, .BoolOp .Or (a :: b :: r) pos => match cE n c a, cE n c (.BoolOp .Or (b :: r) pos) with
    | some ta, some tb => some (.or ta tb)
    | _, _ => none
  | n + 1, c, .IfExp t a b _ => match cT n c t, cE n c a, cE n c b with
    | some tt, some ta, some tb => some (.ite tt ta tb)
    | _, _, _ => none
  | n + 1, c, .Compare a [op] [b] _ => if behindInMarks op b then none else match cE n c a, cE n c b with
    | some ta, some tb => some (.cmp op ta tb)
    | _, _ => none
  | n + 1, c, .Compare a [op, op'] [b, e] _ => if behindInMarks op' e then none else match cE n c a, cE n c b, cE n c e with
    | some ta, some tb, some tc => some (.chain op op' ta tb tc)
    | _, _, _ => none
  | n + 1, c, .Subscript e (.Slice lo hi none _) _ => match cE n c e, cP n c lo, cP n c hi with
    | some te, some tl, some th => some (.slc te tl th)
    | _, _, _ => none
  | n + 1, c, .Subscript (.Name x p) b _ => if noSlice b then (match slotOf c x with
    | some i => (cE n c b).map (.idx (.var i))
    | none => match cE n c (.Name x p), cE n c b with
      | some ta, some tb => if isVar ta then none else some (.idx ta tb)
      | _, _ => none) else none
  | n + 1, c, .Subscript a b _ => if noSlice b then (match cE n c a, cE n c b with
      | some ta, some tb => if isVar ta then none else some (.idx ta tb)
      | _, _ => none) else none
  | n + 1, c, .Tuple es _ _ => (cL n c es).map .tup
  | n + 1, c, .List es _ => (cL n c es).map .lst
  | n + 1, c, .Call (.Name x _) es [] _ => if globB c.sc x && es.all noStar then (match sgIx c.sg x 0 with
    | some k => (cA n c es).map (.call k)
    | none => match c.gl.lookup x with
      | some _ => none
      | none => match bfTab.lookup x, es with
        | some b, .Name y _ :: [] => (match slotOf c y with
          | some i => some (.bf b (.cons (.var i) .nil))
          | none => match cL n c es with
            | some ts => if isVar1 ts then none else some (.bf b ts)
            | none => none)
        | some b, e :: es' => (match cL n c (e :: es') with
          | some ts => if isVar1 ts then none else some (.bf b ts)
          | none => none)
        | _, _ => none) else none
  | n + 1, c, .Call (.Name x _) es kws _ => if globB c.sc x && es.all noStar then (match sgIx c.sg x 0, kwNames kws with
    | some k, some ks => (match c.sg[k]?, cL n c es, cK n c kws with
      | some sg, some ts, some tk => if kwOk sg.ps es.length ks && decide (plainLen ts = some es.length) && decide (plainLen tk = some ks.length) then some (.callk k (permOf sg.ps es.length ks) ts tk) else none
      | _, _, _ => none)
    | _, _ => none) else none
  | n + 1, c, .ListComp elt [⟨tg, iter, ifs, 0⟩] scope _ => cC n c elt tg iter ifs scope
  | _, _, _ => none
termination_by structural n => n
/-- a comprehension -/
def cC : Nat → Cc → Expr → Expr → Expr → List Expr → Scope → Option T
  | 0, _, _, _, _, _, _ => none
  | n + 1, c, elt, tg, iter, ifs, scope => match tgNames tg with
    | none => none
    | some xs => match slots c.N xs with
      | none => none
      | some is => if blkC c.N c.sc scope (xs.zip is) && noSet iter && xs.all (fun x => locB scope x && decide ((relS scope c.sc).names.lookup x = scope.names.lookup x)) then (match cI n c iter, cE n { c with sc := relS scope c.sc } elt, (match ifs with
          | [] => some (.con (.bl true))
          | [e] => cT n { c with sc := relS scope c.sc } e
          | _ => none) with
        | some it, some te, some tc => some (.comp is (tgT tg is) it tc te)
        | _, _, _ => none) else none
termination_by structural n => n
/-- a test -/
def cT : Nat → Cc → Expr → Option T
  | 0, _, _ => none
  | n + 1, c, .UnaryOp .Not a _ => (cT n c a).map .nt
  | n + 1, c, .BoolOp op [a] _ => cT n c a
  | n + 1, c, .BoolOp .And (a :: b :: r) pos => match cT n c a, cT n c (.BoolOp .And (b :: r) pos) with
    | some ta, some tb => some (.and ta tb)
    | _, _ => none
  | n + 1, c, .BoolOp .Or (a :: b :: r) pos => match cT n c a, cT n c (.BoolOp .Or (b :: r) pos) with
    | some ta, some tb => some (.or ta tb)
    | _, _ => none
  | n + 1, c, .Compare a [op] [b] _ => if behindInMarks op b then none else match cE n c a, cE n c b with
    | some ta, some tb => some (.cmp op ta tb)
    | _, _ => none
  | n + 1, c, .Compare a [op, op'] [b, e] _ => if behindInMarks op' e then none else match cE n c a, cE n c b, cE n c e with
    | some ta, some tb, some tc => some (.chain op op' ta tb tc)
    | _, _, _ => none
  | n + 1, c, e => if plainTest e then cE n c e else none
termination_by structural n => n
def cP : Nat → Cc → Option Expr → Option T
  | 0, _, _ => none
  | n + 1, c, none => some .nil
  | n + 1, c, some e => (cE n c e).map .part
termination_by structural n => n
/-- items of a display -/
def cL : Nat → Cc → List Expr → Option T
  | 0, _, _ => none
  | n + 1, c, [] => some .nil
  | n + 1, c, e :: es => if noStar e then (match cE n c e, cL n c es with
    | some t, some ts => some (.cons t ts)
    | _, _ => none) else none
termination_by structural n => n
def cK : Nat → Cc → List Keyword → Option T
  | 0, _, _ => none
  | n + 1, c, [] => some .nil
  | n + 1, c, ⟨_, e, _⟩ :: es => match cE n c e, cK n c es with
    | some t, some ts => some (.cons t ts)
    | _, _ => none
termination_by structural n => n
/-- arguments -/
def cA : Nat → Cc → List Expr → Option T
  | 0, _, _ => none
  | n + 1, c, [] => some .nil
  | n + 1, c, .Name x p :: es => (match slotOf c x with
    | some i => (cA n c es).map (.cons (.var i))
    | none => match cE n c (.Name x p), cA n c es with
      | some t, some ts => if isVar t then none else some (.cons t ts)
      | _, _ => none)
  | n + 1, c, e :: es => if noStar e then (match cE n c e, cA n c es with
    | some t, some ts => if isVar t then none else some (.cons t ts)
    | _, _ => none) else none
termination_by structural n => n
/-- what is walked -/
def cI : Nat → Cc → Expr → Option T
  | 0, _, _ => none
  | n + 1, c, .Call (.Name x p) es [] pos => if globB c.sc x && free? c x && decide (x = ("range" : Str)) then (match es with
      | [a] => if noStar a then (cE n c a).map fun t => .rng (.cons t .nil) else none
      | [a, b] => if noStar a && noStar b then (match cE n c a, cE n c b with
        | some ta, some tb => some (.rng (.cons ta (.cons tb .nil)))
        | _, _ => none) else none
      | _ => none) else (cE n c (.Call (.Name x p) es [] pos)).map .it
  | n + 1, c, e => (cE n c e).map .it
termination_by structural n => n
end
end MI

set_option Elab.async false
set_option linter.all false
set_option maxRecDepth 100000
set_option maxHeartbeats 4000000
/-! The trees are right. -/
namespace MI
open PySem PySem.Spec PyProof.Rows L2
section
variable {g : G} {Φ : Call} {kk : Nat}
theorem ixOf_ok : ∀ {N : List Str} {x : Str} {k i : Nat}, ixOf N x k = some i → ∃ j, i = k + j ∧ N[j]? = some x
  | [], _, _, _, h => by cases h
  | y :: r, x, k, i, h => by
    unfold ixOf at h
    split at h
    · rename_i e
      cases h
      exact ⟨0, rfl, by simpa using e⟩
    · obtain ⟨j, e1, e2⟩ := ixOf_ok h
      exact ⟨j + 1, by omega, by simpa using e2⟩
theorem sgIx_ok : ∀ {N : List Sg} {x : Str} {k i : Nat}, sgIx N x k = some i → ∃ j S, i = k + j ∧ N[j]? = some S ∧ S.name = x
  | [], _, _, _, h => by cases h
  | y :: r, x, k, i, h => by
    unfold sgIx at h
    split at h
    · rename_i e
      cases h
      exact ⟨0, y, rfl, rfl, by simpa using e⟩
    · obtain ⟨j, S, e1, e2, e3⟩ := sgIx_ok h
      exact ⟨j + 1, S, by omega, by simpa using e2, e3⟩
theorem sg_at {c : Cc} {x : Str} {k : Nat} (h : sgIx c.sg x 0 = some k) : ∃ S, c.sg[k]? = some S ∧ S.name = x := by
  obtain ⟨j, S, e1, e2, e3⟩ := sgIx_ok h
  have : k = j := by omega
  subst this
  exact ⟨S, e2, e3⟩
theorem vis_ok {sc : Scope} {x : Str} (h : visB sc x = true) : Vis sc x ∧ (x == ("__debug__" : Str)) = false ∧ (x == ("__classdict__" : Str)) = false := by
  unfold visB at h
  simp only [Bool.and_eq_true, Bool.not_eq_true'] at h
  refine ⟨?_, h.1.2, h.2⟩
  have h1 := h.1.1
  unfold Vis
  split at h1
  · rename_i e; exact .inl e
  · rename_i e; exact .inr (.inl e)
  · rename_i e; exact .inr (.inr e)
  · cases h1
theorem loc_ok {sc : Scope} {x : Str} (h : locB sc x = true) : L2.Loc sc x := by
  unfold locB at h
  unfold L2.Loc
  split at h
  · rename_i e; exact .inl e
  · rename_i e; exact .inr e
  · cases h
theorem glob_ok {sc : Scope} {x : Str} (h : globB sc x = true) : sc.names.lookup x = some .globalImplicit ∧ (x == ("__debug__" : Str)) = false := by
  unfold globB at h
  simp only [Bool.and_eq_true, Bool.not_eq_true'] at h
  refine ⟨?_, h.2⟩
  have h1 := h.1
  split at h1
  · assumption
  · cases h1
theorem slot_ok {c : Cc} {x : Str} {i : Nat} (h : slotOf c x = some i) : c.N[i]? = some x ∧ Vis c.sc x ∧ (x == ("__debug__" : Str)) = false ∧ (x == ("__classdict__" : Str)) = false := by
  unfold slotOf at h
  split at h
  · rename_i v
    obtain ⟨j, e1, e2⟩ := ixOf_ok h
    have : i = j := by omega
    subst this
    exact ⟨e2, vis_ok v⟩
  · cases h
theorem nameV {c : Cc} {W : WXX} {X : Cx} {x : Str} {i : Nat} {p : Pos} (O : OkX g c W Φ kk X) (h : slotOf c x = some i) : PE X (.Name x p) (tVar i) := by
  obtain ⟨h1, h2, h3, h4⟩ := slot_ok h
  exact pe_var (by rw [O.hN]; exact h1) (by rw [O.hs]; exact h2) h3 h4
theorem tyTab_ok : ∀ p ∈ tyTab, bootBuiltins p.1 = some (.type p.2) ∧ p.1 ∈ bns ∧ p.1 ≠ ("__name__" : Str) ∧ (p.1 == ("__debug__" : Str)) = false := by decide +kernel
theorem lookup_mem {β : Type} {l : List (Str × β)} {x : Str} {b : β} (h : l.lookup x = some b) : (x, b) ∈ l := PySem.mem_of_lookup h
theorem fsi {e : Expr} (h : noSet e = true) (env : Env) : ∀ x, foldedSetIterable e env x = pure x := by
  cases e <;> first | (intro x; rfl) | cases h
theorem isVar_no {t : T} (h : ¬ isVar t = true) : ∀ i, t ≠ .var i := by
  rintro i rfl
  exact h rfl
theorem isVar1_no {t : T} (h : ¬ isVar1 t = true) : ∀ i, t ≠ .cons (.var i) .nil := by
  rintro i rfl
  exact h rfl
theorem cL_nil : ∀ {n : Nat} {c : Cc} {ts : T}, cL n c [] = some ts → ts = .nil
  | 0, _, _, h => by cases h
  | n + 1, _, _, h => by cases h; rfl
theorem cA_nil : ∀ {n : Nat} {c : Cc} {ts : T}, cA n c [] = some ts → ts = .nil
  | 0, _, _, h => by cases h
  | n + 1, _, _, h => by cases h; rfl
/-- all that a comprehension wants -/
structure CompOk (g : G) (Φ : Call) (c : Cc) (W : WXX) (X : Cx) (elt tg iter : Expr) (ifs : List Expr) (scope : Scope) (t : T) : Prop where
  ex : ∃ (own : List (Str × Nat)) (p it tc e : T) (gr : TG) (tt : TT), t = .comp (own.map (·.2)) p it tc e ∧ PI X tg iter (rdI g W Φ it) ∧ blkC c.N c.sc scope own = true ∧
    (∀ (s : Shared) (H : Hp) (C : Addr) (cl : List (Str × Addr)) (fp : List Addr), PG (X.blk s H scope (compEnvC scope cl C X.env) fp) tg gr) ∧ PatOk g Φ p gr (own.map (·.2)) ∧
    (∀ (s : Shared) (H : Hp) (C : Addr) (cl : List (Str × Addr)) (fp : List Addr), PTs (X.blk s H scope (compEnvC scope cl C X.env) fp) ifs tt) ∧ TestOk g Φ tc tt ∧
    (∀ (s : Shared) (H : Hp) (C : Addr) (cl : List (Str × Addr)) (fp : List Addr), PE (X.blk s H scope (compEnvC scope cl C X.env) fp) elt (rdE g W0 Φ e)) ∧ ∀ x, foldedSetIterable iter X.env x = pure x
structure AllOk (g : G) (Φ : Call) (kk n : Nat) : Prop where
  E : ∀ {c e t}, cE n c e = some t → ∀ {W X}, OkX g c W Φ kk X → PE X e (rdE g W Φ t)
  C : ∀ {c elt tg iter ifs scope t}, cC n c elt tg iter ifs scope = some t → ∀ {W X}, OkX g c W Φ kk X → CompOk g Φ c W X elt tg iter ifs scope t
  T : ∀ {c e t}, cT n c e = some t → ∀ {W X}, OkX g c W Φ kk X → PT X e (rdT g W Φ t)
  B : ∀ {c op vs pos t}, cT n c (.BoolOp op vs pos) = some t → ∀ {W X}, OkX g c W Φ kk X → PW X (.BoolOp op vs pos) (rdT g W Φ t)
  P : ∀ {c e t}, cP n c e = some t → ∀ {W X}, OkX g c W Φ kk X → PO X e (rdP g W Φ t)
  L : ∀ {c e t}, cL n c e = some t → ∀ {W X}, OkX g c W Φ kk X → PA X e (rdIt g W Φ t)
  K : ∀ {c e t}, cK n c e = some t → ∀ {W X}, OkX g c W Φ kk X → PK X e (rdIt g W Φ t)
  A : ∀ {c e t}, cA n c e = some t → ∀ {W X}, OkX g c W Φ kk X → PA X e (rdA g W Φ t)
  I : ∀ {c e t}, cI n c e = some t → ∀ {W X tg}, OkX g c W Φ kk X → PI X tg e (rdI g W Φ t)
variable {n : Nat}
theorem stepP (A : AllOk g Φ kk n) {c e t} (h : cP (n + 1) c e = some t) {W X} (O : OkX g c W Φ kk X) : PO X e (rdP g W Φ t) := by
  cases e with
  | none => cases h; exact p_none
  | some e =>
    obtain ⟨t', h1, rfl⟩ := Option.map_eq_some_iff.mp h
    exact p_some (A.E h1 O)
theorem stepL (A : AllOk g Φ kk n) {c e t} (h : cL (n + 1) c e = some t) {W X} (O : OkX g c W Φ kk X) : PA X e (rdIt g W Φ t) := by
  cases e with
  | nil => cases h; exact l_nil
  | cons e es =>
    unfold cL at h
    split at h
    · rename_i ns
      split at h
      · rename_i t1 t2 h1 h2
        cases h
        exact l_cons (A.E h1 O) (A.L h2 O) ns
      · cases h
    · cases h
theorem stepK (A : AllOk g Φ kk n) {c e t} (h : cK (n + 1) c e = some t) {W X} (O : OkX g c W Φ kk X) : PK X e (rdIt g W Φ t) := by
  cases e with
  | nil => cases h; exact k_nil
  | cons e es =>
    obtain ⟨nm, e, kp⟩ := e
    unfold cK at h
    split at h
    · rename_i t1 t2 h1 h2
      cases h
      exact k_cons (A.E h1 O) (A.K h2 O)
    · cases h
theorem cA_other {c : Cc} {e : Expr} {es : List Expr} (h : ∀ x p, e ≠ .Name x p) : cA (n + 1) c (e :: es) = if noStar e then (match cE n c e, cA n c es with
    | some t, some ts => if isVar t then none else some (.cons t ts)
    | _, _ => none) else none := by
  cases e <;> first | rfl | exact absurd rfl (h _ _)
theorem stepA (A : AllOk g Φ kk n) {c e t} (h : cA (n + 1) c e = some t) {W X} (O : OkX g c W Φ kk X) : PA X e (rdA g W Φ t) := by
  cases e with
  | nil => cases h; exact a_nil
  | cons e es =>
    have fin : ∀ {t : T}, noStar e = true → (match cE n c e, cA n c es with
      | some t, some ts => if isVar t then none else some (.cons t ts)
      | _, _ => none) = some t → PA X (e :: es) (rdA g W Φ t) := fun {t} ns h => by
      split at h
      · rename_i t1 t2 h1 h2
        split at h
        · cases h
        · rename_i nv
          cases h
          exact a_cons (A.E h1 O) (A.A h2 O) ns (isVar_no nv)
      · cases h
    by_cases hn : ∃ x p, e = .Name x p
    · obtain ⟨x, p, rfl⟩ := hn
      replace h : (match slotOf c x with
        | some i => (cA n c es).map (.cons (.var i))
        | none => match cE n c (.Name x p), cA n c es with
          | some t, some ts => if isVar t then none else some (.cons t ts)
          | _, _ => none) = some t := h
      split at h
      · rename_i i hi
        obtain ⟨ts, h1, rfl⟩ := Option.map_eq_some_iff.mp h
        exact a_var (nameV O hi) (A.A h1 O)
      · exact fin rfl h
    · rw [cA_other fun x p e => hn ⟨x, p, e⟩] at h
      split at h
      · rename_i ns
        exact fin ns h
      · cases h
theorem cI_other {c : Cc} {e : Expr} (h : ∀ x p es pos, e ≠ .Call (.Name x p) es [] pos) : cI (n + 1) c e = (cE n c e).map .it := by
  cases e with
  | Call f es kws pos =>
    cases f with
    | Name x p =>
      cases kws with
      | nil => exact absurd rfl (h _ _ _ _)
      | cons k ks => rfl
    | _ => rfl
  | _ => rfl
theorem stepI (A : AllOk g Φ kk n) {c e t} (h : cI (n + 1) c e = some t) {W X tg} (O : OkX g c W Φ kk X) : PI X tg e (rdI g W Φ t) := by
  by_cases hn : ∃ x p es pos, e = .Call (.Name x p) es [] pos
  · obtain ⟨x, p, es, pos, rfl⟩ := hn
    replace h : (if globB c.sc x && free? c x && decide (x = ("range" : Str)) then (match es with
      | [a] => if noStar a then (cE n c a).map fun t => .rng (.cons t .nil) else none
      | [a, b] => if noStar a && noStar b then (match cE n c a, cE n c b with
        | some ta, some tb => some (.rng (.cons ta (.cons tb .nil)))
        | _, _ => none) else none
      | _ => none) else (cE n c (.Call (.Name x p) es [] pos)).map .it) = some t := h
    split at h
    · rename_i hc
      simp only [Bool.and_eq_true, decide_eq_true_eq] at hc
      obtain ⟨⟨h1, h2⟩, rfl⟩ := hc
      split at h
      · rename_i a
        split at h
        · rename_i ns
          obtain ⟨ta, e1, rfl⟩ := Option.map_eq_some_iff.mp h
          exact i_rng1 O (glob_ok h1).1 (A.E e1 O) ns
        · cases h
      · rename_i a b
        split at h
        · rename_i ns
          rw [Bool.and_eq_true] at ns
          split at h
          · rename_i ta tb e1 e2
            cases h
            exact i_rng2 O (glob_ok h1).1 (A.E e1 O) (A.E e2 O) ns.1 ns.2
          · cases h
        · cases h
      · cases h
    · obtain ⟨t1, e1, rfl⟩ := Option.map_eq_some_iff.mp h
      exact i_it O (A.E e1 O)
  · rw [cI_other fun x p es pos e => hn ⟨x, p, es, pos, e⟩] at h
    obtain ⟨t1, e1, rfl⟩ := Option.map_eq_some_iff.mp h
    exact i_it O (A.E e1 O)
theorem slots_ok {N : List Str} : ∀ {xs : List Str} {is : List Nat}, slots N xs = some is → xs.length = is.length ∧ (xs.zip is).map (·.2) = is ∧ ∀ (j : Nat) x, xs[j]? = some x → ∃ i, is[j]? = some i ∧ N[i]? = some x
  | [], is, h => by cases h; exact ⟨rfl, rfl, fun j x e => by simp at e⟩
  | x :: r, is, h => by
    unfold slots at h
    split at h
    · rename_i i is' h1 h2
      cases h
      obtain ⟨a, b, d⟩ := slots_ok h2
      obtain ⟨j, e1, e2⟩ := ixOf_ok h1
      have : i = j := by omega
      subst this
      refine ⟨by simp [a], by simp [b], fun k y e => ?_⟩
      rcases get_cons e with ⟨rfl, rfl⟩ | ⟨m, rfl, e⟩
      · exact ⟨i, rfl, e2⟩
      · obtain ⟨i2, q1, q2⟩ := d m y e
        exact ⟨i2, by simpa using q1, q2⟩
    · cases h
/-- names as a comprehension's targets -/
theorem blk_names {c : Cc} {W : WXX} {X : Cx} {scope : Scope} (O : OkX g c W Φ kk X) (s : Shared) (H : Hp) (C : Addr) (cl : List (Str × Addr)) (fp : List Addr) : ∀ {es : List Expr} {xs : List Str} {is : List Nat}, namesOf es = some xs → slots c.N xs = some is →
    (∀ x ∈ xs, locB scope x = true ∧ (relS scope c.sc).names.lookup x = scope.names.lookup x) → PGs (X.blk s H scope (compEnvC scope cl C X.env) fp) es (gNames is) ∧ ∀ env, (assignEach es env).findIdx? (·.1) = none ∧ (assignEach es env).length = is.length
  | [], xs, is, h1, h2, h3 => by
    cases h1
    cases h2
    refine ⟨PGs.mono pgs_nil fun vs σ H Q ⟨a, b⟩ => ?_, fun env => ⟨rfl, rfl⟩⟩
    cases vs with
    | nil => exact ⟨rfl, by simpa [setAllV] using b⟩
    | cons v vs => simp at a
  | e :: es, xs, is, h1, h2, h3 => by
    cases e with
    | Name x p =>
      obtain ⟨xs', n1, rfl⟩ := Option.map_eq_some_iff.mp (show (namesOf es).map (x :: ·) = some xs from h1)
      have h2' := h2
      unfold slots at h2'
      split at h2'
      · rename_i i is' q1 q2
        cases h2'
        obtain ⟨g1, g2⟩ := blk_names O s H C cl fp n1 q2 fun y hy => h3 y (List.mem_cons_of_mem _ hy)
        obtain ⟨j, e1, e2⟩ := ixOf_ok q1
        have : i = j := by omega
        subst this
        obtain ⟨l1, l2⟩ := h3 x List.mem_cons_self
        have lk : (relS scope X.env.scope).names.lookup x = scope.names.lookup x := by rw [O.hs]; exact l2
        have lc := loc_ok l1
        have pgn : PG (X.blk s H scope (compEnvC scope cl C X.env) fp) (.Name x p) (gName i) := pg_name (i := i) (by show X.N.Nodup; rw [O.hN]; exact O.nd) (by show X.N[i]? = _; rw [O.hN]; exact e2)
          (by show L2.Loc (relS scope X.env.scope) x; unfold L2.Loc; rw [lk]; exact lc)
          (by
            rcases lc with q | q
            · exact .inr (by show (relS scope X.env.scope).names.lookup x = _; rw [lk]; exact q)
            · exact .inl (by show (scope.names.lookup x == some NameKind.cell) = true; rw [q]; rfl))
        refine ⟨PGs.mono (pgs_cons pgn g1 rfl) fun vs σ H Q ⟨a, b⟩ => ?_, fun env => ?_⟩
        · cases vs with
          | nil => simp at a
          | cons v vs => exact ⟨v, vs, rfl, by simpa using a, b⟩
        · obtain ⟨g3, g4⟩ := g2 env
          constructor
          · show (((false, assign (.Name x p) env) :: assignEach es env).findIdx? (·.1)) = none
            rw [List.findIdx?_cons]
            simp [g3]
          · show ((false, assign (.Name x p) env) :: assignEach es env).length = _
            rw [List.length_cons, g4, List.length_cons]
      · cases h2'
    | _ => cases h1
theorem stepC' (A : AllOk g Φ kk n) {c elt tg iter ifs scope t} (h : cC (n + 1) c elt tg iter ifs scope = some t) {W X} (O : OkX g c W Φ kk X) : CompOk g Φ c W X elt tg iter ifs scope t := by
  unfold cC at h
  split at h
  · cases h
  · rename_i xs hx
    split at h
    · cases h
    · rename_i is hi
      split at h
      · rename_i hc
        simp only [Bool.and_eq_true, List.all_eq_true, decide_eq_true_eq] at hc
        obtain ⟨⟨c1, c2⟩, c3⟩ := hc
        split at h
        · rename_i it te tc q1 q2 q3
          cases h
          obtain ⟨s1, s2, s3⟩ := slots_ok hi
          have tests : ∃ tt, (∀ (s : Shared) (H : Hp) (C : Addr) (cl : List (Str × Addr)) (fp : List Addr), PTs (X.blk s H scope (compEnvC scope cl C X.env) fp) ifs tt) ∧ TestOk g Φ tc tt := by
            split at q3
            · cases q3
              exact ⟨tYes, fun _ _ _ _ _ => pts_nil, test_yes⟩
            · exact ⟨_, fun s H C cl fp => pts_one (A.T q3 (ok_blk O)), test_rd⟩
            · cases q3
          obtain ⟨tt, ht, ho⟩ := tests
          have pats : ∃ gr, (∀ (s : Shared) (H : Hp) (C : Addr) (cl : List (Str × Addr)) (fp : List Addr), PG (X.blk s H scope (compEnvC scope cl C X.env) fp) tg gr) ∧ PatOk g Φ (tgT tg is) gr is := by
            cases tg with
            | Name x p =>
              cases hx
              obtain ⟨i, rfl⟩ : ∃ i, is = [i] := by
                match is, s1 with
                | [i], _ => exact ⟨i, rfl⟩
              refine ⟨gName i, fun s H C cl fp => ?_, pat_var List.mem_cons_self⟩
              obtain ⟨i', e1, e2⟩ := s3 0 x rfl
              simp at e1
              subst e1
              obtain ⟨l1, l2⟩ := c3 x List.mem_cons_self
              have lk : (relS scope X.env.scope).names.lookup x = scope.names.lookup x := by rw [O.hs]; exact l2
              have lc := loc_ok l1
              exact pg_name (i := i) (by show X.N.Nodup; rw [O.hN]; exact O.nd) (by show X.N[i]? = _; rw [O.hN]; exact e2)
                (by show L2.Loc (relS scope X.env.scope) x; unfold L2.Loc; rw [lk]; exact lc)
                (by
                  rcases lc with q | q
                  · exact .inr (by show (relS scope X.env.scope).names.lookup x = _; rw [lk]; exact q)
                  · exact .inl (by show (scope.names.lookup x == some NameKind.cell) = true; rw [q]; rfl))
            | Tuple es k p =>
              refine ⟨_, fun s H C cl fp => ?_, pat_vars O.hK fun i hi => hi⟩
              obtain ⟨g1, g2⟩ := blk_names O s H C cl fp hx hi c3
              exact pg_tup (n := is.length) O.cm g1 (g2 _).2 (g2 _).1
            | _ => cases hx
          obtain ⟨gr, hg, hp⟩ := pats
          refine ⟨⟨xs.zip is, tgT tg is, it, tc, te, gr, tt, by rw [s2], A.I q1 O, c1, hg, by rw [s2]; exact hp, ht, ho, fun s H C cl fp => A.E q2 (ok_blk O), fsi c2 _⟩⟩
        · cases h
      · cases h

theorem cT_plain {c : Cc} {e : Expr} (h : plainTest e = true) : cT (n + 1) c e = cE n c e := by
  cases e <;> first
    | rfl
    | cases h
    | (rename_i op _ _
       cases op <;> first | rfl | cases h)
theorem stepB (A : AllOk g Φ kk n) {c op vs pos t} (h : cT (n + 1) c (.BoolOp op vs pos) = some t) {W X} (O : OkX g c W Φ kk X) : PW X (.BoolOp op vs pos) (rdT g W Φ t) := by
  match vs, h with
  | [], h => cases op <;> cases h
  | [a], h =>
    have h : cT n c a = some t := by cases op <;> exact h
    cases op with
    | And => exact pw_and1 (A.T h O)
    | Or => exact pw_or1 (A.T h O)
  | a :: b :: r, h =>
    cases op with
    | And =>
      replace h : (match cT n c a, cT n c (.BoolOp .And (b :: r) pos) with
        | some ta, some tb => some (.and ta tb)
        | _, _ => none) = some t := h
      split at h
      · rename_i ta tb h1 h2
        cases h
        exact t_and (A.T h1 O) (A.B h2 O)
      · cases h
    | Or =>
      replace h : (match cT n c a, cT n c (.BoolOp .Or (b :: r) pos) with
        | some ta, some tb => some (.or ta tb)
        | _, _ => none) = some t := h
      split at h
      · rename_i ta tb h1 h2
        cases h
        exact t_or (A.T h1 O) (A.B h2 O)
      · cases h
theorem stepT (A : AllOk g Φ kk n) {c e t} (h : cT (n + 1) c e = some t) {W X} (O : OkX g c W Φ kk X) : PT X e (rdT g W Φ t) := by
  by_cases hp : plainTest e = true
  · rw [cT_plain hp] at h
    exact t_plain O (A.E h O) hp
  · cases e with
    | UnaryOp op a pos =>
      cases op with
      | Not =>
        obtain ⟨ta, h1, rfl⟩ := Option.map_eq_some_iff.mp (show (cT n c a).map .nt = some t from h)
        exact t_not (A.T h1 O)
      | _ => exact absurd rfl hp
    | BoolOp op vs pos => exact (stepB A h O).pt
    | IfExp a b d pos => cases h
    | Compare a ops cs pos =>
      match ops, cs, h with
      | [op], [b], h =>
        replace h : (if behindInMarks op b then none else match cE n c a, cE n c b with
          | some ta, some tb => some (.cmp op ta tb)
          | _, _ => none) = some t := h
        split at h
        · cases h
        · rename_i hm
          split at h
          · rename_i ta tb h1 h2
            cases h
            exact t_cmp O (A.E h1 O) (A.E h2 O) (by simpa using hm)
          · cases h
      | [op, op'], [b, e], h =>
        replace h : (if behindInMarks op' e then none else match cE n c a, cE n c b, cE n c e with
          | some ta, some tb, some tc => some (.chain op op' ta tb tc)
          | _, _, _ => none) = some t := h
        split at h
        · cases h
        · rename_i hm
          split at h
          · rename_i ta tb tc h1 h2 h3
            cases h
            exact t_chain O (A.E h1 O) (A.E h2 O) (A.E h3 O) (by simpa using hm)
          · cases h
      | [], _, h => cases h
      | [_], [], h => cases h
      | [_], _ :: _ :: _, h => cases h
      | [_, _], [], h => cases h
      | [_, _], [_], h => cases h
      | [_, _], _ :: _ :: _ :: _, h => cases h
      | _ :: _ :: _ :: _, _, h => cases h
    | _ => exact absurd rfl hp
theorem d_ite {c : Cc} {W : WXX} {X : Cx} {e a b : Expr} {tc ta tb : T} {pos : Pos} (hc : PT X e (rdT g W Φ tc)) (ha : PE X a (rdE g W Φ ta)) (hb : PE X b (rdE g W Φ tb)) : PE X (.IfExp e a b pos) (rdE g W Φ (.ite tc ta tb)) := by
  refine PE.mono (pe_ifExp hc ha hb) fun σ H Q ⟨Z, s, st, h⟩ => ⟨Z, s, st, ?_⟩
  let nx : Vl → S → MI.R Vl := fun x s => match tru x.dat with
    | some true => evE Φ ta s
    | some false => evE Φ tb s
    | none => .no
  have h : Res g W σ Z H s ((evE Φ tc s).bind nx) fun v _ Z' H' => ∀ x, RF g H Z' H' v x → Q x H' := h
  cases e1 : evE Φ tc s with
  | no => rw [e1] at h; exact h.elim
  | ex cc fs s' => rw [e1] at h; exact h
  | ok v s1 =>
    rw [e1] at h
    show Res g W σ Z H s (R.ofO (tru v.dat) s1) _
    have h : Res g W σ Z H s (nx v s1) fun v _ Z' H' => ∀ x, RF g H Z' H' v x → Q x H' := h
    cases e2 : tru v.dat with
    | none => simp only [nx, e2] at h; exact h.elim
    | some k =>
      simp only [nx, e2] at h
      intro Z1 H1 k1 st1 o1
      cases k with
      | true => exact iteT ⟨Z1, s1, st1, (Res.rebase h k1 o1).mono fun u s2 Z2 H2 k2 st2 o2 q y rf => q y (rf.back k1)⟩
      | false => exact iteF ⟨Z1, s1, st1, (Res.rebase h k1 o1).mono fun u s2 Z2 H2 k2 st2 o2 q y rf => q y (rf.back k1)⟩
theorem call_name {c : Cc} {W : WXX} {X : Cx} (A : AllOk g Φ kk n) {x : Str} {p pos : Pos} {es : List Expr} {t : T} (h : cE (n + 1) c (.Call (.Name x p) es [] pos) = some t) (O : OkX g c W Φ kk X) : PE X (.Call (.Name x p) es [] pos) (rdE g W Φ t) := by
  replace h : (if globB c.sc x && es.all noStar then (match sgIx c.sg x 0 with
    | some k => (cA n c es).map (.call k)
    | none => match c.gl.lookup x with
      | some _ => none
      | none => match bfTab.lookup x, es with
        | some b, .Name y _ :: [] => (match slotOf c y with
          | some i => some (.bf b (.cons (.var i) .nil))
          | none => match cL n c es with
            | some ts => if isVar1 ts then none else some (.bf b ts)
            | none => none)
        | some b, e :: es' => (match cL n c (e :: es') with
          | some ts => if isVar1 ts then none else some (.bf b ts)
          | none => none)
        | _, _ => none) else none) = some t := h
  split at h
  · rename_i hc
    rw [Bool.and_eq_true] at hc
    obtain ⟨g1, g2⟩ := glob_ok hc.1
    have ns := hc.2
    split at h
    · rename_i k hk
      obtain ⟨ts, h1, rfl⟩ := Option.map_eq_some_iff.mp h
      obtain ⟨S, e1, rfl⟩ := sg_at hk
      exact d_call O e1 g1 g2 (A.A h1 O) ns fun e => by
        subst e
        exact cA_nil h1
    · split at h
      · cases h
      · have gen : ∀ {b : Bf} {e : Expr} {es' : List Expr} {t : T}, bfTab.lookup x = some b → es = e :: es' → (match cL n c (e :: es') with
            | some ts => if isVar1 ts then none else some (.bf b ts)
            | none => none) = some t → PE X (.Call (.Name x p) es [] pos) (rdE g W Φ t) := fun {b e es' t} hb he hq => by
          clear h
          subst he
          split at hq
          · rename_i ts h1
            split at hq
            · cases hq
            · rename_i nv
              cases hq
              exact d_bf O (lookup_mem hb) g1 (A.L h1 O) ns (isVar1_no nv)
          · cases hq
        split at h
        · rename_i b y py hb
          split at h
          · rename_i i hi
            cases h
            exact d_bfV O (lookup_mem hb) g1 (nameV O hi)
          · exact gen hb rfl h
        · rename_i b e es' _ hb
          exact gen hb rfl h
        · cases h
  · cases h
theorem call_kw {c : Cc} {W : WXX} {X : Cx} (A : AllOk g Φ kk n) {x : Str} {p pos : Pos} {es : List Expr} {kw : Keyword} {kws : List Keyword} {t : T} (h : cE (n + 1) c (.Call (.Name x p) es (kw :: kws) pos) = some t) (O : OkX g c W Φ kk X) : PE X (.Call (.Name x p) es (kw :: kws) pos) (rdE g W Φ t) := by
  replace h : (if globB c.sc x && es.all noStar then (match sgIx c.sg x 0, kwNames (kw :: kws) with
    | some k, some ks => (match c.sg[k]?, cL n c es, cK n c (kw :: kws) with
      | some sg, some ts, some tk => if kwOk sg.ps es.length ks && decide (plainLen ts = some es.length) && decide (plainLen tk = some ks.length) then some (.callk k (permOf sg.ps es.length ks) ts tk) else none
      | _, _, _ => none)
    | _, _ => none) else none) = some t := h
  split at h
  · rename_i hc
    rw [Bool.and_eq_true] at hc
    obtain ⟨g1, g2⟩ := glob_ok hc.1
    split at h
    · rename_i k ks hk hks
      split at h
      · rename_i sg ts tk h1 h2 h3
        split at h
        · rename_i ok
          cases h
          simp only [Bool.and_eq_true, decide_eq_true_eq] at ok
          obtain ⟨S, e1, e2⟩ := sg_at hk
          rw [h1] at e1
          cases e1
          subst e2
          have hn : es = [] → ts = .nil := fun e => by
            subst e
            exact cL_nil h2
          exact d_callk (n := 0) O h1 g1 g2 (A.L h2 O) (A.K h3 O) hc.2 hn hks ok.1.1 ok.1.2 ok.2
        · cases h
      · cases h
    · cases h
  · cases h
theorem stepE (A : AllOk g Φ kk n) {c e t} (h : cE (n + 1) c e = some t) {W X} (O : OkX g c W Φ kk X) : PE X e (rdE g W Φ t) := by
  cases e with
  | Name x p =>
    replace h : (match slotOf c x with
      | some i => some (.var i)
      | none => if globB c.sc x then (match sgIx c.sg x 0 with
        | some k => some (.con (.fn k))
        | none => match c.gl.lookup x with
          | some d => some (.con d)
          | none => (tyTab.lookup x).map fun t => .con (.ty t)) else none) = some t := h
    split at h
    · rename_i i hi
      cases h
      obtain ⟨h1, h2, h3, h4⟩ := slot_ok hi
      exact d_var O h1 h2 h3 h4
    · split at h
      · rename_i hg
        obtain ⟨g1, g2⟩ := glob_ok hg
        have gl : Gl X x := by show X.env.scope.names.lookup x = _; rw [O.hs]; exact g1
        split at h
        · rename_i k hk
          cases h
          obtain ⟨S, e1, rfl⟩ := sg_at hk
          obtain ⟨fd, as, hm, _⟩ := O.fnm k S e1
          exact d_con (pe_glob gl hm (show RelV (.ref (g.fa k)) _ from rfl) g2) (.fn k)
        · split at h
          · rename_i d hd
            cases h
            obtain ⟨u, v, hm, r, rd⟩ := O.glm x d (lookup_mem hd)
            exact d_con (pe_glob gl hm r g2) rd
          · obtain ⟨ty, h1, rfl⟩ := Option.map_eq_some_iff.mp h
            obtain ⟨q1, q2, q3, q4⟩ := tyTab_ok _ (lookup_mem h1)
            exact d_con (pe_bltn gl (O.blt x q2) q1 (show RelV (.ty ty) _ from rfl) q3 q4) (.ty ty)
      · cases h
  | Constant v j pos =>
    cases v with
    | int i => cases h; exact d_con pe_int (.int i)
    | str i => cases h; exact d_con pe_str (.str i)
    | bool i => cases h; exact d_con pe_bl (.bl i)
    | none => cases h; exact d_con pe_non .non
    | _ => cases h
  | BinOp a op b pos =>
    replace h : (match cE n c a, cE n c b with
      | some ta, some tb => some (.bin op ta tb)
      | _, _ => none) = some t := h
    split at h
    · rename_i ta tb h1 h2
      cases h
      exact d_bin O (A.E h1 O) (A.E h2 O)
    · cases h
  | UnaryOp op a pos =>
    cases op with
    | USub =>
      obtain ⟨ta, h1, rfl⟩ := Option.map_eq_some_iff.mp (show (cE n c a).map .neg = some t from h)
      exact d_neg (A.E h1 O)
    | Not =>
      obtain ⟨ta, h1, rfl⟩ := Option.map_eq_some_iff.mp (show (cE n c a).map .nt = some t from h)
      exact d_nt O (A.E h1 O)
    | _ => cases h
  | BoolOp op vs pos =>
    match vs, h with
    | [], h => cases op <;> cases h
    | [a], h =>
      have h : cE n c a = some t := by cases op <;> exact h
      exact pe_one (A.E h O)
    | a :: b :: r, h =>
      cases op with
      | And =>
        replace h : (match cE n c a, cE n c (.BoolOp .And (b :: r) pos) with
          | some ta, some tb => some (.and ta tb)
          | _, _ => none) = some t := h
        split at h
        · rename_i ta tb h1 h2
          cases h
          exact d_and O (A.E h1 O) (A.E h2 O)
        · cases h
      | Or =>
        replace h : (match cE n c a, cE n c (.BoolOp .Or (b :: r) pos) with
          | some ta, some tb => some (.or ta tb)
          | _, _ => none) = some t := h
        split at h
        · rename_i ta tb h1 h2
          cases h
          exact d_or O (A.E h1 O) (A.E h2 O)
        · cases h
  | IfExp e a b pos =>
    replace h : (match cT n c e, cE n c a, cE n c b with
      | some tt, some ta, some tb => some (.ite tt ta tb)
      | _, _, _ => none) = some t := h
    split at h
    · rename_i tt ta tb h1 h2 h3
      cases h
      exact d_ite (c := c) (A.T h1 O) (A.E h2 O) (A.E h3 O)
    · cases h
  | Compare a ops cs pos =>
    match ops, cs, h with
    | [op], [b], h =>
      replace h : (if behindInMarks op b then none else match cE n c a, cE n c b with
        | some ta, some tb => some (.cmp op ta tb)
        | _, _ => none) = some t := h
      split at h
      · cases h
      · rename_i hm
        split at h
        · rename_i ta tb h1 h2
          cases h
          exact d_cmp O (A.E h1 O) (A.E h2 O) (by simpa using hm)
        · cases h
    | [op, op'], [b, e], h =>
      replace h : (if behindInMarks op' e then none else match cE n c a, cE n c b, cE n c e with
        | some ta, some tb, some tc => some (.chain op op' ta tb tc)
        | _, _, _ => none) = some t := h
      split at h
      · cases h
      · rename_i hm
        split at h
        · rename_i ta tb tc h1 h2 h3
          cases h
          exact d_chain O (A.E h1 O) (A.E h2 O) (A.E h3 O) (by simpa using hm)
        · cases h
    | [], _, h => cases h
    | [_], [], h => cases h
    | [_], _ :: _ :: _, h => cases h
    | [_, _], [], h => cases h
    | [_, _], [_], h => cases h
    | [_, _], _ :: _ :: _ :: _, h => cases h
    | _ :: _ :: _ :: _, _, h => cases h
  | Subscript a b pos =>
    have gen : ∀ {t : T}, noSlice b = true → (match cE n c a, cE n c b with
        | some ta, some tb => if isVar ta then none else some (.idx ta tb)
        | _, _ => none) = some t → PE X (.Subscript a b pos) (rdE g W Φ t) := fun {t} nb h => by
      split at h
      · rename_i ta tb h1 h2
        split at h
        · cases h
        · rename_i nv
          cases h
          exact d_idx O (A.E h1 O) (A.E h2 O) (sub_plain nb) (isVar_no nv)
      · cases h
    by_cases nb : noSlice b = true
    · by_cases ha : ∃ x p, a = .Name x p
      · obtain ⟨x, p, rfl⟩ := ha
        replace h : (match slotOf c x with
          | some i => (cE n c b).map (.idx (.var i))
          | none => match cE n c (.Name x p), cE n c b with
            | some ta, some tb => if isVar ta then none else some (.idx ta tb)
            | _, _ => none) = some t := by
          cases b <;> first
            | (cases nb; done)
            | exact h
        split at h
        · rename_i i hi
          obtain ⟨tb, h1, rfl⟩ := Option.map_eq_some_iff.mp h
          exact d_idxV O (nameV O hi) (A.E h1 O) (sub_plain nb)
        · exact gen nb h
      · refine gen nb ?_
        cases b <;> first
          | (cases nb; done)
          | (cases a <;> first
              | exact absurd ⟨_, _, rfl⟩ ha
              | exact h)
    · cases b with
      | Slice lo hi st p2 =>
        cases st with
        | none =>
          replace h : (match cE n c a, cP n c lo, cP n c hi with
            | some te, some tl, some th => some (.slc te tl th)
            | _, _, _ => none) = some t := by cases a <;> exact h
          split at h
          · rename_i te tl th h1 h2 h3
            cases h
            exact d_slc O (A.E h1 O) (A.P h2 O) (A.P h3 O)
          · cases h
        | some st => cases a <;> cases h
      | _ => exact absurd rfl nb
  | Tuple es k pos =>
    obtain ⟨ts, h1, rfl⟩ := Option.map_eq_some_iff.mp (show (cL n c es).map .tup = some t from h)
    exact d_tup (A.L h1 O)
  | List es pos =>
    obtain ⟨ts, h1, rfl⟩ := Option.map_eq_some_iff.mp (show (cL n c es).map .lst = some t from h)
    exact d_lst (A.L h1 O)
  | Call f es kws pos =>
    cases f with
    | Name x p =>
      cases kws with
      | nil => exact call_name A h O
      | cons k ks => exact call_kw A h O
    | _ => cases h
  | ListComp elt gens scope pos =>
    match gens, h with
    | [⟨tg, iter, ifs, k⟩], h =>
      by_cases hk : k = 0
      · subst hk
        obtain ⟨own, p, it, tc, e, gr, tt, rfl, q1, q2, q3, q4, q5, q6, q7, q8⟩ := (A.C (show cC n c elt tg iter ifs scope = some t from h) O).ex
        exact d_comp O q1 q2 q3 q4 q5 q6 q7 q8
      · exfalso
        match k, hk, h with
        | .ofNat 0, hk, _ => exact hk rfl
        | .ofNat (m + 1), _, h => cases h
        | .negSucc m, _, h => cases h
    | [], h => cases h
    | ⟨_, _, _, k⟩ :: _ :: _, h =>
      exfalso
      match k, h with
      | .ofNat 0, h => cases h
      | .ofNat (m + 1), h => cases h
      | .negSucc m, h => cases h
  | _ => cases h
theorem all_ok : ∀ n, AllOk g Φ kk n
  | 0 => ⟨(fun h => by cases h), (fun h => by cases h), (fun h => by cases h), (fun h => by cases h), (fun h => by cases h), (fun h => by cases h), (fun h => by cases h), (fun h => by cases h), (fun h => by cases h)⟩
  | n + 1 => ⟨fun h => stepE (all_ok n) h, fun h => stepC' (all_ok n) h, fun h => stepT (all_ok n) h, fun h => stepB (all_ok n) h, fun h => stepP (all_ok n) h, fun h => stepL (all_ok n) h, fun h => stepK (all_ok n) h, fun h => stepA (all_ok n) h, fun h => stepI (all_ok n) h⟩
end
end MI

set_option Elab.async false
set_option linter.all false
set_option maxRecDepth 100000
set_option maxHeartbeats 4000000
/-! Statements: from the text to trees, and that the trees are right. -/
namespace MI
open PySem PySem.Spec PyProof.Rows L2

/-- is the value stored straight into the name (a comprehension on the name's line)? -/
def swB (sc : Scope) (x : Str) (px : Pos) : Expr → Bool
  | .ListComp elt gs s p => sc.names.lookup x == some .local && px.line == (Expr.ListComp elt gs s p).pos.line && !(s.names.any fun (n, k) => n == x && (k == .local || k == .cell))
  | _ => false
def lcOrPlain : Expr → Bool
  | .SetComp _ _ _ _ => false
  | .DictComp _ _ _ _ _ => false
  | _ => true
mutual
/-- a target -/
def cG : Nat → Cc → Expr → Option T
  | 0, _, _ => none
  | n + 1, c, .Name x _ => (locOf c x).map .var
  | n + 1, c, .Subscript (.Name x _) b _ => if noSlice b then (match slotOf c x, cE n c b with
    | some i, some tb => some (.idx (.var i) tb)
    | _, _ => none) else none
  | n + 1, c, .Tuple es _ _ => (cGs n c es).map .tup
  | _, _, _ => none
termination_by structural n => n
def cGs : Nat → Cc → List Expr → Option T
  | 0, _, _ => none
  | n + 1, c, [] => some .nil
  | n + 1, c, e :: es => if noStar e then (match cG n c e, cGs n c es with
    | some t, some ts => some (.cons t ts)
    | _, _ => none) else none
termination_by structural n => n
end
def isVarT : T → Bool
  | .var _ => true
  | _ => false
def isLocal (sc : Scope) (x : Str) : Bool := match sc.names.lookup x with | some .local => true | _ => false
/-- names and their slots, one by one -/
def namesB (c : Cc) : List Expr → Option (List Nat)
  | [] => some []
  | .Name x _ :: es => match locOf c x, namesB c es with
    | some i, some is => some (i :: is)
    | _, _ => none
  | _ => none
def isTup : Expr → Bool
  | .Tuple _ _ _ => true
  | _ => false
def isNameE : Expr → Bool
  | .Name _ _ => true
  | _ => false
def seqT (r : List Stmt) (a u : T) : T := match r with
  | [] => a
  | _ :: _ => .seq a u
/-- an assignment -/
def cAs (n : Nat) (c : Cc) (tg e : Expr) : Option T := match tg, e with
  | .Name x px, .ListComp elt gs scope p => if swB c.sc x px (.ListComp elt gs scope p) then (match locOf c x, gs with
      | some i, [⟨tg, iter, ifs, k⟩] => if decide (k = 0) && isLocal c.sc x then (cC n c elt tg iter ifs scope).map (.asg (.var i)) else none
      | _, _ => none)
    else (match locOf c x, cE n c (.ListComp elt gs scope p) with
      | some i, some t => some (.asg (.var i) t)
      | _, _ => none)
  | .Name x px, e => if noComp e then (match locOf c x, cE n c e with
      | some i, some t => some (.asg (.var i) t)
      | _, _ => none) else none
  | .Tuple es k p, .Tuple vs k2 p2 => (match cL n c vs, namesB c es, swK c.sc es vs with
      | some ts, some is, some none => if decide (is.length ≤ 1000) && vs.all noStar then some (.par is ts) else none
      | some ts, some [i, j], some (some [x, y]) => (match es with
        | [.Name x' _, .Name y' _] => if decide (x' = x) && decide (y' = y) && decide (i ≠ j) && isLocal c.sc x && isLocal c.sc y && vs.all noStar && decide (vs.length = 2) then some (.par [i, j] ts) else none
        | _ => none)
      | some ts, some [i, j, l], some (some [x, y, z]) => (match es with
        | [.Name x' _, .Name y' _, .Name z' _] => if decide (x' = x) && decide (y' = y) && decide (z' = z) && decide (i ≠ j) && decide (i ≠ l) && decide (j ≠ l) && isLocal c.sc x && isLocal c.sc y && isLocal c.sc z && vs.all noStar && decide (vs.length = 3) then some (.par [i, j, l] ts) else none
        | _ => none)
      | _, _, _ => none)
  | tg, e => if isNameE tg then none else if isTup tg && isTup e then none else (match cG n c tg, cE n c e with
      | some p, some t => if isVarT p then none else some (.asg p t)
      | _, _ => none)
mutual
def cS : Nat → Cc → Stmt → Option T
  | 0, _, _ => none
  | n + 1, c, .Return (some e) _ => (cE n c e).map .ret
  | n + 1, c, .Return none _ => some .retN
  | n + 1, c, .Pass _ => some .pass
  | n + 1, c, .Break _ => some .brk
  | n + 1, c, .Continue _ => some .cont
  | n + 1, c, .Expr (.Call (.Attribute (.Name x _) m pa) [e] [] pos) _ => if decide (m = ("append" : Str)) && noStar e && (pa.endLine == pos.line) then (match slotOf c x, cE n c e with
    | some i, some t => some (.app i t)
    | _, _ => none) else none
  | n + 1, c, .Expr e _ => if noComp e then (cE n c e).map .ex else none
  | n + 1, c, .If e a b _ => match cT n c e, cSs n c a, cSs n c b with
    | some t, some ta, some tb => some (.iff t ta tb)
    | _, _, _ => none
  | n + 1, c, .Assign [tg] e _ => cAs n c tg e
  | n + 1, c, .While e b [] _ => match cT n c e, cSs n c b with
    | some t, some tb => some (.whl t tb)
    | _, _ => none
  | n + 1, c, .For tg it b [] _ => if noSet it then (match cG n c tg, cI n c it, cSs n c b with
    | some p, some ti, some tb => some (.for p ti tb)
    | _, _, _ => none) else none
  | _, _, _ => none
termination_by structural n => n
/-- a statement that the trees do not cover ends the run with no answer -/
def cSs : Nat → Cc → List Stmt → Option T
  | 0, _, _ => none
  | n + 1, c, [] => some .pass
  | n + 1, c, st :: r => match cSs n c r with
    | some u => some (seqT r ((cS n c st).getD .nil) u)
    | none => none
termination_by structural n => n
end

section
variable {g : G} {Φ : Call} {kk : Nat} {n : Nat}
theorem s_never {W : WXX} {X : Cx} {st : Stmt} : PS X st (rdS g W Φ .nil) := ⟨fun pins s σ H D I ⟨Z, s', _, h⟩ => (show False from h).elim⟩
theorem locS_ok {c : Cc} {x : Str} {i : Nat} (h : locOf c x = some i) : c.N[i]? = some x ∧ L2.Loc c.sc x := by
  unfold locOf at h
  split at h
  · rename_i v
    obtain ⟨j, e1, e2⟩ := ixOf_ok h
    have : i = j := by omega
    subst this
    exact ⟨e2, loc_ok v⟩
  · cases h
theorem isLocal_ok {sc : Scope} {x : Str} (h : isLocal sc x = true) : sc.names.lookup x = some .local := by
  unfold isLocal at h
  split at h
  · assumption
  · cases h
theorem each_ns {e : Expr} (ns : noStar e = true) (es : List Expr) (env : Env) : assignEach (e :: es) env = (false, assign e env) :: assignEach es env := by
  cases e <;> first | rfl | cases ns
structure TgOk (g : G) (Φ : Call) (kk n : Nat) : Prop where
  G : ∀ {c e t}, cG n c e = some t → ∀ {W X}, OkX g c W Φ kk X → (∀ x, X.fn x = true) → PG X e (rdG g W Φ t)
  Gs : ∀ {c e t}, cGs n c e = some t → ∀ {W X}, OkX g c W Φ kk X → (∀ x, X.fn x = true) → PGs X e (rdGs g W Φ t) ∧ (∀ env, (assignEach e env).findIdx? (·.1) = none ∧ (assignEach e env).length = e.length) ∧ plainLen t = some e.length
theorem tg_ok : ∀ n, TgOk g Φ kk n
  | 0 => ⟨(fun h => by cases h), (fun h => by cases h)⟩
  | n + 1 => by
    have A : TgOk g Φ kk n := tg_ok n
    constructor
    · intro c e t h W X O hf
      cases e with
      | Name x p =>
        obtain ⟨i, h1, rfl⟩ := Option.map_eq_some_iff.mp (show (locOf c x).map .var = some t from h)
        obtain ⟨h2, h3⟩ := locS_ok h1
        exact g_var O h2 h3 (.inl (hf x))
      | Subscript a b pos =>
        cases a with
        | Name x px =>
          replace h : (if noSlice b then (match slotOf c x, cE n c b with
            | some i, some tb => some (.idx (.var i) tb)
            | _, _ => none) else none) = some t := h
          split at h
          · rename_i nb
            split at h
            · rename_i i tb h1 h2
              cases h
              exact g_sub O (nameV O h1) ((all_ok n).E h2 O) nb
            · cases h
          · cases h
        | _ => cases h
      | Tuple es k pos =>
        obtain ⟨ts, h1, rfl⟩ := Option.map_eq_some_iff.mp (show (cGs n c es).map .tup = some t from h)
        obtain ⟨q1, q2, q3⟩ := A.Gs h1 O hf
        exact g_tup O q1 (q2 _).1 (q2 _).2 q3
      | _ => cases h
    · intro c e t h W X O hf
      cases e with
      | nil =>
        cases h
        exact ⟨gs_nil, fun _ => ⟨rfl, rfl⟩, rfl⟩
      | cons e es =>
        replace h : (if noStar e then (match cG n c e, cGs n c es with
          | some t, some ts => some (.cons t ts)
          | _, _ => none) else none) = some t := h
        split at h
        · rename_i ns
          split at h
          · rename_i t1 ts h1 h2
            cases h
            obtain ⟨q1, q2, q3⟩ := A.Gs h2 O hf
            refine ⟨gs_cons (A.G h1 O hf) q1 (by rw [each_ns ns]; rfl), fun env => ?_, ?_⟩
            · rw [each_ns ns]
              obtain ⟨e1, e2⟩ := q2 env
              refine ⟨?_, by simp [e2]⟩
              rw [List.findIdx?_cons]
              simp [e1]
            · show (plainLen ts).map (· + 1) = _
              rw [q3]
              rfl
          · cases h
        · cases h
theorem namesB_ok {c : Cc} : ∀ {es : List Expr} {is : List Nat}, namesB c es = some is → isNames c es is ∧ is.length = es.length
  | [], is, h => by cases h; exact ⟨trivial, rfl⟩
  | .Name x p :: es, is, h => by
    replace h : (match locOf c x, namesB c es with
      | some i, some is => some (i :: is)
      | _, _ => none) = some is := h
    split at h
    · rename_i i is' h1 h2
      cases h
      obtain ⟨a, b⟩ := namesB_ok h2
      obtain ⟨q1, q2⟩ := locS_ok h1
      exact ⟨⟨q1, q2, a⟩, by simp [b]⟩
    · cases h
theorem v_all {c : Cc} {W : WXX} {X : Cx} (O : OkX g c W Φ kk X) : ∀ {n : Nat} {es : List Expr} {ts : T}, cL n c es = some ts → PA X es (rdV' g W Φ ts)
  | 0, _, _, h => by cases h
  | n + 1, [], ts, h => by cases h; exact v_nil
  | n + 1, e :: es, ts, h => by
    unfold cL at h
    split at h
    · rename_i ns
      split at h
      · rename_i t1 t2 h1 h2
        cases h
        exact v_cons ((all_ok n).E h1 O) (v_all O h2) ns
      · cases h
    · cases h
theorem sw_no {e : Expr} (h : noComp e = true) (tg : Option Expr) (l : Nat) (env : Env) : swapsWith e tg l env = pure false := by
  cases e <;> first | rfl | cases h
theorem sw_noN {e tg : Expr} (hn : isNameE tg = false) (l : Nat) (env : Env) : swapsWithSole [tg] e l env = pure false := by
  cases tg <;> first | (cases hn; done) | (cases e <;> rfl)
theorem sws_no {e tg : Expr} (hn : (isTup tg && isTup e) = false) (env : Env) (hs : ∀ es p, tg ≠ .List es p) : swappedStores [tg] e env = pure none := by
  cases tg <;> first
    | exact absurd rfl (hs _ _)
    | (cases e <;> first | rfl | cases hn)
theorem sw_lc {c : Cc} {W : WXX} {X : Cx} (O : OkX g c W Φ kk X) (hk : c.sc.kind = .function) {elt : Expr} {gs : List Comprehension} {s : Scope} {p px : Pos} {x : Str} {l : Nat} : swapsWith (.ListComp elt gs s p) (some (.Name x px)) l X.env = pure (swB c.sc x px (.ListComp elt gs s p)) := by
  have bk : (X.env.blockKind == ScopeKind.function) = true := by
    unfold Env.blockKind
    rw [O.hs, hk]
    rfl
  have kd : X.env.kindOf x = c.sc.names.lookup x := by
    show X.env.scope.names.lookup x = _
    rw [O.hs]
  show pure (X.env.blockKind == .function && X.env.kindOf x == some .local && px.line == (Expr.ListComp elt gs s p).pos.line && !(s.names.any fun (n, k) => n == x && (k == .local || k == .cell))) = _
  rw [bk, kd]
  rfl
theorem asg_name {c : Cc} {W : WXX} {X : Cx} {x : Str} {px pos : Pos} {e : Expr} {t : T} (O : OkX g c W Φ kk X) (hf : ∀ x, X.fn x = true) (hs : swapsWith e (some (.Name x px)) pos.line X.env = pure false) (h : (match locOf c x, cE n c e with
      | some i, some t => some (.asg (.var i) t)
      | _, _ => none) = some t) : PS X (.Assign [.Name x px] e pos) (rdS g W Φ t) := by
  split at h
  · rename_i i t' h1 h2
    cases h
    obtain ⟨q1, q2⟩ := locS_ok h1
    exact s_asg O q1 q2 (.inl (hf x)) ((all_ok n).E h2 O) hs
  · cases h
theorem asg_ok {c : Cc} {W : WXX} {X : Cx} {tg e : Expr} {t : T} {pos : Pos} (h : cAs n c tg e = some t) (O : OkX g c W Φ kk X) (hf : ∀ x, X.fn x = true) (hk : c.sc.kind = .function) : PS X (.Assign [tg] e pos) (rdS g W Φ t) := by
  have gen : ∀ {t : T}, (if isNameE tg then none else if isTup tg && isTup e then none else (match cG n c tg, cE n c e with
      | some p, some t => if isVarT p then none else some (.asg p t)
      | _, _ => none)) = some t → PS X (.Assign [tg] e pos) (rdS g W Φ t) := fun {t} h => by
    split at h
    · cases h
    · rename_i nn
      split at h
      · cases h
      · rename_i nt
        split at h
        · rename_i p t' h1 h2
          split at h
          · cases h
          · rename_i nv
            cases h
            refine s_asgP ((tg_ok n).G h1 O hf) ((all_ok n).E h2 O) (fun i e => nv (by rw [e]; rfl)) (sw_noN (by simpa using nn) _ _) (sws_no (by simpa using nt) _ fun es p e => ?_) ?_
            · subst e
              cases n <;> cases h1
            · cases n with
              | zero => cases h1
              | succ n =>
                cases tg <;> first | rfl | cases h1
        · cases h
  unfold cAs at h
  split at h
  · rename_i x px elt gs scope p
    split at h
    · rename_i sw
      split at h
      · rename_i i tg iter ifs k h1
        split at h
        · rename_i hc
          simp only [Bool.and_eq_true, decide_eq_true_eq] at hc
          obtain ⟨rfl, hl⟩ := hc
          obtain ⟨t', h2, rfl⟩ := Option.map_eq_some_iff.mp h
          obtain ⟨own, p', it, tc, e, gr, tt, rfl, q1, q2, q3, q4, q5, q6, q7, q8⟩ := ((all_ok n).C h2 O).ex
          obtain ⟨l1, l2⟩ := locS_ok h1
          exact s_asgC O l1 (isLocal_ok hl) (by rw [sw_lc O hk, sw]) q1 q2 q3 q4 q5 q6 q7 q8
        · cases h
      · cases h
    · rename_i sw
      exact asg_name O hf (by rw [sw_lc O hk]; simp at sw; rw [sw]) h
  · rename_i x px e _
    split at h
    · rename_i nc
      exact asg_name O hf (sw_no nc _ _ _) h
    · cases h
  · rename_i es k p vs k2 p2
    split at h
    · rename_i ts is h1 h2 h3
      split at h
      · rename_i hc
        simp only [Bool.and_eq_true, decide_eq_true_eq] at hc
        cases h
        exact s_parT O hf (namesB_ok h2).1 (v_all O h1) hk h3 hc.1
      · cases h
    · rename_i ts i j x y h1 h2 h3
      split at h
      · rename_i x' px y' py
        split at h
        · rename_i hc
          simp only [Bool.and_eq_true, decide_eq_true_eq] at hc
          obtain ⟨⟨⟨⟨⟨⟨rfl, rfl⟩, c1⟩, c2⟩, c3⟩, c4⟩, c5⟩ := hc
          cases h
          obtain ⟨⟨m1, _, m2, _, _⟩, _⟩ := namesB_ok h2
          obtain ⟨a, b, rfl⟩ : ∃ a b, vs = [a, b] := by
            match vs, c5 with
            | [a, b], _ => exact ⟨a, b, rfl⟩
          exact s_par2 O m1 m2 c1 (isLocal_ok c2) (isLocal_ok c3) (v_all O h1) hk h3
        · cases h
      · cases h
    · rename_i ts i j l x y z h1 h2 h3
      split at h
      · rename_i x' px y' py z' pz
        split at h
        · rename_i hc
          simp only [Bool.and_eq_true, decide_eq_true_eq] at hc
          obtain ⟨⟨⟨⟨⟨⟨⟨⟨⟨⟨rfl, rfl⟩, rfl⟩, c1⟩, c2⟩, c3⟩, c4⟩, c5⟩, c6⟩, c7⟩, c8⟩ := hc
          cases h
          obtain ⟨⟨m1, _, m2, _, m3, _, _⟩, _⟩ := namesB_ok h2
          obtain ⟨a, b, d, rfl⟩ : ∃ a b d, vs = [a, b, d] := by
            match vs, c8 with
            | [a, b, d], _ => exact ⟨a, b, d, rfl⟩
          exact s_par3 O m1 m2 m3 c1 c2 c3 (isLocal_ok c4) (isLocal_ok c5) (isLocal_ok c6) (v_all O h1) hk h3
        · cases h
      · cases h
    · cases h
  · exact gen h
structure StOk (g : G) (Φ : Call) (kk n : Nat) : Prop where
  S : ∀ {c st t}, cS n c st = some t → ∀ {W X}, OkX g c W Φ kk X → (∀ x, X.fn x = true) → c.sc.kind = .function → PS X st (rdS g W Φ t)
  Ss : ∀ {c st t}, cSs n c st = some t → ∀ {W X}, OkX g c W Φ kk X → (∀ x, X.fn x = true) → c.sc.kind = .function → PSs X st (rdS g W Φ t)
theorem st_ok : ∀ n, StOk g Φ kk n
  | 0 => ⟨(fun h => by cases h), (fun h => by cases h)⟩
  | n + 1 => by
    have A : StOk g Φ kk n := st_ok n
    have B : AllOk g Φ kk n := all_ok n
    constructor
    · intro c st t h W X O hf hk
      cases st with
      | Return e pos =>
        cases e with
        | none => cases h; exact s_retN
        | some e =>
          obtain ⟨t', h1, rfl⟩ := Option.map_eq_some_iff.mp (show (cE n c e).map .ret = some t from h)
          exact s_ret (B.E h1 O)
      | Pass pos => cases h; exact s_pass
      | Break pos => cases h; exact s_brk
      | Continue pos => cases h; exact s_cont
      | Expr e pos =>
        have gen : ∀ {t : T}, (if noComp e then (cE n c e).map .ex else none) = some t → PS X (.Expr e pos) (rdS g W Φ t) := fun {t} h => by
          split at h
          · rename_i nc
            obtain ⟨t', h1, rfl⟩ := Option.map_eq_some_iff.mp h
            exact s_ex (B.E h1 O) (sw_no nc _ _ _)
          · cases h
        by_cases hc : ∃ x px m pa e' p, e = .Call (.Attribute (.Name x px) m pa) [e'] [] p
        · obtain ⟨x, px, m, pa, e', p, rfl⟩ := hc
          replace h : (if decide (m = ("append" : Str)) && noStar e' && (pa.endLine == p.line) then (match slotOf c x, cE n c e' with
            | some i, some t => some (.app i t)
            | _, _ => none) else none) = some t := h
          split at h
          · rename_i hc
            simp only [Bool.and_eq_true, decide_eq_true_eq] at hc
            obtain ⟨⟨rfl, c1⟩, c2⟩ := hc
            split at h
            · rename_i i t' h1 h2
              cases h
              exact s_app (nameV O h1) (B.E h2 O) c1 c2
            · cases h
          · cases h
        · refine gen (Eq.trans ?_ h)
          cases e with
          | Call f es kws p =>
            cases f with
            | Attribute o m pa =>
              cases o with
              | Name x px =>
                match es, kws with
                | [e'], [] => exact absurd ⟨_, _, _, _, _, _, rfl⟩ hc
                | [], _ => rfl
                | _ :: _ :: _, _ => rfl
                | [_], _ :: _ => rfl
              | _ => rfl
            | _ => rfl
          | _ => rfl
      | If e a b pos =>
        replace h : (match cT n c e, cSs n c a, cSs n c b with
          | some t, some ta, some tb => some (.iff t ta tb)
          | _, _, _ => none) = some t := h
        split at h
        · rename_i t' ta tb h1 h2 h3
          cases h
          exact s_if (B.T h1 O) (A.Ss h2 O hf hk) (A.Ss h3 O hf hk)
        · cases h
      | Assign tgs e pos =>
        match tgs, h with
        | [tg], h => exact asg_ok (show cAs n c tg e = some t from h) O hf hk
        | [], h => cases h
        | _ :: _ :: _, h => cases h
      | While e b el pos =>
        cases el with
        | nil =>
          replace h : (match cT n c e, cSs n c b with
            | some t, some tb => some (.whl t tb)
            | _, _ => none) = some t := h
          split at h
          · rename_i t' tb h1 h2
            cases h
            exact s_while O (B.T h1 O) (A.Ss h2 O hf hk)
          · cases h
        | cons _ _ => cases h
      | For tg it b el pos =>
        cases el with
        | nil =>
          replace h : (if noSet it then (match cG n c tg, cI n c it, cSs n c b with
            | some p, some ti, some tb => some (.for p ti tb)
            | _, _, _ => none) else none) = some t := h
          split at h
          · rename_i ns
            split at h
            · rename_i p ti tb h1 h2 h3
              cases h
              exact s_for O (B.I h2 O) ((tg_ok n).G h1 O hf) (A.Ss h3 O hf hk) (fsi ns _)
            · cases h
          · cases h
        | cons _ _ => cases h
      | _ => cases h
    · intro c st t h W X O hf hk
      cases st with
      | nil => cases h; exact s_nil
      | cons st r =>
        have one : PS X st (rdS g W Φ ((cS n c st).getD .nil)) := by
          cases e : cS n c st with
          | none => exact s_never
          | some t => exact A.S e O hf hk
        replace h : (match cSs n c r with
          | some u => some (seqT r ((cS n c st).getD .nil) u)
          | none => none) = some t := h
        split at h
        · rename_i u h1
          cases r with
          | nil => cases h; exact s_one one
          | cons s2 r2 => cases h; exact s_cons one (A.Ss h1 O hf hk)
        · cases h
end
end MI

set_option Elab.async false
set_option linter.all false
set_option maxRecDepth 100000
set_option maxHeartbeats 4000000
/-! Defs: what a def's call gives is what the evaluator gives. -/
namespace MI
open PySem PySem.Spec PyProof.Rows L2

section
variable {g : G}
theorem startS_get {n i : Nat} {args : List Vl} {v : Vl} (h : (startS n args)[i]? = some (some v)) : args[i]? = some v := by
  unfold startS at h
  by_cases hi : i < args.length
  · rw [List.getElem?_append_left (by simpa using hi), List.getElem?_map] at h
    obtain ⟨w, h1, h2⟩ := Option.map_eq_some_iff.mp h
    cases h2
    exact h1
  · rw [List.getElem?_append_right (by simpa using hi), List.getElem?_replicate] at h
    split at h <;> cases h
theorem start_get {N : List Str} {vs : List V} {i : Nat} (hi : i < vs.length) : (L2.start N vs)[i]? = (vs.map some)[i]? := by
  unfold L2.start
  rw [List.getElem?_append_left (by simpa using hi)]
theorem start_sr {Z H : Hp} {args : List Vl} {vs : List V} {N : List Str} (st : Sr g Z (args.map some) (vs.map some) H) (hl : args.length ≤ N.length) : Sr g Z (startS N.length args) (L2.start N vs) H := by
  have len : args.length = vs.length := by simpa using st.len
  have get : ∀ {i : Nat} {v : Vl}, (startS N.length args)[i]? = some (some v) → (args.map some)[i]? = some (some v) ∧ i < vs.length := fun {i v} h => by
    have h1 := startS_get h
    exact ⟨by rw [List.getElem?_map, h1]; rfl, by rw [← len]; exact (List.getElem?_eq_some_iff.mp h1).1⟩
  refine ⟨by simp [startS, L2.start, len], st.sub, fun i v h => ?_, fun i j t u xs ys a e1 e2 e3 e4 => ?_⟩
  · obtain ⟨h1, h2⟩ := get h
    obtain ⟨x, q1, q2⟩ := st.rel i v h1
    exact ⟨x, by rw [start_get h2]; exact q1, q2⟩
  · obtain ⟨h1, h2⟩ := get e1
    obtain ⟨h3, h4⟩ := get e2
    rw [start_get h2] at e3
    rw [start_get h4] at e4
    exact st.inj i j t u xs ys a h1 h3 e3 e4
theorem start_own {args : List Vl} {vs : List V} {N : List Str} (len : args.length = vs.length) {a : Addr} (h : Own (startS N.length args) (L2.start N vs) a) : Own (args.map some) (vs.map some) a := by
  obtain ⟨i, t, xs, h1, h2⟩ := h
  have h3 := startS_get h1
  refine ⟨i, t, xs, by rw [List.getElem?_map, h3]; rfl, ?_⟩
  rw [start_get (by rw [← len]; exact (List.getElem?_eq_some_iff.mp h3).1)] at h2
  exact h2
theorem outs_get {args : List Vl} {s : S} {i : Nat} {v : Vl} (h : (outs args s)[i]? = some (some v)) : ∃ t xs, args[i]? = some (.own t xs) ∧ s[i]? = some (some v) ∧ ((∃ ys, v = .own true ys) ∨ ∃ ys, v = .fz ys) := by
  unfold outs at h
  rw [List.getElem?_map] at h
  obtain ⟨p, h1, h2⟩ := Option.map_eq_some_iff.mp h
  obtain ⟨a, o⟩ := p
  obtain ⟨q1, q2⟩ := List.getElem?_zip_eq_some.mp h1
  dsimp only at h2
  have key : ∀ w, o = some w → s[i]? = some (some w) := fun w e => by
    subst e
    by_cases hi : i < s.length
    · rwa [List.getElem?_append_left hi] at q2
    · rw [List.getElem?_append_right (by omega), List.getElem?_replicate] at q2
      split at q2 <;> cases q2
  split at h2
  · cases h2
    exact ⟨_, _, q1, key _ rfl, .inl ⟨_, rfl⟩⟩
  · cases h2
    exact ⟨_, _, q1, key _ rfl, .inr ⟨_, rfl⟩⟩
  · cases h2
theorem outs_len {args : List Vl} {s : S} : (outs args s).length = args.length := by
  unfold outs
  rw [List.length_map, List.length_zip, List.length_append, List.length_replicate]
  omega
theorem outs_sr {Z H Z' H' : Hp} {args : List Vl} {vs : List V} {N : List Str} {s' : S} {σ' : L2.St} (st : Sr g Z (args.map some) (vs.map some) H) (ks : KS g Z H (startS N.length args) (L2.start N vs) Z' H' s' σ') :
    Sr g Z' (outs args s') (vs.map some) H' ∧ ∀ a, Own (outs args s') (vs.map some) a → Own (args.map some) (vs.map some) a := by
  have len : args.length = vs.length := by simpa using st.len
  have get : ∀ {i : Nat} {v : Vl}, (outs args s')[i]? = some (some v) → ∃ t xs, args[i]? = some (.own t xs) ∧ s'[i]? = some (some v) ∧ σ'[i]? = (vs.map some)[i]? := fun {i v} h => by
    obtain ⟨t, xs, h1, h2, h3⟩ := outs_get h
    have tg : Tg s' i := by
      rcases h3 with ⟨ys, rfl⟩ | ⟨ys, rfl⟩
      · exact ⟨ys, .inl h2⟩
      · exact ⟨ys, .inr h2⟩
    exact ⟨t, xs, h1, h2, (ks.p i tg).2.trans (start_get (by rw [← len]; exact (List.getElem?_eq_some_iff.mp h1).1))⟩
  refine ⟨⟨by rw [outs_len]; simpa using len, ks.st.sub, fun i v h => ?_, fun i j t u xs ys a e1 e2 e3 e4 => ?_⟩, fun a ⟨i, t, xs, e1, e2⟩ => ?_⟩
  · obtain ⟨t, xs, h1, h2, h3⟩ := get h
    obtain ⟨x, q1, q2⟩ := ks.st.rel i v h2
    exact ⟨x, by rw [← h3]; exact q1, q2⟩
  · obtain ⟨_, _, h1, h2, h3⟩ := get e1
    obtain ⟨_, _, h4, h5, h6⟩ := get e2
    exact ks.st.inj i j t u xs ys a h2 h5 (by rw [h3]; exact e3) (by rw [h6]; exact e4)
  · obtain ⟨t', xs', h1, h2, h3⟩ := get e1
    exact ⟨i, t', xs', by rw [List.getElem?_map, h1]; rfl, e2⟩
theorem Keep.own {Z H Z' H' : Hp} {O O' : Addr → Prop} (k : Keep Z H O Z' H') (h : ∀ a, O a → O' a) : Keep Z H O' Z' H' := k.wide h
end

/-- what the evaluator is told of a def -/
structure FnFact (K : PySem.W.Frag) (mg : Str → Option Value) (g : G) (sg : List Sg) (gl : List (Str × D)) (i : Nat) (S : Sg) (f : Fn) : Prop where
  ex : ∃ (name qual : Str) (as : List Arg) (body : List Stmt) (scope : Scope) (kV doc pm cdv ct oc : Value) (an od : Option Addr) (osl : Array (Option Value)) (N : List Str) (fuel : Nat),
    K.lookup (g.fa i) = some ⟨oc, od, .func (PySem.W.fnOf name qual (plainArgs as) body scope .none kV doc pm an cdv ct), osl⟩ ∧ PySem.W.codeIn K cdv qual = true ∧ FnScope N S.ps scope ∧ as.map (·.arg) = S.ps ∧ S.ps.Nodup ∧
      cSs fuel ⟨N, scope, sg, gl⟩ body = some f.body ∧ f.np = S.ps.length ∧ f.n = N.length ∧ S.ps.length ≤ N.length
  mg : mg S.name = some (.ref (g.fa i))
  keep : PySem.W.keepIn K (.ref (g.fa i)) = true
structure ModOk (K : PySem.W.Frag) (mg : Str → Option Value) (g : G) (sg : List Sg) (gl : List (Str × D)) (fns : List Fn) : Prop where
  hK : g.K = K
  glm : ∀ x d, (x, d) ∈ gl → ∃ (u : Value) (v : V), mg x = some u ∧ RelV v u ∧ RD g (fun _ => none) d v
  blt : ∀ x ∈ bns, mg x = none
  fn : ∀ i S, sg[i]? = some S → ∃ f, fns[i]? = some f ∧ FnFact K mg g sg gl i S f

section
variable {g : G} {P : Program} {w : World} {K : PySem.W.Frag} {mg : Str → Option Value} {base : Heap} {sg : List Sg} {gl : List (Str × D)} {fns : List Fn}
theorem run_ok (M : ModOk K mg g sg gl fns) : ∀ (d i : Nat) (S : Sg), sg[i]? = some S → ∃ (fd : FuncData) (as : List Arg), fd.params = plainArgs as ∧ as.map (·.arg) = S.ps ∧ fd.defaults = .none ∧ S.ps.Nodup ∧ FnG P w K mg base d (g.fa i) fd S.ps (spF g (run fns d) i) ∧ ∃ oc od osl, K.lookup (g.fa i) = some ⟨oc, od, .func fd, osl⟩
  | 0, i, S, h => by
    obtain ⟨f, _, F⟩ := M.fn i S h
    obtain ⟨name, qual, as, body, scope, kV, doc, pm, cdv, ct, oc, an, od, osl, N, fuel, h1, h2, h3, h4, h5, _⟩ := F.ex
    refine ⟨_, as, (rfl : (PySem.W.fnOf name qual (plainArgs as) body scope .none kV doc pm an cdv ct).params = _), h4, rfl, h5, ⟨fun vs H Q E ⟨Z, args, _, q⟩ => q.elim, fun A o s H a us vs Q E _ _ _ _ _ ⟨Z, args, _, q⟩ => (show False from q).elim⟩, oc, od, osl, h1⟩
  | d + 1, i, S, h => by
    obtain ⟨f, hf, F⟩ := M.fn i S h
    obtain ⟨name, qual, as, body, scope, kV, doc, pm, cdv, ct, oc, an, od, osl, N, fuel, h1, h2, h3, h4, h5, h6, h7, h8, h9⟩ := F.ex
    have step : ∀ args : List Vl, run fns (d + 1) i args = if args.length = f.np then (match exS (run fns d) f.body (startS f.n args) with
        | .rt v s => .ok (v, outs args s) []
        | .nx s => .ok (.d .non, outs args s) []
        | .ex c fs s => .ex c fs (outs args s)
        | _ => .no) else .no := fun args => by
      show (match fns[i]? with
        | none => .no
        | some f => if args.length = f.np then (match exS (run fns d) f.body (startS f.n args) with
          | .rt v s => .ok (v, outs args s) []
          | .nx s => .ok (.d .non, outs args s) []
          | .ex c fs s => .ex c fs (outs args s)
          | _ => .no) else .no : MI.R (Vl × List (Option Vl))) = _
      rw [hf]
    refine ⟨_, as, (rfl : (PySem.W.fnOf name qual (plainArgs as) body scope .none kV doc pm an cdv ct).params = _), h4, rfl, h5, fnG_of h1 h2 h3 (fun vs H Q E ⟨Z, args, st, q⟩ => ?_) (fun A outer s H vs Q E hr hgd ⟨Z, args, st, q⟩ => ?_), oc, od, osl, h1⟩
    · have len : args.length = vs.length := by simpa using st.len
      by_cases e : args.length = f.np
      · rw [← len, e, h7]
      · rw [step args, if_neg e] at q
        exact q.elim
    · have len : args.length = vs.length := by simpa using st.len
      by_cases e : args.length = f.np
      · rw [step args, if_pos e] at q
        let X := cxOf (L2.CX P w) P w K mg base N qual scope (g.fa i) cdv A outer s H E
        let W : WXX := fun cls d _ H => E cls d H
        have O : OkX g ⟨N, scope, sg, gl⟩ W (run fns d) d X := {
          hK := M.hK
          hN := rfl
          nd := h3.nd
          hs := rfl
          cm := rfl
          hr := hr
          gd := hgd
          tk := takes_of rfl rfl rfl rfl
          po := passes_of rfl
          fnm := fun j T e => by
            obtain ⟨fd, as, q1, q2, q3, q4, q5, _⟩ := run_ok M d j T e
            obtain ⟨_, _, Fj⟩ := M.fn j T e
            exact ⟨fd, as, Fj.mg, Fj.keep, q1, q2, q3, q4, q5⟩
          glm := M.glm
          blt := M.blt }
        refine ⟨_, (st_ok fuel).Ss h6 O (fun _ => rfl) h3.kind, Z, startS N.length args, start_sr st (by omega), ?_⟩
        rw [h8] at q
        have ow : ∀ a, Own (startS N.length args) (L2.start N vs) a → Own (args.map some) (vs.map some) a := fun a => start_own len
        cases e2 : exS (run fns d) f.body (startS N.length args) with
        | nx s' =>
          rw [e2] at q
          intro Z' H' σ' ks
          obtain ⟨o1, o2⟩ := outs_sr st ks
          exact q Z' H' .non (ks.k.wide ow) o1 o2 (.flat .non)
        | rt v s' =>
          rw [e2] at q
          intro Z' H' σ' x ks rf
          obtain ⟨o1, o2⟩ := outs_sr st ks
          exact q Z' H' x (ks.k.wide ow) o1 o2 rf
        | ex c fs s' =>
          rw [e2] at q
          intro Z' H' σ' dd ks rx
          obtain ⟨o1, o2⟩ := outs_sr st ks
          exact q Z' H' dd (ks.k.wide ow) o1 o2 rx
        | bk s' => rw [e2] at q; exact q.elim
        | ct s' => rw [e2] at q; exact q.elim
        | no => rw [e2] at q; exact q.elim
      · rw [step args, if_neg e] at q
        exact q.elim
end
end MI

set_option Elab.async false
set_option linter.all false
set_option maxRecDepth 100000
set_option maxHeartbeats 4000000
/-! From a module's text to the evaluator's defs; the law's end. -/
namespace MI
open PySem PySem.Spec PyProof.Rows L2

/-- a def of the module's top, as the text has it -/
structure De where
  name : Str
  args : List Arg
  body : List Stmt
  scope : Scope
  /-- what comprehensions bind -/
  extra : List Str := []
def deOf : Stmt → Option De
  | .FunctionDef n ⟨[], as, none, [], [], none, []⟩ b [] _ _ sc none _ _ => some ⟨n, as, b, sc, []⟩
  | _ => none
def desOf (p : Program) : List De := p.main.body.filterMap deOf
def De.dd (d : De) : He.DefD := ⟨(d.name, none), d.name, d.name, plainArgs d.args, d.body, d.scope, [], []⟩
def De.ps (d : De) : List Str := d.args.map (·.arg)
def De.sg (d : De) : Sg := ⟨d.name, d.ps⟩
def De.N0 (d : De) : List Str := d.ps ++ (d.scope.names.filterMap fun p => match p.2 with
  | .local => if d.ps.contains p.1 then none else some p.1
  | .cell => if d.ps.contains p.1 then none else some p.1
  | _ => none)
def De.N (d : De) : List Str := d.N0 ++ d.extra.filter fun x => !d.N0.contains x
/-- the defs, each with its comprehensions' names -/
def desX (p : Program) (ex : List (Str × List Str)) : List De := (desOf p).map fun d => { d with extra := (ex.lookup d.name).getD [] }
abbrev CFUEL : Nat := 40
def De.fn (sg : List Sg) (gl : List (Str × D)) (d : De) : Fn := ⟨d.ps.length, d.N.length, (cSs CFUEL ⟨d.N, d.scope, sg, gl⟩ d.body).getD .nil⟩
def scopeB (N P : List Str) (sc : Scope) : Bool := (match sc.kind with | .function => true | _ => false) && !sc.isCoroutine && !sc.isGenerator && decide N.Nodup && decide (N.take P.length = P) && P.all (fun x => locB sc x) && sc.names.all (fun y => match y.2 with | .free => false | _ => true)
theorem scopeB_ok {N P : List Str} {sc : Scope} (h : scopeB N P sc = true) : FnScope N P sc := by
  unfold scopeB at h
  simp only [Bool.and_eq_true, decide_eq_true_eq, List.all_eq_true, Bool.not_eq_true'] at h
  obtain ⟨⟨⟨⟨⟨⟨h1, h2⟩, h3⟩, h4⟩, h5⟩, h6⟩, h7⟩ := h
  refine ⟨?_, h2, h3, h4, h5, fun x hx => loc_ok (h6 x hx), fun y hy e => ?_⟩
  · split at h1
    · assumption
    · cases h1
  · have := h7 y hy
    rw [e] at this
    cases this
/-- what of a def is looked at once -/
def De.ok (sg : List Sg) (gl : List (Str × D)) (d : De) : Bool := scopeB d.N d.ps d.scope && decide d.ps.Nodup && (cSs CFUEL ⟨d.N, d.scope, sg, gl⟩ d.body).isSome && decide (d.ps.length ≤ d.N.length)
/-- the module: its defs, its whole numbers by name -/
structure Md where
  des : List De
  nums : List (Str × Int)
def Md.sg (m : Md) : List Sg := m.des.map De.sg
def Md.gl (m : Md) : List (Str × D) := m.nums.map fun p => (p.1, .int p.2)
def Md.fns (m : Md) : List Fn := m.des.map (De.fn m.sg m.gl)
def Md.fn (m : Md) : List He.DefD := m.des.map De.dd
def Md.fa (m : Md) : List He.Fa := m.des.map (fun d => He.Fa.glo d.name) ++ (bns.map He.Fa.free ++ m.nums.map fun p => He.Fa.int p.1 p.2)
def Md.ok (m : Md) : Bool := m.des.all (De.ok m.sg m.gl)
def Md.g (m : Md) (K : PySem.W.Frag) : G := ⟨K, fun i => He.ga K ((m.des[i]?.map De.name).getD ""), fun _ => 0⟩
theorem fact_of {fa : List He.Fa} {fn : List He.DefD} {K : PySem.W.Frag} (c : He.SaysD fa fn K) {f : He.Fa} (h : f ∈ fa) : f.ok K = true := by
  obtain ⟨i, e⟩ := List.getElem?_of_mem h
  exact c.fact i e
theorem md_ok {m : Md} {K : PySem.W.Frag} {h : Heap} {mg : Str → Option Value} (ok : m.ok = true) (X : K.In h) (G : h.Ns mainGlobals mg) (c : He.SaysD m.fa m.fn K) : ModOk K mg (m.g K) m.sg m.gl m.fns where
  hK := rfl
  glm := fun x d hx => by
    obtain ⟨p, hp, e⟩ := List.mem_map.mp hx
    cases e
    have f := fact_of c (f := .int p.1 p.2) (List.mem_append.mpr (.inr (List.mem_append.mpr (.inr (List.mem_map.mpr ⟨p, hp, rfl⟩)))))
    obtain ⟨t, e⟩ := He.int_ok X G f
    exact ⟨_, .int p.2, e, ⟨t, rfl⟩, .int _⟩
  blt := fun x hx => He.free_ok X G (fact_of c (List.mem_append.mpr (.inr (List.mem_append.mpr (.inl (List.mem_map.mpr ⟨x, hx, rfl⟩))))))
  fn := fun i S e => by
    unfold Md.sg at e
    rw [List.getElem?_map] at e
    obtain ⟨d, hd, rfl⟩ := Option.map_eq_some_iff.mp e
    have hm : d ∈ m.des := List.mem_of_getElem? hd
    have hok : De.ok m.sg m.gl d = true := List.all_eq_true.mp ok d hm
    unfold De.ok at hok
    simp only [Bool.and_eq_true, decide_eq_true_eq, Option.isSome_iff_exists] at hok
    obtain ⟨⟨⟨h1, h2⟩, ⟨t, h3⟩⟩, h4⟩ := hok
    obtain ⟨fd, F⟩ := c.def_ i (d := d.dd) (by unfold Md.fn; rw [List.getElem?_map, hd]; rfl)
    obtain ⟨⟨oc, od, dV, kV, doc, pm, an, cdv, ct, osl, q1, q2, q3, q4, q5⟩, kp⟩ := F
    have dn : dV = .none := by
      rcases q4 with ⟨_, z⟩ | ⟨z, _⟩
      · exact z
      · exact absurd rfl z
    have ga : (m.g K).fa i = He.ga K d.name := by
      show He.ga K ((m.des[i]?.map De.name).getD "") = _
      rw [hd]
      rfl
    refine ⟨De.fn m.sg m.gl d, by unfold Md.fns; rw [List.getElem?_map, hd]; rfl, ⟨⟨d.name, d.name, d.args, d.body, d.scope, kV, doc, pm, cdv, ct, oc, an, od, osl, d.N, CFUEL, ?_, q3, scopeB_ok h1, rfl, h2, ?_, rfl, rfl, h4⟩, ?_, ?_⟩⟩
    · rw [ga]
      subst dn
      rw [q1] at q2
      exact q2
    · rw [h3]
      unfold De.fn
      rw [h3]
      rfl
    · rw [ga]
      exact He.glo_ok X G (fact_of c (List.mem_append.mpr (.inl (List.mem_map.mpr ⟨d, hm, rfl⟩))))
    · rw [ga]
      exact kp
end MI

set_option Elab.async false
set_option linter.all false
set_option maxRecDepth 100000
set_option maxHeartbeats 4000000
/-! The law's end: from the evaluator's answer to the law. -/
namespace MI
open PySem PySem.Spec PyProof.Rows L2

/-- what is told of at the law's call: at most the script -/
structure Told (K : PySem.W.Frag) (a : Addr) (ns : List Int) (H : Hp) : Prop where
  one : ∀ b u, H b = some u → b = a ∧ (∃ o, u = .frz o (.lst (ns.map V.int))) ∧ K.lookup a = none
  sq : SqP K H a (ns.map V.int)
theorem told_call {P : Program} {w : World} {K : PySem.W.Frag} {mg mb : Str → Option Value} {k : Nat} {fa a : Addr} {fd : FuncData} {x : Str} {sp : Sp} {s₁ : Shared} {vs : List Value} {ns : List Int} {H : Hp} (X : K.In s₁.heap) (G : s₁.heap.Ns mainGlobals mg) (B : s₁.heap.Ns builtinsNs mb)
    (hb : ∀ x : Str, x ≠ "__name__" → mb x = bootBuiltins x) (nl : s₁.heap.NoLimit) (gn : s₁.gens = #[]) (hr : Room k callerA) (ob : s₁.heap.get? a = some { cls := .type "list", data := .seq vs.toArray }) (hok : HOk P w H s₁.heap) (td : Told K a ns H)
    (F : ∀ base : Heap, K.In base → base.Ns mainGlobals mg → FnG P w K mg base k fa fd [x] sp) (bd : ∀ (s : Shared) (u : Value), BindsTo s fd ⟨[u], []⟩ [(x, u)]) (q : sp [.ref a] H (fun v _ => v = .bl true) fun _ _ _ => False) :
    codeAny (model P w) callerA (.call (.ref fa) ⟨[.ref a], []⟩) (fun r s' => r = .ok (.ret (.bool true)) ∧ OldK s₁.heap s'.heap ∧ s'.os = s₁.os ∧ AllBare s'.gens) s₁ := by
  -- a thing of the module is not told of
  have far : ∀ {b : Addr}, b ≠ a → H b = none := fun {b} n => by
    cases e : H b with
    | none => rfl
    | some u => exact absurd (td.one b u e).1 n
  have dct : ∀ {b : Addr} {o : Obj} {es : Array DictEntry} {ep : Nat}, s₁.heap.get? b = some o → o.data = .dict es ep → H b = none := fun {b o es ep} e d => far fun z => by
    rw [z, ob] at e
    obtain rfl := Option.some.inj e
    exact nomatch d
  have space : ∀ {b : Addr} {m : Str → Option Value}, s₁.heap.Ns b m → (hidT s₁.heap H).Ns b m := fun {b m} z => by
    obtain ⟨o, es, ep, e, d, r⟩ := z
    exact ⟨o, es, ep, hidT_get e (dct e d), d, r⟩
  have own : K.In (hidT s₁.heap H) := fun b o e => hidT_get (X b o e) (by
    cases z : H b with
    | none => rfl
    | some u =>
      obtain ⟨rfl, _, n⟩ := td.one b u z
      rw [n] at e
      cases e)
  obtain ⟨ml, nl1, nl2⟩ := nl
  have env : Env0 P w K mg (hidT s₁.heap H) callerA [] s₁ H := {
    frames := rfl
    mod := { kin := own, glob := space G, blt := ⟨mb, space B, hb⟩, nolimit := ⟨ml, space nl1, nl2⟩ }
    bs := fun b o e => of_hidT e
    bsz := Nat.le_of_eq (hidT_size _ _)
    funs := trivial
    frf := fun b hb => nomatch hb
    hok := hok
    bare := .of_eq gn }
  have run := (F _ own (space G)).run callerA [] s₁ H ⟨[.ref a], []⟩ [.ref a] [.ref a] (fun v _ => v = .bl true) (fun _ _ _ => False) hr rfl env (bd s₁ (.ref a)) (.cons rfl .nil) q
  refine codeAny_mono run fun r s' h => ?_
  match r, h with
  | .error e, h =>
    obtain ⟨_, _, _, _, _, _, _, _, _, _, _, _, z⟩ := h
    exact z.elim
  | .ok .next, h => exact False.elim h
  | .ok .brk, h => exact False.elim h
  | .ok .cont, h => exact False.elim h
  | .ok (.ret u), h =>
    obtain ⟨v, H', os, bare, un, ok', rv, vt⟩ := h
    have vt : v = .bl true := vt
    rw [vt] at rv
    have rv : u = Value.bool true := rv
    refine ⟨by rw [rv], .of_keep fun b o e => ?_, os, bare⟩
    cases z : H b with
    | none => exact un.keep b o e z (fun y => nomatch y) (fun y => nomatch y)
    | some u =>
      obtain ⟨_, ⟨o2, rfl⟩, _⟩ := td.one b u z
      have h1 := (hok b _ z).1
      have h2 := (ok' b _ (un.frzs b o2 _ z)).1
      rw [e] at h1
      obtain rfl := Option.some.inj h1
      exact h2
theorem told_of {P : Program} {w : World} {K : PySem.W.Frag} {s₁ : Shared} {a : Addr} {vs : List Value} {ns : List Int} (X : K.In s₁.heap) (ob : s₁.heap.get? a = some { cls := .type "list", data := .seq vs.toArray }) (hi : IntsAre vs ns) (hl : ns.length ≤ sizeLine) :
    ∃ H, HOk P w H s₁.heap ∧ Told K a ns H := by
  have rv := vals_ints hi
  have lv := hi.length
  cases e : K.lookup a with
  | some o =>
    have h := X a o e
    rw [ob] at h
    obtain rfl := Option.some.inj h
    exact ⟨fun _ => none, fun b u z => (nomatch z), ⟨fun b u z => (nomatch z), .inr ⟨vs.toArray, _, e, by rw [List.size_toArray, lv]; exact hl, by simpa using rv⟩⟩⟩
  | none =>
    let o : Obj := { cls := .type "list", data := .seq vs.toArray }
    refine ⟨upd (fun _ => none) a (.frz o (.lst (ns.map V.int))), fun b u z => ?_, ⟨fun b u z => ?_, .inl (.inr ⟨o, upd_same⟩)⟩⟩
    · by_cases hb : b = a
      · subst hb
        rw [upd_same] at z
        obtain rfl := Option.some.inj z
        exact ⟨ob, by rw [List.length_map]; exact hl, vs, _, rv, ob⟩
      · rw [upd_ne hb] at z
        cases z
    · by_cases hb : b = a
      · subst hb
        rw [upd_same] at z
        obtain rfl := Option.some.inj z
        exact ⟨rfl, ⟨o, rfl⟩, e⟩
      · rw [upd_ne hb] at z
        cases z
/-- THE END: the evaluator's law answers True at every script -/
theorem law_end {l : PySem.W.OpenLaw} {n k i : Nat} {q : Program} {loose : List Str} {XP : (Str → Option Value) → Heap → Prop} {dr : DefRec} {x : Str} {hn : Nat} (m : Md) (ok : m.ok = true) (h1 : l.most = some n) (h2 : n ≤ sizeLine) (hdf : dr.params.defaults = []) (hr : Room k callerA)
    (hd : (m.sg[i]?).map (fun S => (S.name, S.ps)) = some (dr.name, [x])) (go : ∀ ns : List Int, ns.length ≤ n → (∀ z ∈ ns, Builtin.Int.intBits z ≤ 1048576) → ∃ os s, run m.fns k i [.d (.lst (ns.map .int))] = .ok (.d (.bl true), os) s) :
    PySem.W.WalkO q loose XP (He.hookD hn m.fa m.fn).says l.row.toRowW dr [] (fun f vs => PySem.call f vs) := by
  refine Att.attach_callB h1 hdf fun w s₀ s₁ mg mb fa o pm cd doc a vs ns Gr Y ho hdt hcd hmg hobj hints hlen hbits hg => ?_
  obtain ⟨K, X, c⟩ := Y
  have M := md_ok ok X Gr.T.g c
  obtain ⟨S, hS, e⟩ := Option.map_eq_some_iff.mp hd
  obtain ⟨fS, _, FF⟩ := M.fn i S hS
  obtain ⟨e1, e2⟩ := Prod.mk.inj e
  have fa_eq : fa = (m.g K).fa i := by
    have h := FF.mg
    rw [show S.name = dr.name from e1, hmg] at h
    exact Value.ref.inj (Option.some.inj h)
  subst fa_eq
  obtain ⟨fd, as, p1, p2, p3, p4, F0, oc, od, osl, lk⟩ := run_ok (P := l.prog) (w := w) (base := s₁.heap) M k i S hS
  obtain ⟨H, hok, td⟩ := told_of (P := l.prog) (w := w) X hobj hints (Nat.le_trans hlen h2)
  have e2 : S.ps = [x] := e2
  refine told_call (x := x) (fd := fd) X Gr.T.g Gr.T.b Gr.T.builtins Gr.T.nolimit hg hr hobj hok td (sp := spF (m.g K) (run m.fns k) i) (fun base X2 G2 => ?_) (fun s u => ?_) ?_
  · obtain ⟨fd2, as2, _, _, _, _, F2, oc2, od2, osl2, lk2⟩ := run_ok (P := l.prog) (w := w) (base := base) M k i S hS
    rw [lk] at lk2
    cases lk2
    rw [e2] at F2
    exact F2
  · have b := bind_pos (us := [u]) p1 p2 p3 p4 (by rw [e2]; rfl) s
    rw [e2] at b
    exact b
  · obtain ⟨os, s, e⟩ := go ns hlen hbits
    refine ⟨H, [.d (.lst (ns.map .int))], ⟨rfl, Same.refl _, fun j v h => ?_, fun j j' t u xs ys b h1 h2 h3 h4 => ?_⟩, ?_⟩
    · cases j with
      | zero =>
        cases h
        exact ⟨_, rfl, .lst td.sq (ints_rd ns)⟩
      | succ j => cases h
    · cases j with
      | zero => cases h1
      | succ j => cases h1
    · rw [e]
      intro Z' H' x _ _ _ rf
      have r : RD (m.g K) Z' (.bl true) x := rf.1
      cases r
      rfl
end MI

set_option Elab.async false
set_option linter.all false
set_option maxRecDepth 100000
set_option maxHeartbeats 4000000
/-! Steps of the evaluator as rules for simp; loops. -/
namespace MI
/-! the evaluator, closed: nothing unfolds it but the rules below -/
structure Ev where
  E : T → S → R Vl
  L : T → S → R (List D)
  A : T → S → R (List Ag)
  V : T → S → R (List Vl)
  P : T → S → R (Option Int)
  I : T → S → R (List D)
  B : T → D → S → O
  Bs : T → List D → S → O
  X : T → S → O
def evR (Φ : Call) : Ev := ⟨evE Φ, evL Φ, evA Φ, evV Φ, evP Φ, evI Φ, bindP Φ, bindPs Φ, exS Φ⟩
theorem ev_ex : ∃ f : Call → Ev, f = evR := ⟨evR, rfl⟩
noncomputable def evO : Call → Ev := Classical.choose ev_ex
theorem evO_eq : evO = evR := Classical.choose_spec ev_ex
noncomputable def oE (Φ : Call) : T → S → R Vl := (evO Φ).E
noncomputable def oL (Φ : Call) : T → S → R (List D) := (evO Φ).L
noncomputable def oA (Φ : Call) : T → S → R (List Ag) := (evO Φ).A
noncomputable def oV (Φ : Call) : T → S → R (List Vl) := (evO Φ).V
noncomputable def oP (Φ : Call) : T → S → R (Option Int) := (evO Φ).P
noncomputable def oI (Φ : Call) : T → S → R (List D) := (evO Φ).I
noncomputable def oB (Φ : Call) : T → D → S → O := (evO Φ).B
noncomputable def oBs (Φ : Call) : T → List D → S → O := (evO Φ).Bs
noncomputable def oX (Φ : Call) : T → S → O := (evO Φ).X
theorem oE_eq : oE = evE := by funext Φ; unfold oE; rw [evO_eq]; rfl
theorem oL_eq : oL = evL := by funext Φ; unfold oL; rw [evO_eq]; rfl
theorem oA_eq : oA = evA := by funext Φ; unfold oA; rw [evO_eq]; rfl
theorem oV_eq : oV = evV := by funext Φ; unfold oV; rw [evO_eq]; rfl
theorem oP_eq : oP = evP := by funext Φ; unfold oP; rw [evO_eq]; rfl
theorem oI_eq : oI = evI := by funext Φ; unfold oI; rw [evO_eq]; rfl
theorem oB_eq : oB = bindP := by funext Φ; unfold oB; rw [evO_eq]; rfl
theorem oBs_eq : oBs = bindPs := by funext Φ; unfold oBs; rw [evO_eq]; rfl
theorem oX_eq : oX = exS := by funext Φ; unfold oX; rw [evO_eq]; rfl
theorem run_ex : ∃ f : List Fn → Nat → Call, f = run := ⟨run, rfl⟩
noncomputable def oRun : List Fn → Nat → Call := Classical.choose run_ex
theorem oRun_eq : oRun = run := Classical.choose_spec run_ex
/-- a turn of a for, of a while -/
noncomputable def oF (Φ : Call) (p b : T) : D → S → O := fun x s => match onlyN (oB Φ p x s) with
      | .nx s => oX Φ b s
      | o => o
noncomputable def oW (Φ : Call) (tc tb : T) : S → O := fun s => match oE Φ tc s with
    | .ok v s => (match tru v.dat with
      | some true => (match oX Φ tb s with | .ct s => .nx s | o => o)
      | some false => .bk s
      | none => .no)
    | .ex c fs s => .ex c fs s
    | .no => .no
theorem oW_eq : oW = stepW := by
  funext Φ a b s
  unfold oW
  rw [oE_eq, oX_eq]
  rfl
theorem oF_eq : oF = stepF := by
  funext Φ a b x s
  unfold oF
  rw [oB_eq, oX_eq]
  rfl
section
variable {Φ : Call} {s s' : S}
@[simp] theorem isVar_con (x : D) : isVar (.con x) = false := rfl
@[simp] theorem isVar_bin (op : PySem.Operator) (a b : T) : isVar (.bin op a b) = false := rfl
@[simp] theorem isVar_neg (a : T) : isVar (.neg a) = false := rfl
@[simp] theorem isVar_nt (a : T) : isVar (.nt a) = false := rfl
@[simp] theorem isVar_cmp (op : PySem.CmpOp) (a b : T) : isVar (.cmp op a b) = false := rfl
@[simp] theorem isVar_chain (op op' : PySem.CmpOp) (a b c : T) : isVar (.chain op op' a b c) = false := rfl
@[simp] theorem isVar_and (a b : T) : isVar (.and a b) = false := rfl
@[simp] theorem isVar_or (a b : T) : isVar (.or a b) = false := rfl
@[simp] theorem isVar_ite (a b c : T) : isVar (.ite a b c) = false := rfl
@[simp] theorem isVar_tup (a : T) : isVar (.tup a) = false := rfl
@[simp] theorem isVar_lst (a : T) : isVar (.lst a) = false := rfl
@[simp] theorem isVar_idx (a b : T) : isVar (.idx a b) = false := rfl
@[simp] theorem isVar_slc (a b c : T) : isVar (.slc a b c) = false := rfl
@[simp] theorem isVar_call (f : Nat) (a : T) : isVar (.call f a) = false := rfl
@[simp] theorem isVar_callk (f : Nat) (p : List Nat) (a b : T) : isVar (.callk f p a b) = false := rfl
@[simp] theorem isVar_bf (f : Bf) (a : T) : isVar (.bf f a) = false := rfl
@[simp] theorem isVar_comp (o : List Nat) (p i c e : T) : isVar (.comp o p i c e) = false := rfl
@[simp] theorem bind_ok' {α β : Type} (a : α) (s : S) (f : α → S → R β) : (R.ok a s).bind f = f a s := rfl
@[simp] theorem bind_ex' {α β : Type} (c : Nat) (fs : List D) (s : S) (f : α → S → R β) : (R.ex c fs s : R α).bind f = .ex c fs s := rfl
@[simp] theorem bind_no' {α β : Type} (f : α → S → R β) : (R.no : R α).bind f = .no := rfl
@[simp] theorem ofO_some' {α : Type} (a : α) (s : S) : R.ofO (some a) s = .ok a s := rfl
@[simp] theorem ofO_none' {α : Type} (s : S) : R.ofO (none : Option α) s = .no := rfl
@[simp] theorem dat_d (x : D) : (Vl.d x).dat = x := rfl
@[simp] theorem dat_own (t : Bool) (x : List D) : (Vl.own t x).dat = .lst x := rfl
@[simp] theorem dat_fz (x : List D) : (Vl.fz x).dat = .lst x := rfl
@[simp] theorem fr_d (x : D) : (Vl.d x).fresh = .d x := rfl
@[simp] theorem fr_own (t : Bool) (x : List D) : (Vl.own t x).fresh = .own false x := rfl
@[simp] theorem fr_fz (x : List D) : (Vl.fz x).fresh = .d (.lst x) := rfl
@[simp] theorem e_var (i : Nat) : oE Φ (.var i) s = rdV i s := by
  (try simp only [oE_eq, oL_eq, oA_eq, oV_eq, oP_eq, oI_eq, oB_eq, oBs_eq, oX_eq, oW_eq, oF_eq])
  first | done | rfl
@[simp] theorem e_con (x : D) : oE Φ (.con x) s = .ok (.d x) s := by
  (try simp only [oE_eq, oL_eq, oA_eq, oV_eq, oP_eq, oI_eq, oB_eq, oBs_eq, oX_eq, oW_eq, oF_eq])
  first | done | rfl
@[simp] theorem e_bin (op : PySem.Operator) (a b : T) : oE Φ (.bin op a b) s = (oE Φ a s).bind fun x s => (oE Φ b s).bind fun y s => R.ofO (bin op x.dat y.dat) s := by
  (try simp only [oE_eq, oL_eq, oA_eq, oV_eq, oP_eq, oI_eq, oB_eq, oBs_eq, oX_eq, oW_eq, oF_eq])
  first | done | rfl
@[simp] theorem e_neg (a : T) : oE Φ (.neg a) s = (oE Φ a s).bind fun x s => match x with
    | .d (.int i) => .ok (.d (.int (-i))) s
    | _ => .no := by
  (try simp only [oE_eq, oL_eq, oA_eq, oV_eq, oP_eq, oI_eq, oB_eq, oBs_eq, oX_eq, oW_eq, oF_eq])
  first | done | rfl
@[simp] theorem e_nt (a : T) : oE Φ (.nt a) s = (oE Φ a s).bind fun x s => R.ofO ((tru x.dat).map fun b => .d (.bl (!b))) s := by
  (try simp only [oE_eq, oL_eq, oA_eq, oV_eq, oP_eq, oI_eq, oB_eq, oBs_eq, oX_eq, oW_eq, oF_eq])
  first | done | rfl
@[simp] theorem e_cmp (op : PySem.CmpOp) (a b : T) : oE Φ (.cmp op a b) s = (oE Φ a s).bind fun x s => (oE Φ b s).bind fun y s => R.ofO ((cmp op x.dat y.dat).map fun b => .d (.bl b)) s := by
  (try simp only [oE_eq, oL_eq, oA_eq, oV_eq, oP_eq, oI_eq, oB_eq, oBs_eq, oX_eq, oW_eq, oF_eq])
  first | done | rfl
/-- three ways -/
def onB {α : Type} (o : Option Bool) (t f n : α) : α := match o with
  | some true => t
  | some false => f
  | none => n
@[simp] theorem onB_some {α : Type} (b : Bool) (t f n : α) : onB (some b) t f n = if b = true then t else f := by cases b <;> rfl
@[simp] theorem e_chain (op op' : PySem.CmpOp) (a b c : T) : oE Φ (.chain op op' a b c) s = (oE Φ a s).bind fun x s => (oE Φ b s).bind fun y s => onB (cmp op x.dat y.dat) ((oE Φ c s).bind fun z s => R.ofO ((cmp op' y.dat z.dat).map fun b => .d (.bl b)) s) (.ok (.d (.bl false)) s) .no := by
  (try simp only [oE_eq, oL_eq, oA_eq, oV_eq, oP_eq, oI_eq, oB_eq, oBs_eq, oX_eq, oW_eq, oF_eq])
  first | done | rfl
@[simp] theorem e_and (a b : T) : oE Φ (.and a b) s = (oE Φ a s).bind fun x s => onB (tru x.dat) (oE Φ b s) (.ok (.d x.dat) s) .no := by
  (try simp only [oE_eq, oL_eq, oA_eq, oV_eq, oP_eq, oI_eq, oB_eq, oBs_eq, oX_eq, oW_eq, oF_eq])
  first | done | rfl
@[simp] theorem e_or (a b : T) : oE Φ (.or a b) s = (oE Φ a s).bind fun x s => onB (tru x.dat) (.ok (.d x.dat) s) (oE Φ b s) .no := by
  (try simp only [oE_eq, oL_eq, oA_eq, oV_eq, oP_eq, oI_eq, oB_eq, oBs_eq, oX_eq, oW_eq, oF_eq])
  first | done | rfl
@[simp] theorem e_ite (c a b : T) : oE Φ (.ite c a b) s = (oE Φ c s).bind fun x s => onB (tru x.dat) (oE Φ a s) (oE Φ b s) .no := by
  (try simp only [oE_eq, oL_eq, oA_eq, oV_eq, oP_eq, oI_eq, oB_eq, oBs_eq, oX_eq, oW_eq, oF_eq])
  first | done | rfl
@[simp] theorem e_tup (es : T) : oE Φ (.tup es) s = (oL Φ es s).bind fun xs s => if fitsL xs.length then .ok (.d (.tup xs)) s else .no := by
  (try simp only [oE_eq, oL_eq, oA_eq, oV_eq, oP_eq, oI_eq, oB_eq, oBs_eq, oX_eq, oW_eq, oF_eq])
  first | done | rfl
@[simp] theorem e_lst (es : T) : oE Φ (.lst es) s = (oL Φ es s).bind fun xs s => if fitsL xs.length then .ok (.own false xs) s else .no := by
  (try simp only [oE_eq, oL_eq, oA_eq, oV_eq, oP_eq, oI_eq, oB_eq, oBs_eq, oX_eq, oW_eq, oF_eq])
  first | done | rfl
@[simp] theorem e_idxV (i : Nat) (e : T) : oE Φ (.idx (.var i) e) s = match peek i s with
    | none => .no
    | some _ => (oE Φ e s).bind fun y s => match peek i s with
      | some x => R.ofO ((index x y.dat).map .d) s
      | none => .no := by
  (try simp only [oE_eq, oL_eq, oA_eq, oV_eq, oP_eq, oI_eq, oB_eq, oBs_eq, oX_eq, oW_eq, oF_eq])
  first | done | rfl
theorem e_idx (a e : T) (h : isVar a = false) : oE Φ (.idx a e) s = (oE Φ a s).bind fun x s => (oE Φ e s).bind fun y s => R.ofO ((index x.dat y.dat).map .d) s := by
  simp only [oE_eq, oL_eq, oA_eq, oV_eq, oP_eq, oI_eq, oB_eq, oBs_eq, oX_eq]
  cases a <;> first | rfl | cases h
@[simp] theorem e_slc (a lo hi : T) : oE Φ (.slc a lo hi) s = (oE Φ a s).bind fun x s => (oP Φ lo s).bind fun l s => (oP Φ hi s).bind fun h s => R.ofO (slice x.dat l h) s := by
  (try simp only [oE_eq, oL_eq, oA_eq, oV_eq, oP_eq, oI_eq, oB_eq, oBs_eq, oX_eq, oW_eq, oF_eq])
  first | done | rfl
@[simp] theorem e_call (f : Nat) (args : T) : oE Φ (.call f args) s = (oA Φ args s).bind fun vs s => match lend vs s with
    | none => .no
    | some (us, _) => match Φ f us with
      | .ok (v, os) _ => .ok v (back vs os s)
      | .ex c fs os => .ex c fs (back vs os s)
      | .no => .no := by
  (try simp only [oE_eq, oL_eq, oA_eq, oV_eq, oP_eq, oI_eq, oB_eq, oBs_eq, oX_eq, oW_eq, oF_eq])
  first | done | rfl
@[simp] theorem e_callk (f : Nat) (perm : List Nat) (args kw : T) : oE Φ (.callk f perm args kw) s = (oL Φ args s).bind fun xs s => (oL Φ kw s).bind fun ys s => match Φ f ((pick perm (xs ++ ys)).map .d) with
    | .ok (v, _) _ => .ok v s
    | .ex c fs _ => .ex c fs s
    | .no => .no := by
  (try simp only [oE_eq, oL_eq, oA_eq, oV_eq, oP_eq, oI_eq, oB_eq, oBs_eq, oX_eq, oW_eq, oF_eq])
  first | done | rfl
@[simp] theorem e_bfV (b : Bf) (i : Nat) : oE Φ (.bf b (.cons (.var i) .nil)) s = match peek i s with
    | some x => R.ofO (bf1 b [x]) s
    | none => .no := by
  (try simp only [oE_eq, oL_eq, oA_eq, oV_eq, oP_eq, oI_eq, oB_eq, oBs_eq, oX_eq, oW_eq, oF_eq])
  first | done | rfl
theorem e_bf (b : Bf) (args : T) (h : isVar1 args = false) : oE Φ (.bf b args) s = (oL Φ args s).bind fun xs s => R.ofO (bf1 b xs) s := by
  simp only [oE_eq, oL_eq, oA_eq, oV_eq, oP_eq, oI_eq, oB_eq, oBs_eq, oX_eq]
  cases args with
  | cons a r => cases a <;> first | rfl | (cases r <;> first | rfl | cases h)
  | _ => rfl
@[simp] theorem l_nil' : oL Φ .nil s = .ok [] s := by
  (try simp only [oE_eq, oL_eq, oA_eq, oV_eq, oP_eq, oI_eq, oB_eq, oBs_eq, oX_eq, oW_eq, oF_eq])
  first | done | rfl
@[simp] theorem l_cons' (a r : T) : oL Φ (.cons a r) s = (oE Φ a s).bind fun x s => (oL Φ r s).bind fun xs s => .ok (x.dat :: xs) s := by
  (try simp only [oE_eq, oL_eq, oA_eq, oV_eq, oP_eq, oI_eq, oB_eq, oBs_eq, oX_eq, oW_eq, oF_eq])
  first | done | rfl
@[simp] theorem v_nil' : oV Φ .nil s = .ok [] s := by
  (try simp only [oE_eq, oL_eq, oA_eq, oV_eq, oP_eq, oI_eq, oB_eq, oBs_eq, oX_eq, oW_eq, oF_eq])
  first | done | rfl
@[simp] theorem v_cons' (a r : T) : oV Φ (.cons a r) s = (oE Φ a s).bind fun x s => (oV Φ r s).bind fun vs s => .ok (x :: vs) s := by
  (try simp only [oE_eq, oL_eq, oA_eq, oV_eq, oP_eq, oI_eq, oB_eq, oBs_eq, oX_eq, oW_eq, oF_eq])
  first | done | rfl
@[simp] theorem a_nil' : oA Φ .nil s = .ok [] s := by
  (try simp only [oE_eq, oL_eq, oA_eq, oV_eq, oP_eq, oI_eq, oB_eq, oBs_eq, oX_eq, oW_eq, oF_eq])
  first | done | rfl
@[simp] theorem a_consV (i : Nat) (r : T) : oA Φ (.cons (.var i) r) s = match s[i]? with
    | some (some (.own _ _)) => (oA Φ r s).bind fun vs s => .ok (.ref i :: vs) s
    | _ => (rdV i s).bind fun x s => (oA Φ r s).bind fun vs s => .ok (.val x :: vs) s := by
  (try simp only [oE_eq, oL_eq, oA_eq, oV_eq, oP_eq, oI_eq, oB_eq, oBs_eq, oX_eq, oW_eq, oF_eq])
  first | done | rfl
theorem a_cons' (a r : T) (h : isVar a = false) : oA Φ (.cons a r) s = (oE Φ a s).bind fun x s => (oA Φ r s).bind fun vs s => .ok (.val x :: vs) s := by
  simp only [oE_eq, oL_eq, oA_eq, oV_eq, oP_eq, oI_eq, oB_eq, oBs_eq, oX_eq]
  cases a <;> first | rfl | cases h
@[simp] theorem a_cons_con (x1 : D) (r : T) : oA Φ (.cons (.con x1) r) s = (oE Φ (.con x1) s).bind fun x s => (oA Φ r s).bind fun vs s => .ok (.val x :: vs) s := by
  (try simp only [oE_eq, oL_eq, oA_eq, oV_eq, oP_eq, oI_eq, oB_eq, oBs_eq, oX_eq, oW_eq, oF_eq])
  first | done | rfl
@[simp] theorem a_cons_bin (op : PySem.Operator) (a1 b1 : T) (r : T) : oA Φ (.cons (.bin op a1 b1) r) s = (oE Φ (.bin op a1 b1) s).bind fun x s => (oA Φ r s).bind fun vs s => .ok (.val x :: vs) s := by
  (try simp only [oE_eq, oL_eq, oA_eq, oV_eq, oP_eq, oI_eq, oB_eq, oBs_eq, oX_eq, oW_eq, oF_eq])
  first | done | rfl
@[simp] theorem a_cons_neg (a1 : T) (r : T) : oA Φ (.cons (.neg a1) r) s = (oE Φ (.neg a1) s).bind fun x s => (oA Φ r s).bind fun vs s => .ok (.val x :: vs) s := by
  (try simp only [oE_eq, oL_eq, oA_eq, oV_eq, oP_eq, oI_eq, oB_eq, oBs_eq, oX_eq, oW_eq, oF_eq])
  first | done | rfl
@[simp] theorem a_cons_nt (a1 : T) (r : T) : oA Φ (.cons (.nt a1) r) s = (oE Φ (.nt a1) s).bind fun x s => (oA Φ r s).bind fun vs s => .ok (.val x :: vs) s := by
  (try simp only [oE_eq, oL_eq, oA_eq, oV_eq, oP_eq, oI_eq, oB_eq, oBs_eq, oX_eq, oW_eq, oF_eq])
  first | done | rfl
@[simp] theorem a_cons_cmp (op : PySem.CmpOp) (a1 b1 : T) (r : T) : oA Φ (.cons (.cmp op a1 b1) r) s = (oE Φ (.cmp op a1 b1) s).bind fun x s => (oA Φ r s).bind fun vs s => .ok (.val x :: vs) s := by
  (try simp only [oE_eq, oL_eq, oA_eq, oV_eq, oP_eq, oI_eq, oB_eq, oBs_eq, oX_eq, oW_eq, oF_eq])
  first | done | rfl
@[simp] theorem a_cons_chain (op op' : PySem.CmpOp) (a1 b1 c1 : T) (r : T) : oA Φ (.cons (.chain op op' a1 b1 c1) r) s = (oE Φ (.chain op op' a1 b1 c1) s).bind fun x s => (oA Φ r s).bind fun vs s => .ok (.val x :: vs) s := by
  (try simp only [oE_eq, oL_eq, oA_eq, oV_eq, oP_eq, oI_eq, oB_eq, oBs_eq, oX_eq, oW_eq, oF_eq])
  first | done | rfl
@[simp] theorem a_cons_and (a1 b1 : T) (r : T) : oA Φ (.cons (.and a1 b1) r) s = (oE Φ (.and a1 b1) s).bind fun x s => (oA Φ r s).bind fun vs s => .ok (.val x :: vs) s := by
  (try simp only [oE_eq, oL_eq, oA_eq, oV_eq, oP_eq, oI_eq, oB_eq, oBs_eq, oX_eq, oW_eq, oF_eq])
  first | done | rfl
@[simp] theorem a_cons_or (a1 b1 : T) (r : T) : oA Φ (.cons (.or a1 b1) r) s = (oE Φ (.or a1 b1) s).bind fun x s => (oA Φ r s).bind fun vs s => .ok (.val x :: vs) s := by
  (try simp only [oE_eq, oL_eq, oA_eq, oV_eq, oP_eq, oI_eq, oB_eq, oBs_eq, oX_eq, oW_eq, oF_eq])
  first | done | rfl
@[simp] theorem a_cons_ite (a1 b1 c1 : T) (r : T) : oA Φ (.cons (.ite a1 b1 c1) r) s = (oE Φ (.ite a1 b1 c1) s).bind fun x s => (oA Φ r s).bind fun vs s => .ok (.val x :: vs) s := by
  (try simp only [oE_eq, oL_eq, oA_eq, oV_eq, oP_eq, oI_eq, oB_eq, oBs_eq, oX_eq, oW_eq, oF_eq])
  first | done | rfl
@[simp] theorem a_cons_tup (a1 : T) (r : T) : oA Φ (.cons (.tup a1) r) s = (oE Φ (.tup a1) s).bind fun x s => (oA Φ r s).bind fun vs s => .ok (.val x :: vs) s := by
  (try simp only [oE_eq, oL_eq, oA_eq, oV_eq, oP_eq, oI_eq, oB_eq, oBs_eq, oX_eq, oW_eq, oF_eq])
  first | done | rfl
@[simp] theorem a_cons_lst (a1 : T) (r : T) : oA Φ (.cons (.lst a1) r) s = (oE Φ (.lst a1) s).bind fun x s => (oA Φ r s).bind fun vs s => .ok (.val x :: vs) s := by
  (try simp only [oE_eq, oL_eq, oA_eq, oV_eq, oP_eq, oI_eq, oB_eq, oBs_eq, oX_eq, oW_eq, oF_eq])
  first | done | rfl
@[simp] theorem a_cons_idx (a1 b1 : T) (r : T) : oA Φ (.cons (.idx a1 b1) r) s = (oE Φ (.idx a1 b1) s).bind fun x s => (oA Φ r s).bind fun vs s => .ok (.val x :: vs) s := by
  (try simp only [oE_eq, oL_eq, oA_eq, oV_eq, oP_eq, oI_eq, oB_eq, oBs_eq, oX_eq, oW_eq, oF_eq])
  first | done | rfl
@[simp] theorem a_cons_slc (a1 b1 c1 : T) (r : T) : oA Φ (.cons (.slc a1 b1 c1) r) s = (oE Φ (.slc a1 b1 c1) s).bind fun x s => (oA Φ r s).bind fun vs s => .ok (.val x :: vs) s := by
  (try simp only [oE_eq, oL_eq, oA_eq, oV_eq, oP_eq, oI_eq, oB_eq, oBs_eq, oX_eq, oW_eq, oF_eq])
  first | done | rfl
@[simp] theorem a_cons_call (f1 : Nat) (a1 : T) (r : T) : oA Φ (.cons (.call f1 a1) r) s = (oE Φ (.call f1 a1) s).bind fun x s => (oA Φ r s).bind fun vs s => .ok (.val x :: vs) s := by
  (try simp only [oE_eq, oL_eq, oA_eq, oV_eq, oP_eq, oI_eq, oB_eq, oBs_eq, oX_eq, oW_eq, oF_eq])
  first | done | rfl
@[simp] theorem a_cons_callk (f1 : Nat) (p1 : List Nat) (a1 b1 : T) (r : T) : oA Φ (.cons (.callk f1 p1 a1 b1) r) s = (oE Φ (.callk f1 p1 a1 b1) s).bind fun x s => (oA Φ r s).bind fun vs s => .ok (.val x :: vs) s := by
  (try simp only [oE_eq, oL_eq, oA_eq, oV_eq, oP_eq, oI_eq, oB_eq, oBs_eq, oX_eq, oW_eq, oF_eq])
  first | done | rfl
@[simp] theorem a_cons_bf (f1 : Bf) (a1 : T) (r : T) : oA Φ (.cons (.bf f1 a1) r) s = (oE Φ (.bf f1 a1) s).bind fun x s => (oA Φ r s).bind fun vs s => .ok (.val x :: vs) s := by
  (try simp only [oE_eq, oL_eq, oA_eq, oV_eq, oP_eq, oI_eq, oB_eq, oBs_eq, oX_eq, oW_eq, oF_eq])
  first | done | rfl
@[simp] theorem a_cons_comp (o1 : List Nat) (p1 i1 c1 e1 : T) (r : T) : oA Φ (.cons (.comp o1 p1 i1 c1 e1) r) s = (oE Φ (.comp o1 p1 i1 c1 e1) s).bind fun x s => (oA Φ r s).bind fun vs s => .ok (.val x :: vs) s := by
  (try simp only [oE_eq, oL_eq, oA_eq, oV_eq, oP_eq, oI_eq, oB_eq, oBs_eq, oX_eq, oW_eq, oF_eq])
  first | done | rfl
@[simp] theorem e_idx_con (x1 : D) (e : T) : oE Φ (.idx (.con x1) e) s = (oE Φ (.con x1) s).bind fun x s => (oE Φ e s).bind fun y s => R.ofO ((index x.dat y.dat).map Vl.d) s := by
  (try simp only [oE_eq, oL_eq, oA_eq, oV_eq, oP_eq, oI_eq, oB_eq, oBs_eq, oX_eq, oW_eq, oF_eq])
  first | done | rfl
@[simp] theorem e_idx_bin (op : PySem.Operator) (a1 b1 : T) (e : T) : oE Φ (.idx (.bin op a1 b1) e) s = (oE Φ (.bin op a1 b1) s).bind fun x s => (oE Φ e s).bind fun y s => R.ofO ((index x.dat y.dat).map Vl.d) s := by
  (try simp only [oE_eq, oL_eq, oA_eq, oV_eq, oP_eq, oI_eq, oB_eq, oBs_eq, oX_eq, oW_eq, oF_eq])
  first | done | rfl
@[simp] theorem e_idx_neg (a1 : T) (e : T) : oE Φ (.idx (.neg a1) e) s = (oE Φ (.neg a1) s).bind fun x s => (oE Φ e s).bind fun y s => R.ofO ((index x.dat y.dat).map Vl.d) s := by
  (try simp only [oE_eq, oL_eq, oA_eq, oV_eq, oP_eq, oI_eq, oB_eq, oBs_eq, oX_eq, oW_eq, oF_eq])
  first | done | rfl
@[simp] theorem e_idx_nt (a1 : T) (e : T) : oE Φ (.idx (.nt a1) e) s = (oE Φ (.nt a1) s).bind fun x s => (oE Φ e s).bind fun y s => R.ofO ((index x.dat y.dat).map Vl.d) s := by
  (try simp only [oE_eq, oL_eq, oA_eq, oV_eq, oP_eq, oI_eq, oB_eq, oBs_eq, oX_eq, oW_eq, oF_eq])
  first | done | rfl
@[simp] theorem e_idx_cmp (op : PySem.CmpOp) (a1 b1 : T) (e : T) : oE Φ (.idx (.cmp op a1 b1) e) s = (oE Φ (.cmp op a1 b1) s).bind fun x s => (oE Φ e s).bind fun y s => R.ofO ((index x.dat y.dat).map Vl.d) s := by
  (try simp only [oE_eq, oL_eq, oA_eq, oV_eq, oP_eq, oI_eq, oB_eq, oBs_eq, oX_eq, oW_eq, oF_eq])
  first | done | rfl
@[simp] theorem e_idx_chain (op op' : PySem.CmpOp) (a1 b1 c1 : T) (e : T) : oE Φ (.idx (.chain op op' a1 b1 c1) e) s = (oE Φ (.chain op op' a1 b1 c1) s).bind fun x s => (oE Φ e s).bind fun y s => R.ofO ((index x.dat y.dat).map Vl.d) s := by
  (try simp only [oE_eq, oL_eq, oA_eq, oV_eq, oP_eq, oI_eq, oB_eq, oBs_eq, oX_eq, oW_eq, oF_eq])
  first | done | rfl
@[simp] theorem e_idx_and (a1 b1 : T) (e : T) : oE Φ (.idx (.and a1 b1) e) s = (oE Φ (.and a1 b1) s).bind fun x s => (oE Φ e s).bind fun y s => R.ofO ((index x.dat y.dat).map Vl.d) s := by
  (try simp only [oE_eq, oL_eq, oA_eq, oV_eq, oP_eq, oI_eq, oB_eq, oBs_eq, oX_eq, oW_eq, oF_eq])
  first | done | rfl
@[simp] theorem e_idx_or (a1 b1 : T) (e : T) : oE Φ (.idx (.or a1 b1) e) s = (oE Φ (.or a1 b1) s).bind fun x s => (oE Φ e s).bind fun y s => R.ofO ((index x.dat y.dat).map Vl.d) s := by
  (try simp only [oE_eq, oL_eq, oA_eq, oV_eq, oP_eq, oI_eq, oB_eq, oBs_eq, oX_eq, oW_eq, oF_eq])
  first | done | rfl
@[simp] theorem e_idx_ite (a1 b1 c1 : T) (e : T) : oE Φ (.idx (.ite a1 b1 c1) e) s = (oE Φ (.ite a1 b1 c1) s).bind fun x s => (oE Φ e s).bind fun y s => R.ofO ((index x.dat y.dat).map Vl.d) s := by
  (try simp only [oE_eq, oL_eq, oA_eq, oV_eq, oP_eq, oI_eq, oB_eq, oBs_eq, oX_eq, oW_eq, oF_eq])
  first | done | rfl
@[simp] theorem e_idx_tup (a1 : T) (e : T) : oE Φ (.idx (.tup a1) e) s = (oE Φ (.tup a1) s).bind fun x s => (oE Φ e s).bind fun y s => R.ofO ((index x.dat y.dat).map Vl.d) s := by
  (try simp only [oE_eq, oL_eq, oA_eq, oV_eq, oP_eq, oI_eq, oB_eq, oBs_eq, oX_eq, oW_eq, oF_eq])
  first | done | rfl
@[simp] theorem e_idx_lst (a1 : T) (e : T) : oE Φ (.idx (.lst a1) e) s = (oE Φ (.lst a1) s).bind fun x s => (oE Φ e s).bind fun y s => R.ofO ((index x.dat y.dat).map Vl.d) s := by
  (try simp only [oE_eq, oL_eq, oA_eq, oV_eq, oP_eq, oI_eq, oB_eq, oBs_eq, oX_eq, oW_eq, oF_eq])
  first | done | rfl
@[simp] theorem e_idx_idx (a1 b1 : T) (e : T) : oE Φ (.idx (.idx a1 b1) e) s = (oE Φ (.idx a1 b1) s).bind fun x s => (oE Φ e s).bind fun y s => R.ofO ((index x.dat y.dat).map Vl.d) s := by
  (try simp only [oE_eq, oL_eq, oA_eq, oV_eq, oP_eq, oI_eq, oB_eq, oBs_eq, oX_eq, oW_eq, oF_eq])
  first | done | rfl
@[simp] theorem e_idx_slc (a1 b1 c1 : T) (e : T) : oE Φ (.idx (.slc a1 b1 c1) e) s = (oE Φ (.slc a1 b1 c1) s).bind fun x s => (oE Φ e s).bind fun y s => R.ofO ((index x.dat y.dat).map Vl.d) s := by
  (try simp only [oE_eq, oL_eq, oA_eq, oV_eq, oP_eq, oI_eq, oB_eq, oBs_eq, oX_eq, oW_eq, oF_eq])
  first | done | rfl
@[simp] theorem e_idx_call (f1 : Nat) (a1 : T) (e : T) : oE Φ (.idx (.call f1 a1) e) s = (oE Φ (.call f1 a1) s).bind fun x s => (oE Φ e s).bind fun y s => R.ofO ((index x.dat y.dat).map Vl.d) s := by
  (try simp only [oE_eq, oL_eq, oA_eq, oV_eq, oP_eq, oI_eq, oB_eq, oBs_eq, oX_eq, oW_eq, oF_eq])
  first | done | rfl
@[simp] theorem e_idx_callk (f1 : Nat) (p1 : List Nat) (a1 b1 : T) (e : T) : oE Φ (.idx (.callk f1 p1 a1 b1) e) s = (oE Φ (.callk f1 p1 a1 b1) s).bind fun x s => (oE Φ e s).bind fun y s => R.ofO ((index x.dat y.dat).map Vl.d) s := by
  (try simp only [oE_eq, oL_eq, oA_eq, oV_eq, oP_eq, oI_eq, oB_eq, oBs_eq, oX_eq, oW_eq, oF_eq])
  first | done | rfl
@[simp] theorem e_idx_bf (f1 : Bf) (a1 : T) (e : T) : oE Φ (.idx (.bf f1 a1) e) s = (oE Φ (.bf f1 a1) s).bind fun x s => (oE Φ e s).bind fun y s => R.ofO ((index x.dat y.dat).map Vl.d) s := by
  (try simp only [oE_eq, oL_eq, oA_eq, oV_eq, oP_eq, oI_eq, oB_eq, oBs_eq, oX_eq, oW_eq, oF_eq])
  first | done | rfl
@[simp] theorem e_idx_comp (o1 : List Nat) (p1 i1 c1 e1 : T) (e : T) : oE Φ (.idx (.comp o1 p1 i1 c1 e1) e) s = (oE Φ (.comp o1 p1 i1 c1 e1) s).bind fun x s => (oE Φ e s).bind fun y s => R.ofO ((index x.dat y.dat).map Vl.d) s := by
  (try simp only [oE_eq, oL_eq, oA_eq, oV_eq, oP_eq, oI_eq, oB_eq, oBs_eq, oX_eq, oW_eq, oF_eq])
  first | done | rfl
@[simp] theorem e_bf_con (x1 : D) (b : Bf) (r : T) : oE Φ (.bf b (.cons (.con x1) r)) s = (oL Φ (.cons (.con x1) r) s).bind fun xs s => R.ofO (bf1 b xs) s := by
  (try simp only [oE_eq, oL_eq, oA_eq, oV_eq, oP_eq, oI_eq, oB_eq, oBs_eq, oX_eq, oW_eq, oF_eq])
  first | done | rfl
@[simp] theorem e_bf_bin (op : PySem.Operator) (a1 b1 : T) (b : Bf) (r : T) : oE Φ (.bf b (.cons (.bin op a1 b1) r)) s = (oL Φ (.cons (.bin op a1 b1) r) s).bind fun xs s => R.ofO (bf1 b xs) s := by
  (try simp only [oE_eq, oL_eq, oA_eq, oV_eq, oP_eq, oI_eq, oB_eq, oBs_eq, oX_eq, oW_eq, oF_eq])
  first | done | rfl
@[simp] theorem e_bf_neg (a1 : T) (b : Bf) (r : T) : oE Φ (.bf b (.cons (.neg a1) r)) s = (oL Φ (.cons (.neg a1) r) s).bind fun xs s => R.ofO (bf1 b xs) s := by
  (try simp only [oE_eq, oL_eq, oA_eq, oV_eq, oP_eq, oI_eq, oB_eq, oBs_eq, oX_eq, oW_eq, oF_eq])
  first | done | rfl
@[simp] theorem e_bf_nt (a1 : T) (b : Bf) (r : T) : oE Φ (.bf b (.cons (.nt a1) r)) s = (oL Φ (.cons (.nt a1) r) s).bind fun xs s => R.ofO (bf1 b xs) s := by
  (try simp only [oE_eq, oL_eq, oA_eq, oV_eq, oP_eq, oI_eq, oB_eq, oBs_eq, oX_eq, oW_eq, oF_eq])
  first | done | rfl
@[simp] theorem e_bf_cmp (op : PySem.CmpOp) (a1 b1 : T) (b : Bf) (r : T) : oE Φ (.bf b (.cons (.cmp op a1 b1) r)) s = (oL Φ (.cons (.cmp op a1 b1) r) s).bind fun xs s => R.ofO (bf1 b xs) s := by
  (try simp only [oE_eq, oL_eq, oA_eq, oV_eq, oP_eq, oI_eq, oB_eq, oBs_eq, oX_eq, oW_eq, oF_eq])
  first | done | rfl
@[simp] theorem e_bf_chain (op op' : PySem.CmpOp) (a1 b1 c1 : T) (b : Bf) (r : T) : oE Φ (.bf b (.cons (.chain op op' a1 b1 c1) r)) s = (oL Φ (.cons (.chain op op' a1 b1 c1) r) s).bind fun xs s => R.ofO (bf1 b xs) s := by
  (try simp only [oE_eq, oL_eq, oA_eq, oV_eq, oP_eq, oI_eq, oB_eq, oBs_eq, oX_eq, oW_eq, oF_eq])
  first | done | rfl
@[simp] theorem e_bf_and (a1 b1 : T) (b : Bf) (r : T) : oE Φ (.bf b (.cons (.and a1 b1) r)) s = (oL Φ (.cons (.and a1 b1) r) s).bind fun xs s => R.ofO (bf1 b xs) s := by
  (try simp only [oE_eq, oL_eq, oA_eq, oV_eq, oP_eq, oI_eq, oB_eq, oBs_eq, oX_eq, oW_eq, oF_eq])
  first | done | rfl
@[simp] theorem e_bf_or (a1 b1 : T) (b : Bf) (r : T) : oE Φ (.bf b (.cons (.or a1 b1) r)) s = (oL Φ (.cons (.or a1 b1) r) s).bind fun xs s => R.ofO (bf1 b xs) s := by
  (try simp only [oE_eq, oL_eq, oA_eq, oV_eq, oP_eq, oI_eq, oB_eq, oBs_eq, oX_eq, oW_eq, oF_eq])
  first | done | rfl
@[simp] theorem e_bf_ite (a1 b1 c1 : T) (b : Bf) (r : T) : oE Φ (.bf b (.cons (.ite a1 b1 c1) r)) s = (oL Φ (.cons (.ite a1 b1 c1) r) s).bind fun xs s => R.ofO (bf1 b xs) s := by
  (try simp only [oE_eq, oL_eq, oA_eq, oV_eq, oP_eq, oI_eq, oB_eq, oBs_eq, oX_eq, oW_eq, oF_eq])
  first | done | rfl
@[simp] theorem e_bf_tup (a1 : T) (b : Bf) (r : T) : oE Φ (.bf b (.cons (.tup a1) r)) s = (oL Φ (.cons (.tup a1) r) s).bind fun xs s => R.ofO (bf1 b xs) s := by
  (try simp only [oE_eq, oL_eq, oA_eq, oV_eq, oP_eq, oI_eq, oB_eq, oBs_eq, oX_eq, oW_eq, oF_eq])
  first | done | rfl
@[simp] theorem e_bf_lst (a1 : T) (b : Bf) (r : T) : oE Φ (.bf b (.cons (.lst a1) r)) s = (oL Φ (.cons (.lst a1) r) s).bind fun xs s => R.ofO (bf1 b xs) s := by
  (try simp only [oE_eq, oL_eq, oA_eq, oV_eq, oP_eq, oI_eq, oB_eq, oBs_eq, oX_eq, oW_eq, oF_eq])
  first | done | rfl
@[simp] theorem e_bf_idx (a1 b1 : T) (b : Bf) (r : T) : oE Φ (.bf b (.cons (.idx a1 b1) r)) s = (oL Φ (.cons (.idx a1 b1) r) s).bind fun xs s => R.ofO (bf1 b xs) s := by
  (try simp only [oE_eq, oL_eq, oA_eq, oV_eq, oP_eq, oI_eq, oB_eq, oBs_eq, oX_eq, oW_eq, oF_eq])
  first | done | rfl
@[simp] theorem e_bf_slc (a1 b1 c1 : T) (b : Bf) (r : T) : oE Φ (.bf b (.cons (.slc a1 b1 c1) r)) s = (oL Φ (.cons (.slc a1 b1 c1) r) s).bind fun xs s => R.ofO (bf1 b xs) s := by
  (try simp only [oE_eq, oL_eq, oA_eq, oV_eq, oP_eq, oI_eq, oB_eq, oBs_eq, oX_eq, oW_eq, oF_eq])
  first | done | rfl
@[simp] theorem e_bf_call (f1 : Nat) (a1 : T) (b : Bf) (r : T) : oE Φ (.bf b (.cons (.call f1 a1) r)) s = (oL Φ (.cons (.call f1 a1) r) s).bind fun xs s => R.ofO (bf1 b xs) s := by
  (try simp only [oE_eq, oL_eq, oA_eq, oV_eq, oP_eq, oI_eq, oB_eq, oBs_eq, oX_eq, oW_eq, oF_eq])
  first | done | rfl
@[simp] theorem e_bf_callk (f1 : Nat) (p1 : List Nat) (a1 b1 : T) (b : Bf) (r : T) : oE Φ (.bf b (.cons (.callk f1 p1 a1 b1) r)) s = (oL Φ (.cons (.callk f1 p1 a1 b1) r) s).bind fun xs s => R.ofO (bf1 b xs) s := by
  (try simp only [oE_eq, oL_eq, oA_eq, oV_eq, oP_eq, oI_eq, oB_eq, oBs_eq, oX_eq, oW_eq, oF_eq])
  first | done | rfl
@[simp] theorem e_bf_bf (f1 : Bf) (a1 : T) (b : Bf) (r : T) : oE Φ (.bf b (.cons (.bf f1 a1) r)) s = (oL Φ (.cons (.bf f1 a1) r) s).bind fun xs s => R.ofO (bf1 b xs) s := by
  (try simp only [oE_eq, oL_eq, oA_eq, oV_eq, oP_eq, oI_eq, oB_eq, oBs_eq, oX_eq, oW_eq, oF_eq])
  first | done | rfl
@[simp] theorem e_bf_comp (o1 : List Nat) (p1 i1 c1 e1 : T) (b : Bf) (r : T) : oE Φ (.bf b (.cons (.comp o1 p1 i1 c1 e1) r)) s = (oL Φ (.cons (.comp o1 p1 i1 c1 e1) r) s).bind fun xs s => R.ofO (bf1 b xs) s := by
  (try simp only [oE_eq, oL_eq, oA_eq, oV_eq, oP_eq, oI_eq, oB_eq, oBs_eq, oX_eq, oW_eq, oF_eq])
  first | done | rfl
@[simp] theorem e_bf_two (b : Bf) (i : Nat) (a1 r : T) : oE Φ (.bf b (.cons (.var i) (.cons a1 r))) s = (oL Φ (.cons (.var i) (.cons a1 r)) s).bind fun xs s => R.ofO (bf1 b xs) s := by
  (try simp only [oE_eq, oL_eq, oA_eq, oV_eq, oP_eq, oI_eq, oB_eq, oBs_eq, oX_eq, oW_eq, oF_eq])
  first | done | rfl
@[simp] theorem p_nil' : oP Φ .nil s = .ok none s := by
  (try simp only [oE_eq, oL_eq, oA_eq, oV_eq, oP_eq, oI_eq, oB_eq, oBs_eq, oX_eq, oW_eq, oF_eq])
  first | done | rfl
@[simp] theorem p_part' (a : T) : oP Φ (.part a) s = (oE Φ a s).bind fun x s => match x with
    | .d (.int i) => .ok (some i) s
    | _ => .no := by
  (try simp only [oE_eq, oL_eq, oA_eq, oV_eq, oP_eq, oI_eq, oB_eq, oBs_eq, oX_eq, oW_eq, oF_eq])
  first | done | rfl
theorem i_rng1' (a : T) : oI Φ (.rng (.cons a .nil)) s = (oE Φ a s).bind fun x s => match x with
    | .d (.int j) => if in62 j then .ok (rangeL 0 j.toNat) s else .no
    | _ => .no := by
  (try simp only [oE_eq, oL_eq, oA_eq, oV_eq, oP_eq, oI_eq, oB_eq, oBs_eq, oX_eq, oW_eq, oF_eq])
  first | done | rfl
theorem i_rng2' (a b : T) : oI Φ (.rng (.cons a (.cons b .nil))) s = (oE Φ a s).bind fun x s => (oE Φ b s).bind fun y s => match x, y with
    | .d (.int i), .d (.int j) => if in62 i && in62 j then .ok (rangeL i (j - i).toNat) s else .no
    | _, _ => .no := by
  (try simp only [oE_eq, oL_eq, oA_eq, oV_eq, oP_eq, oI_eq, oB_eq, oBs_eq, oX_eq, oW_eq, oF_eq])
  first | done | rfl
@[simp] theorem i_it' (a : T) : oI Φ (.it a) s = (oE Φ a s).bind fun x s => match items x.dat with
    | some xs => .ok xs s
    | none => .no := by
  (try simp only [oE_eq, oL_eq, oA_eq, oV_eq, oP_eq, oI_eq, oB_eq, oBs_eq, oX_eq, oW_eq, oF_eq])
  first | done | rfl
@[simp] theorem b_var (i : Nat) (x : D) : oB Φ (.var i) x s = if i < s.length then .nx (s.set i (some (.d x))) else .no := by
  (try simp only [oE_eq, oL_eq, oA_eq, oV_eq, oP_eq, oI_eq, oB_eq, oBs_eq, oX_eq, oW_eq, oF_eq])
  first | done | rfl
@[simp] theorem b_tup (ps : T) (xs : List D) : oB Φ (.tup ps) (.tup xs) s = if plainLen ps = some xs.length then oBs Φ ps xs s else .no := by
  (try simp only [oE_eq, oL_eq, oA_eq, oV_eq, oP_eq, oI_eq, oB_eq, oBs_eq, oX_eq, oW_eq, oF_eq])
  first | done | rfl
@[simp] theorem b_idx (i : Nat) (e : T) (x : D) : oB Φ (.idx (.var i) e) x s = match peek i s with
    | none => .no
    | some _ => match oE Φ e s with
      | .ok (.d (.int k)) s => (match s[i]? with
        | some (some (.own tag xs)) => if 0 ≤ k && k.toNat < xs.length then .nx (s.set i (some (.own tag (xs.set k.toNat x)))) else .no
        | _ => .no)
      | .ex c fs s => .ex c fs s
      | _ => .no := by
  (try simp only [oE_eq, oL_eq, oA_eq, oV_eq, oP_eq, oI_eq, oB_eq, oBs_eq, oX_eq, oW_eq, oF_eq])
  first | done | rfl
@[simp] theorem bs_nil : oBs Φ .nil [] s = .nx s := by
  (try simp only [oE_eq, oL_eq, oA_eq, oV_eq, oP_eq, oI_eq, oB_eq, oBs_eq, oX_eq, oW_eq, oF_eq])
  first | done | rfl
@[simp] theorem bs_cons (p r : T) (x : D) (xs : List D) : oBs Φ (.cons p r) (x :: xs) s = match oB Φ p x s with
    | .nx s => oBs Φ r xs s
    | o => o := by
  (try simp only [oE_eq, oL_eq, oA_eq, oV_eq, oP_eq, oI_eq, oB_eq, oBs_eq, oX_eq, oW_eq, oF_eq])
  first | done | rfl
@[simp] theorem x_seq (a b : T) : oX Φ (.seq a b) s = match oX Φ a s with
    | .nx s => oX Φ b s
    | o => o := by
  (try simp only [oE_eq, oL_eq, oA_eq, oV_eq, oP_eq, oI_eq, oB_eq, oBs_eq, oX_eq, oW_eq, oF_eq])
  first | done | rfl
@[simp] theorem x_pass : oX Φ .pass s = .nx s := by
  (try simp only [oE_eq, oL_eq, oA_eq, oV_eq, oP_eq, oI_eq, oB_eq, oBs_eq, oX_eq, oW_eq, oF_eq])
  first | done | rfl
@[simp] theorem x_brk : oX Φ .brk s = .bk s := by
  (try simp only [oE_eq, oL_eq, oA_eq, oV_eq, oP_eq, oI_eq, oB_eq, oBs_eq, oX_eq, oW_eq, oF_eq])
  first | done | rfl
@[simp] theorem x_cont : oX Φ .cont s = .ct s := by
  (try simp only [oE_eq, oL_eq, oA_eq, oV_eq, oP_eq, oI_eq, oB_eq, oBs_eq, oX_eq, oW_eq, oF_eq])
  first | done | rfl
@[simp] theorem x_asgV (i : Nat) (e : T) : oX Φ (.asg (.var i) e) s = match oE Φ e s with
    | .ok v s => if i < s.length then .nx (s.set i (some v.fresh)) else .no
    | .ex c fs s => .ex c fs s
    | .no => .no := by
  (try simp only [oE_eq, oL_eq, oA_eq, oV_eq, oP_eq, oI_eq, oB_eq, oBs_eq, oX_eq, oW_eq, oF_eq])
  first | done | rfl
theorem x_asg (p e : T) (h : isVar p = false) : oX Φ (.asg p e) s = match oE Φ e s with
    | .ok v s => onlyN (oB Φ p v.dat s)
    | .ex c fs s => .ex c fs s
    | .no => .no := by
  simp only [oE_eq, oL_eq, oA_eq, oV_eq, oP_eq, oI_eq, oB_eq, oBs_eq, oX_eq]
  cases p <;> first | rfl | cases h
@[simp] theorem x_asg_tup (a1 : T) (e : T) : oX Φ (.asg (.tup a1) e) s = match oE Φ e s with
    | .ok v s => onlyN (oB Φ (.tup a1) v.dat s)
    | .ex c fs s => .ex c fs s
    | .no => .no := by
  (try simp only [oE_eq, oL_eq, oA_eq, oV_eq, oP_eq, oI_eq, oB_eq, oBs_eq, oX_eq, oW_eq, oF_eq])
  first | done | rfl
@[simp] theorem x_asg_idx (a1 b1 : T) (e : T) : oX Φ (.asg (.idx a1 b1) e) s = match oE Φ e s with
    | .ok v s => onlyN (oB Φ (.idx a1 b1) v.dat s)
    | .ex c fs s => .ex c fs s
    | .no => .no := by
  (try simp only [oE_eq, oL_eq, oA_eq, oV_eq, oP_eq, oI_eq, oB_eq, oBs_eq, oX_eq, oW_eq, oF_eq])
  first | done | rfl
@[simp] theorem x_par (is : List Nat) (es : T) : oX Φ (.par is es) s = match oV Φ es s with
    | .ok vs s => if is.length = vs.length && is.all (fun i => decide (i < s.length)) then .nx (setAll is (vs.map Vl.fresh) s) else .no
    | .ex c fs s => .ex c fs s
    | .no => .no := by
  (try simp only [oE_eq, oL_eq, oA_eq, oV_eq, oP_eq, oI_eq, oB_eq, oBs_eq, oX_eq, oW_eq, oF_eq])
  first | done | rfl
@[simp] theorem x_ex (e : T) : oX Φ (.ex e) s = match oE Φ e s with
    | .ok _ s => .nx s
    | .ex c fs s => .ex c fs s
    | .no => .no := by
  (try simp only [oE_eq, oL_eq, oA_eq, oV_eq, oP_eq, oI_eq, oB_eq, oBs_eq, oX_eq, oW_eq, oF_eq])
  first | done | rfl
@[simp] theorem x_app (i : Nat) (e : T) : oX Φ (.app i e) s = match s[i]? with
    | some (some (.own _ _)) => (match oE Φ e s with
      | .ok v s => (match s[i]? with
        | some (some (.own tag xs)) => if fitsL (xs.length + 1) then .nx (s.set i (some (.own tag (xs ++ [v.dat])))) else .no
        | _ => .no)
      | .ex c fs s => .ex c fs s
      | .no => .no)
    | _ => .no := by
  (try simp only [oE_eq, oL_eq, oA_eq, oV_eq, oP_eq, oI_eq, oB_eq, oBs_eq, oX_eq, oW_eq, oF_eq])
  first | done | rfl
@[simp] theorem x_if (c a b : T) : oX Φ (.iff c a b) s = match oE Φ c s with
    | .ok v s => onB (tru v.dat) (oX Φ a s) (oX Φ b s) .no
    | .ex c fs s => .ex c fs s
    | .no => .no := by
  (try simp only [oE_eq, oL_eq, oA_eq, oV_eq, oP_eq, oI_eq, oB_eq, oBs_eq, oX_eq, oW_eq, oF_eq])
  first | done | rfl
@[simp] theorem x_ret (e : T) : oX Φ (.ret e) s = match oE Φ e s with
    | .ok v s => .rt v s
    | .ex c fs s => .ex c fs s
    | .no => .no := by
  (try simp only [oE_eq, oL_eq, oA_eq, oV_eq, oP_eq, oI_eq, oB_eq, oBs_eq, oX_eq, oW_eq, oF_eq])
  first | done | rfl
@[simp] theorem x_retN : oX Φ .retN s = .rt (.d .non) s := by
  (try simp only [oE_eq, oL_eq, oA_eq, oV_eq, oP_eq, oI_eq, oB_eq, oBs_eq, oX_eq, oW_eq, oF_eq])
  first | done | rfl
theorem x_whl (c b : T) : oX Φ (.whl c b) s = loopN FUEL (oW Φ c b) s := by
  (try simp only [oE_eq, oL_eq, oA_eq, oV_eq, oP_eq, oI_eq, oB_eq, oBs_eq, oX_eq, oW_eq, oF_eq])
  first | done | rfl
theorem x_for (p it b : T) : oX Φ (.for p it b) s = match oI Φ it s with
    | .ok xs s => loopL (oF Φ p b) xs s
    | .ex c fs s => .ex c fs s
    | .no => .no := by
  (try simp only [oE_eq, oL_eq, oA_eq, oV_eq, oP_eq, oI_eq, oB_eq, oBs_eq, oX_eq, oW_eq, oF_eq])
  first | done | rfl
/-- one turn of a comprehension -/
noncomputable def turnC (Φ : Call) (own : List Nat) (p c e : T) : D → S → Option (Option D × S) := fun x s => match oB Φ p x s with
        | .nx s => (match oE Φ c s with
          | .ok b s => (match tru b.dat with
            | some true => (match oE Φ e s with
              | .ok v s => some (some v.dat, wipeS s own)
              | _ => none)
            | some false => some (none, wipeS s own)
            | none => none)
          | _ => none)
        | _ => none
theorem e_comp (own : List Nat) (p it c e : T) : oE Φ (.comp own p it c e) s = (oI Φ it s).bind fun xs s => match compL (turnC Φ own p c e) xs (wipeS s own) with
      | some (ys, s') => if fitsL ys.length then .ok (.own false ys) (unwipe s s' own) else .no
      | none => .no := by
  unfold turnC
  rw [oE_eq, oI_eq, oB_eq]
  rfl
end
section
variable {s : S}
@[simp] theorem rdV_s (i : Nat) : rdV i s = match s[i]? with
  | some (some (.d x)) => .ok (.d x) s
  | some (some (.own true xs)) => .ok (.d (.lst xs)) (s.set i (some (.fz xs)))
  | some (some (.own false xs)) => .ok (.d (.lst xs)) (s.set i (some (.d (.lst xs))))
  | some (some (.fz xs)) => .ok (.d (.lst xs)) s
  | _ => .no := rfl
@[simp] theorem peek_s (i : Nat) : peek i s = match s[i]? with
  | some (some v) => some v.dat
  | _ => none := rfl
@[simp] theorem tru_n : tru .non = some false := rfl
@[simp] theorem tru_b (b : Bool) : tru (.bl b) = some b := rfl
@[simp] theorem tru_i (i : Int) : tru (.int i) = some (i != 0) := rfl
@[simp] theorem tru_l (xs : List D) : tru (.lst xs) = some (!xs.isEmpty) := rfl
@[simp] theorem tru_t (xs : List D) : tru (.tup xs) = some (!xs.isEmpty) := rfl
@[simp] theorem bin_add (i j : Int) : bin .Add (.int i) (.int j) = some (.d (.int (i + j))) := rfl
@[simp] theorem bin_sub (i j : Int) : bin .Sub (.int i) (.int j) = some (.d (.int (i - j))) := rfl
theorem bin_mul {i j : Int} (h : mulOk i j = true) : bin .Mult (.int i) (.int j) = some (.d (.int (i * j))) := if_pos h
theorem bin_div {i j : Int} (h : 0 < j) (h2 : j.natAbs < W4) : bin .FloorDiv (.int i) (.int j) = some (.d (.int (i / j))) := by
  show (if divOk j then some (Vl.d (.int (if 0 < j then i / j else i.fdiv j))) else none) = _
  rw [if_pos (by unfold divOk; rw [Bool.and_eq_true]; exact ⟨decide_eq_true (by omega), decide_eq_true h2⟩), if_pos h]
theorem bin_fdiv {i j : Int} (h : j ≠ 0) (h2 : j.natAbs < W4) : bin .FloorDiv (.int i) (.int j) = some (.d (.int (i.fdiv j))) := by
  show (if divOk j then some (Vl.d (.int (if 0 < j then i / j else i.fdiv j))) else none) = _
  rw [if_pos (by unfold divOk; rw [Bool.and_eq_true]; exact ⟨decide_eq_true h, decide_eq_true h2⟩)]
  by_cases p : 0 < j
  · rw [if_pos p, Int.fdiv_eq_ediv_of_nonneg i (by omega)]
  · rw [if_neg p]
theorem bin_mod {i j : Int} (h : 0 < j) : bin .Mod (.int i) (.int j) = some (.d (.int (i % j))) := by
  show (if j = 0 then none else some (Vl.d (.int (if 0 < j then i % j else i.fmod j)))) = _
  rw [if_neg (by omega), if_pos h]
theorem bin_pow {i j : Int} (h : 0 ≤ j) (h2 : j ≤ 1000000) (h3 : i.natAbs < W64) : bin .Pow (.int i) (.int j) = some (.d (.int (i ^ j.toNat))) := if_pos (by simp [h, h2, h3])
@[simp] theorem cmp_lt (i j : Int) : cmp .Lt (.int i) (.int j) = some (decide (i < j)) := rfl
@[simp] theorem cmp_le (i j : Int) : cmp .LtE (.int i) (.int j) = some (decide (i ≤ j)) := rfl
@[simp] theorem cmp_gt (i j : Int) : cmp .Gt (.int i) (.int j) = some (decide (j < i)) := rfl
@[simp] theorem cmp_ge (i j : Int) : cmp .GtE (.int i) (.int j) = some (decide (j ≤ i)) := rfl
@[simp] theorem cmp_eq (i j : Int) : cmp .Eq (.int i) (.int j) = some (decide (i = j)) := rfl
@[simp] theorem cmp_ne (i j : Int) : cmp .NotEq (.int i) (.int j) = some (!decide (i = j)) := rfl
@[simp] theorem cmp_eqs (i j : PySem.Str) : cmp .Eq (.str i) (.str j) = some (decide (i = j)) := rfl
@[simp] theorem cmp_nes (i j : PySem.Str) : cmp .NotEq (.str i) (.str j) = some (!decide (i = j)) := rfl
@[simp] theorem idx_l (xs : List D) (i : Int) : index (.lst xs) (.int i) = at_ xs i := rfl
@[simp] theorem idx_t (xs : List D) (i : Int) : index (.tup xs) (.int i) = at_ xs i := rfl
theorem at_pos (xs : List D) {i : Int} (h : 0 ≤ i) : at_ xs i = xs[i.toNat]? := if_pos h
@[simp] theorem at_lit (xs : List D) (n : Nat) : at_ xs (OfNat.ofNat (n + 2)) = xs[n + 2]? := if_pos (Int.natCast_nonneg _)
@[simp] theorem at_0 (xs : List D) : at_ xs 0 = xs[0]? := rfl
@[simp] theorem at_1 (xs : List D) : at_ xs 1 = xs[1]? := rfl
@[simp] theorem at_2 (xs : List D) : at_ xs 2 = xs[2]? := rfl
@[simp] theorem at_nat (xs : List D) (n : Nat) : at_ xs (n : Int) = xs[n]? := if_pos (Int.natCast_nonneg _)
@[simp] theorem bf_lenl (xs : List D) : bf1 .len [.lst xs] = some (.d (.int xs.length)) := rfl
@[simp] theorem bf_lent (xs : List D) : bf1 .len [.tup xs] = some (.d (.int xs.length)) := rfl
@[simp] theorem bf_abs (i : Int) : bf1 .abs [.int i] = some (.d (.int i.natAbs)) := rfl
@[simp] theorem bf_max2 (i j : Int) : bf1 .max [.int i, .int j] = some (.d (.int (if j > i then j else i))) := rfl
@[simp] theorem bf_min2 (i j : Int) : bf1 .min [.int i, .int j] = some (.d (.int (if j < i then j else i))) := rfl
@[simp] theorem bf_int (i : Int) : bf1 .int [.int i] = some (.d (.int i)) := rfl
theorem bf_is (x : D) (n : String) : bf1 .isinst [x, .ty n] = if tyNames.contains n then (isTy x n).map (.d ∘ .bl) else none := rfl
@[simp] theorem bf_is_int (i : Int) : bf1 .isinst [.int i, .ty "int"] = some (.d (.bl true)) := rfl
@[simp] theorem bf_is_bool (i : Int) : bf1 .isinst [.int i, .ty "bool"] = some (.d (.bl false)) := rfl
@[simp] theorem bf_is_tup (xs : List D) : bf1 .isinst [.tup xs, .ty "tuple"] = some (.d (.bl true)) := rfl
@[simp] theorem bf_all (xs : List D) : bf1 .all [.lst xs] = (boolsOf xs).map fun bs => .d (.bl (bs.all id)) := rfl
theorem bf_divmod {i j : Int} (h : 0 < j) (h2 : j.natAbs < W4) : bf1 .divmod [.int i, .int j] = some (.d (.tup [.int (i / j), .int (i % j)])) := if_pos (by simp [h, h2])
@[simp] theorem fits_s (n : Nat) : fitsL n = decide (n ≤ 16777216) := rfl
@[simp] theorem items_l (xs : List D) : items (.lst xs) = some xs := rfl
@[simp] theorem items_t (xs : List D) : items (.tup xs) = some xs := rfl
@[simp] theorem lend_nil : lend [] s = some ([], s) := rfl
@[simp] theorem lend_val (v : Vl) (r : List Ag) : lend (.val v :: r) s = (lend r s).map fun p => (v :: p.1, p.2) := rfl
@[simp] theorem lend_ref (i : Nat) (r : List Ag) : lend (.ref i :: r) s = match s[i]? with
    | some (some (.own _ xs)) => (lend r (s.set i none)).map fun p => (.own true xs :: p.1, p.2)
    | some (some (.fz xs)) => (lend r s).map fun p => (.d (.lst xs) :: p.1, p.2)
    | some (some (.d x)) => (lend r s).map fun p => (.d x :: p.1, p.2)
    | _ => none := rfl
@[simp] theorem back_nil (os : List (Option Vl)) : back [] os s = s := by cases os <;> rfl
@[simp] theorem back_val (v : Vl) (r : List Ag) (o : Option Vl) (os : List (Option Vl)) : back (.val v :: r) (o :: os) s = back r os s := rfl
@[simp] theorem back_ref (i : Nat) (r : List Ag) (o : Option Vl) (os : List (Option Vl)) : back (.ref i :: r) (o :: os) s = back r os (match s[i]? with
    | some (some (.own tag _)) => s.set i (back1 o tag)
    | _ => s) := rfl
@[simp] theorem back1_own (t tag : Bool) (ys : List D) : back1 (some (.own t ys)) tag = some (.own tag ys) := rfl
@[simp] theorem setAll_nil (vs : List Vl) : setAll [] vs s = s := by cases vs <;> rfl
@[simp] theorem setAll_cons (i : Nat) (is : List Nat) (v : Vl) (vs : List Vl) : setAll (i :: is) (v :: vs) s = setAll is vs (s.set i (some v)) := rfl
@[simp] theorem stepW_s (Φ : Call) (c b : T) : oW Φ c b s = match oE Φ c s with
    | .ok v s => onB (tru v.dat) (match oX Φ b s with | .ct s => .nx s | o => o) (.bk s) .no
    | .ex c fs s => .ex c fs s
    | .no => .no := by
  (try simp only [oE_eq, oL_eq, oA_eq, oV_eq, oP_eq, oI_eq, oB_eq, oBs_eq, oX_eq, oW_eq, oF_eq])
  first | done | rfl
@[simp] theorem isVar1_c (a b r : T) : isVar1 (.cons a (.cons b r)) = false := by cases a <;> rfl
@[simp] theorem isVar1_a (a r : T) (h : isVar a = false) : isVar1 (.cons a r) = false := by cases a <;> first | rfl | cases h
@[simp] theorem onlyN_nx : onlyN (.nx s) = .nx s := rfl
@[simp] theorem plain_nil : plainLen .nil = some 0 := rfl
@[simp] theorem plain_cons (a r : T) : plainLen (.cons a r) = (plainLen r).map (· + 1) := rfl
@[simp] theorem isVar_v (i : Nat) : isVar (.var i) = true := rfl
@[simp] theorem loopL_nil (f : D → S → O) : loopL f [] s = .nx s := rfl
@[simp] theorem loopL_cons (f : D → S → O) (x : D) (r : List D) : loopL f (x :: r) s = match f x s with
    | .nx s' => loopL f r s'
    | .ct s' => loopL f r s'
    | .bk s' => .nx s'
    | o => o := rfl
@[simp] theorem stepF_s (Φ : Call) (p b : T) (x : D) : oF Φ p b x s = match onlyN (oB Φ p x s) with
      | .nx s => oX Φ b s
      | o => o := by
  (try simp only [oE_eq, oL_eq, oA_eq, oV_eq, oP_eq, oI_eq, oB_eq, oBs_eq, oX_eq, oW_eq, oF_eq])
  first | done | rfl
end
theorem zip_more {α β : Type} : ∀ (r : List α) (l m : List β), r.length ≤ l.length → r.zip (l ++ m) = r.zip l
  | [], _, _, _ => rfl
  | _ :: _, [], _, h => by simp at h
  | a :: r, b :: l, m, h => by
    show (a, b) :: r.zip (l ++ m) = _
    rw [zip_more r l m (by simpa using h)]
    rfl
def out1 (a : Vl) (o : Option Vl) : Option Vl := match a, o with
  | .own _ _, some (.own true ys) => some (.own true ys)
  | .own _ _, some (.fz ys) => some (.fz ys)
  | _, _ => none
@[simp] theorem out1_d (x : D) (o : Option Vl) : out1 (.d x) o = none := by cases o <;> rfl
@[simp] theorem out1_own (t : Bool) (x ys : List D) : out1 (.own t x) (some (.own true ys)) = some (.own true ys) := rfl
@[simp] theorem out1_fz (t : Bool) (x ys : List D) : out1 (.own t x) (some (.fz ys)) = some (.fz ys) := rfl
@[simp] theorem out1_od (a : Vl) (x : D) : out1 a (some (.d x)) = none := by cases a <;> rfl
@[simp] theorem out1_of (a : Vl) (x : List D) : out1 a (some (.own false x)) = none := by cases a <;> rfl
@[simp] theorem out1_none (a : Vl) : out1 a none = none := by cases a <;> rfl
@[simp] theorem outs_nil (s : S) : outs [] s = [] := by simp [outs]
@[simp] theorem outs_cons (a : Vl) (r : List Vl) (o : Option Vl) (s : S) : outs (a :: r) (o :: s) = out1 a o :: outs r s := by
  have e : List.replicate (r.length + 1) (none : Option Vl) = List.replicate r.length none ++ [none] := List.replicate_succ'
  show (((a :: r).zip (o :: (s ++ List.replicate (r.length + 1) none))).map fun p => out1 p.1 p.2) = out1 a o :: ((r.zip (s ++ List.replicate r.length none)).map fun p => out1 p.1 p.2)
  rw [e, ← List.append_assoc, List.zip_cons_cons, List.map_cons, zip_more r _ _ (by simp)]
theorem in62n {n : Nat} (h : n ≤ 1000000000) : in62 (n : Int) = true := by
  unfold in62
  rw [Bool.and_eq_true]
  exact ⟨decide_eq_true (by omega), decide_eq_true (by omega)⟩
theorem in62i {i : Int} (h : i.natAbs ≤ 1000000000) : in62 i = true := by
  unfold in62
  rw [Bool.and_eq_true]
  exact ⟨decide_eq_true (by omega), decide_eq_true (by omega)⟩
theorem rng1_of {Φ : Call} {a : T} {s s' : S} {n : Nat} (h : oE Φ a s = .ok (.d (.int (n : Int))) s') (hn : n ≤ 1000000000) : oI Φ (.rng (.cons a .nil)) s = .ok (rangeL 0 n) s' := by
  rw [i_rng1', h, bind_ok']
  dsimp only
  rw [in62n hn, Int.toNat_natCast]
  rfl
theorem rng2_of {Φ : Call} {a b : T} {s s1 s2 : S} {i j : Int} (h : oE Φ a s = .ok (.d (.int i)) s1) (h2 : oE Φ b s1 = .ok (.d (.int j)) s2) (hi : i.natAbs ≤ 1000000000) (hj : j.natAbs ≤ 1000000000) : oI Φ (.rng (.cons a (.cons b .nil))) s = .ok (rangeL i (j - i).toNat) s2 := by
  rw [i_rng2', h, bind_ok', h2, bind_ok']
  dsimp only
  rw [in62i hi, in62i hj]
  rfl
/-! ### lists of whole numbers: shown, compared -/
open PySem in
theorem toPys_int : ∀ ns : List Int, toPys (ns.map .int) = some (ns.map .int)
  | [] => rfl
  | n :: ns => by
    show (match toPy (.int n), toPys (ns.map .int) with
      | some d, some ds => some (d :: ds)
      | _, _ => none) = _
    rw [toPys_int ns]
    rfl
open PySem in
theorem can_int : ∀ ns : List Int, PyData.canLayAll0 (ns.map .int) = true
  | [] => rfl
  | n :: ns => by
    show (PyData.canLay0 (.int n) && PyData.canLayAll0 (ns.map .int)) = true
    rw [can_int ns]
    rfl
open PySem in
theorem depth_int : ∀ ns : List Int, PyData.depthAll (ns.map .int) = 0
  | [] => rfl
  | n :: ns => by
    show max (PyData.depth (.int n)) (PyData.depthAll (ns.map .int)) = 0
    rw [depth_int ns]
    rfl
open PySem in
theorem eqv_int : ∀ ns : List Int, PyData.eqvAll (ns.map .int) (ns.map .int) = true
  | [] => rfl
  | n :: ns => by
    show (PyData.eqv (.int n) (.int n) && PyData.eqvAll (ns.map .int) (ns.map .int)) = true
    rw [eqv_int ns, Bool.and_true]
    show (n == n) = true
    simp
open PySem in
theorem eq_ints (ns : List Int) : eqD (.lst (ns.map .int)) (.lst (ns.map .int)) = some true := by
  have t : toPy (.lst (ns.map .int)) = some (.list (ns.map .int)) := by
    show (toPys _).map PyData.list = _
    rw [toPys_int]
    rfl
  have sh : SeqAt.shaped (.list (ns.map .int)) = true := by
    show (PyData.canLayAll0 (ns.map .int) && decide (PyData.depthAll (ns.map .int) + 1 ≤ 64)) = true
    rw [can_int, depth_int]
    rfl
  show (match toPy (.lst (ns.map .int)), toPy (.lst (ns.map .int)) with
    | some d, some e => if SeqAt.shaped d && SeqAt.shaped e then some (PyData.eqv d e) else none
    | _, _ => none) = _
  rw [t]
  dsimp only
  rw [sh]
  show some (PyData.eqvAll (ns.map .int) (ns.map .int)) = _
  rw [eqv_int]
theorem ne_ints (ns : List Int) : cmp .NotEq (.lst (ns.map .int)) (.lst (ns.map .int)) = some false := by
  show (eqD _ _).map not = _
  rw [eq_ints]
  rfl
theorem eq_ints' (ns : List Int) : cmp .Eq (.lst (ns.map .int)) (.lst (ns.map .int)) = some true := eq_ints ns
open PySem in
theorem showable_int : ∀ ns : List Int, (∀ n ∈ ns, n.natAbs.log2 < 1920) → PyData.showableAll (ns.map .int) = true
  | [], _ => rfl
  | n :: ns, h => by
    show (decide (n.natAbs.log2 < 1920) && PyData.showableAll (ns.map .int)) = true
    rw [showable_int ns fun m hm => h m (List.mem_cons_of_mem _ hm), Bool.and_true]
    exact decide_eq_true (h n List.mem_cons_self)
open PySem in
theorem nodict_int : ∀ ns : List Int, PyData.hasDictAll (ns.map .int) = false
  | [] => rfl
  | n :: ns => by
    show (PyData.hasDict (.int n) || PyData.hasDictAll (ns.map .int)) = false
    rw [nodict_int ns]
    rfl
open PySem in
theorem short_int : ∀ ns : List Int, (∀ n ∈ ns, n.natAbs.log2 < 400) → PyData.leavesShortAll 401 (ns.map .int) = true
  | [], _ => rfl
  | n :: ns, h => by
    show (decide ((PyData.shown (.int n)).length ≤ 401) && PyData.leavesShortAll 401 (ns.map .int)) = true
    rw [short_int ns fun m hm => h m (List.mem_cons_of_mem _ hm), Bool.and_true]
    refine decide_eq_true ?_
    have e := int_text_length_le (a := n) (k := 400) (by decide) (h n List.mem_cons_self)
    show (Str.ofString (toString n)).length ≤ 401
    rw [ofString_length]
    exact e
open PySem in
theorem weight_int' : ∀ ns : List Int, (∀ n ∈ ns, n.natAbs.log2 < 400) → PyData.weightAll (ns.map .int) ≤ ns.length * 402
  | [], _ => Nat.le_refl _
  | n :: ns, h => by
    have a := weight_int' ns fun m hm => h m (List.mem_cons_of_mem _ hm)
    have b := h n List.mem_cons_self
    show (if n == 0 then 0 else n.natAbs.log2 + 1) + 1 + PyData.weightAll (ns.map .int) ≤ (ns.length + 1) * 402
    split <;> omega
open PySem in
theorem repr_ints (ns : List Int) (h : ∀ n ∈ ns, n.natAbs.log2 < 400) (hl : ns.length ≤ 8) : bf1 .repr [.lst (ns.map .int)] = some (.d (.str (PyData.list (ns.map .int)).shown)) := by
  have t : toPy (.lst (ns.map .int)) = some (.list (ns.map .int)) := by
    show (toPys _).map PyData.list = _
    rw [toPys_int]
    rfl
  have w := weight_int' ns h
  have sl := PyData.shown_le 401 (by decide) (.list (ns.map .int)) (short_int ns h)
  have w2 : (PyData.list (ns.map .int)).weight ≤ 3216 := Nat.le_trans w (by omega)
  have c : ((PyData.list (ns.map .int)).showable && !(PyData.list (ns.map .int)).hasDict && decide ((PyData.list (ns.map .int)).depth ≤ 64) && fitsL (PyData.list (ns.map .int)).shown.length) = true := by
    have h1 : (PyData.list (ns.map .int)).showable = true := showable_int ns fun n hn => Nat.lt_trans (h n hn) (by decide)
    have h2 : (PyData.list (ns.map .int)).hasDict = false := nodict_int ns
    have h3 : (PyData.list (ns.map .int)).depth = 1 := by
      show PyData.depthAll (ns.map .int) + 1 = 1
      rw [depth_int]
    rw [h1, h2, h3]
    exact decide_eq_true (by omega)
  show (match toPy (.lst (ns.map .int)) with
    | some d => if d.showable && !d.hasDict && decide (d.depth ≤ 64) && fitsL d.shown.length then some (Vl.d (.str d.shown)) else none
    | none => none) = _
  rw [t]
  dsimp only
  rw [c]
  rfl
theorem log_of {n : Int} (h : n.natAbs < 2 ^ 400) : n.natAbs.log2 < 400 := PySem.Flt.log2_lt_of (by decide) h
/-- a call, opened -/
theorem run_at {fns : List Fn} {d k : Nat} {f : Fn} {args : List Vl} (h : fns[k]? = some f) (ha : args.length = f.np) : oRun fns (d + 1) k args = match oX (oRun fns d) f.body (startS f.n args) with
      | .rt v s => .ok (v, outs args s) []
      | .nx s => .ok (.d .non, outs args s) []
      | .ex c fs s => .ex c fs (outs args s)
      | _ => .no := by
  rw [oX_eq, oRun_eq]
  show (match fns[k]? with
    | none => (.no : MI.R (Vl × List (Option Vl)))
    | some f => if args.length = f.np then (match exS (run fns d) f.body (startS f.n args) with
      | .rt v s => .ok (v, outs args s) []
      | .nx s => .ok (.d .non, outs args s) []
      | .ex c fs s => .ex c fs (outs args s)
      | _ => .no) else .no) = _
  rw [h]
  exact if_pos ha
/-- statements one after another -/
theorem x_seq_nx {Φ : Call} {a b : T} {s s' : S} (h : oX Φ a s = .nx s') : oX Φ (.seq a b) s = oX Φ b s' := by
  rw [x_seq, h]
theorem run_rt {fns : List Fn} {d k : Nat} {f : Fn} {args : List Vl} {v : Vl} {s : S} (h : fns[k]? = some f) (ha : args.length = f.np) (e : oX (oRun fns d) f.body (startS f.n args) = .rt v s) : oRun fns (d + 1) k args = .ok (v, outs args s) [] := by
  rw [run_at h ha, e]
end MI

set_option Elab.async false
set_option linter.all false
set_option maxRecDepth 100000
set_option maxHeartbeats 4000000
set_option exponentiation.threshold 300
namespace MI.K01
open MI PySem
def t0 : T := (.ret (.and (.bf .isinst (.cons (.var 0) (.cons (.con (.ty "int")) .nil))) (.nt (.bf .isinst (.cons (.var 0) (.cons (.con (.ty "bool")) .nil))))))
def t1 : T := (.ret (.and (.call 0 (.cons (.var 0) .nil)) (.chain .LtE .LtE (.var 1) (.var 0) (.var 2))))
def t2 : T := (.iff (.nt (.call 1 (.cons (.var 0) (.cons (.var 1) (.cons (.var 2) .nil))))) .nil .pass)
def t3 : T := (.ex (.call 2 (.cons (.var 0) (.cons (.neg (.con (.int 10000000000000000000000000000000000000000))) (.cons (.con (.int 10000000000000000000000000000000000000000)) .nil)))))
def t4 : T := (.seq (.par [0, 1] (.cons (.bf .abs (.cons (.var 0) .nil)) (.cons (.bf .abs (.cons (.var 1) .nil)) .nil))) (.seq (.whl (.cmp .Gt (.var 1) (.con (.int 0))) (.par [0, 1] (.cons (.var 1) (.cons (.bin .Mod (.var 0) (.var 1)) .nil)))) (.ret (.var 0))))
def t5 : T := (.ret (.ite (.and (.cmp .NotEq (.var 0) (.con (.int 0))) (.cmp .NotEq (.var 1) (.con (.int 0)))) (.bin .FloorDiv (.bf .abs (.cons (.bin .Mult (.var 0) (.var 1)) .nil)) (.call 4 (.cons (.var 0) (.cons (.var 1) .nil)))) (.con (.int 0))))
def t6 : T := (.seq (.par [2, 3, 4, 5] (.cons (.var 0) (.cons (.var 1) (.cons (.tup (.cons (.con (.int 1)) (.cons (.con (.int 0)) .nil))) (.cons (.tup (.cons (.con (.int 0)) (.cons (.con (.int 1)) .nil))) .nil))))) (.seq (.whl (.cmp .NotEq (.var 3) (.con (.int 0))) (.seq (.asg (.var 6) (.bin .FloorDiv (.var 2) (.var 3))) (.seq (.par [2, 3] (.cons (.var 3) (.cons (.bin .Sub (.var 2) (.bin .Mult (.var 6) (.var 3))) .nil))) (.par [4, 5] (.cons (.var 5) (.cons (.tup (.cons (.bin .Sub (.idx (.var 4) (.con (.int 0))) (.bin .Mult (.var 6) (.idx (.var 5) (.con (.int 0))))) (.cons (.bin .Sub (.idx (.var 4) (.con (.int 1))) (.bin .Mult (.var 6) (.idx (.var 5) (.con (.int 1))))) .nil))) .nil)))))) (.ret (.ite (.cmp .GtE (.var 2) (.con (.int 0))) (.var 4) (.tup (.cons (.neg (.idx (.var 4) (.con (.int 0)))) (.cons (.neg (.idx (.var 4) (.con (.int 1)))) .nil)))))))
def t7 : T := (.seq (.ex (.call 3 (.cons (.var 0) .nil))) (.ex (.call 3 (.cons (.var 1) .nil))))
def t8 : T := (.seq (.ex (.call 7 (.cons (.var 0) (.cons (.var 1) .nil)))) (.ret (.call 4 (.cons (.var 0) (.cons (.var 1) .nil)))))
def t9 : T := (.seq (.ex (.call 7 (.cons (.var 0) (.cons (.var 1) .nil)))) (.ret (.call 5 (.cons (.var 0) (.cons (.var 1) .nil)))))
def t10 : T := (.seq (.ex (.call 7 (.cons (.var 0) (.cons (.var 1) .nil)))) (.ret (.call 6 (.cons (.var 0) (.cons (.var 1) .nil)))))
def t11 : T := (.seq (.asg (.var 2) (.ite (.cmp .Lt (.var 1) (.bf .len (.cons (.var 0) .nil))) (.idx (.var 0) (.var 1)) (.con (.int 0)))) (.seq (.asg (.var 3) (.bin .Add (.con (.int 258779)) (.bin .Mult (.con (.int 23011)) (.var 1)))) (.seq (.for (.var 4) (.rng (.cons (.bf .min (.cons (.bf .len (.cons (.var 0) .nil)) (.cons (.con (.int 8)) .nil))) .nil)) (.asg (.var 3) (.bin .Mod (.bf .int (.cons (.bin .Add (.bin .Add (.bin .Mult (.var 3) (.bin .Add (.con (.int 30259)) (.bin .Mult (.con (.int 38)) (.var 4)))) (.bin .Mult (.con (.int 73)) (.idx (.var 0) (.var 4)))) (.con (.int 23003))) .nil)) (.con (.int 2147482801))))) (.ret (.lst (.cons (.ite (.or (.cmp .Lt (.var 2) (.con (.int 0))) (.cmp .GtE (.var 2) (.bin .Pow (.con (.int 10)) (.con (.int 18))))) (.bf .abs (.cons (.var 2) .nil)) (.con (.int 0))) (.cons (.bin .Mod (.bf .int (.cons (.bin .Add (.bin .Mult (.var 3) (.con (.int 47))) (.bin .Mult (.var 2) (.con (.int 937)))) .nil)) (.con (.int 2147482801))) (.cons (.con (.int 1)) .nil))))))))
def t12 : T := (.seq (.iff (.cmp .Gt (.idx (.var 0) (.con (.int 0))) (.con (.int 0))) (.seq (.asg (.tup (.cons (.idx (.var 0) (.con (.int 0))) (.cons (.var 2) .nil))) (.bf .divmod (.cons (.idx (.var 0) (.con (.int 0))) (.cons (.var 1) .nil)))) (.ret (.var 2))) .pass) (.seq (.asg (.idx (.var 0) (.con (.int 2))) (.bin .Add (.idx (.var 0) (.con (.int 2))) (.con (.int 1)))) (.seq (.asg (.var 3) (.bin .Mult (.idx (.var 0) (.con (.int 1))) (.bin .Add (.bin .Mod (.bf .int (.cons (.bin .FloorDiv (.idx (.var 0) (.con (.int 1))) (.con (.int 8))) .nil)) (.con (.int 43003))) (.con (.int 89))))) (.seq (.asg (.idx (.var 0) (.con (.int 1))) (.bin .Mod (.bf .int (.cons (.bin .Add (.bin .Add (.var 3) (.bin .Mult (.con (.int 10103)) (.idx (.var 0) (.con (.int 2))))) (.con (.int 53))) .nil)) (.con (.int 2147482801)))) (.ret (.bin .Mod (.bf .int (.cons (.bin .FloorDiv (.idx (.var 0) (.con (.int 1))) (.con (.int 8192))) .nil)) (.var 1)))))))
def t13 : T := (.ret (.idx (.var 1) (.call 12 (.cons (.var 0) (.cons (.bf .len (.cons (.var 1) .nil)) .nil)))))
def t14 : T := (.seq (.par [0, 1] (.cons (.bf .abs (.cons (.var 0) .nil)) (.cons (.bf .abs (.cons (.var 1) .nil)) .nil))) (.seq (.whl (.cmp .Gt (.var 1) (.con (.int 0))) (.par [0, 1] (.cons (.var 1) (.cons (.bin .Mod (.bf .int (.cons (.var 0) .nil)) (.var 1)) .nil)))) (.ret (.var 0))))
def t15 : T := (.seq (.par [1, 2] (.cons (.call 12 (.cons (.var 0) (.cons (.con (.int 8)) .nil))) (.cons (.call 13 (.cons (.var 0) (.cons (.lst (.cons (.con (.int 1)) (.cons (.con (.int 1)) (.cons (.neg (.con (.int 1))) .nil)))) .nil))) .nil))) (.seq (.iff (.cmp .Lt (.var 1) (.con (.int 4))) (.ret (.bin .Mult (.var 2) (.call 12 (.cons (.var 0) (.cons (.con (.int 200)) .nil))))) .pass) (.seq (.iff (.cmp .Eq (.var 1) (.con (.int 4))) (.ret (.bin .Mult (.var 2) (.call 13 (.cons (.var 0) (.cons (.lst (.cons (.bin .Pow (.con (.int 10)) (.con (.int 40))) (.cons (.bin .Sub (.bin .Pow (.con (.int 10)) (.con (.int 40))) (.con (.int 1))) (.cons (.bin .Mult (.con (.int 2)) (.bin .Pow (.con (.int 10)) (.con (.int 30)))) (.cons (.con (.int 0)) .nil))))) .nil))))) .pass) (.seq (.asg (.var 3) (.con (.int 1))) (.seq (.for (.var 4) (.rng (.cons (.call 13 (.cons (.var 0) (.cons (.lst (.cons (.con (.int 2)) (.cons (.con (.int 3)) (.cons (.con (.int 5)) .nil)))) .nil))) .nil)) (.asg (.var 3) (.bin .Mult (.var 3) (.bin .Add (.con (.int 2)) (.call 12 (.cons (.var 0) (.cons (.con (.int 9000000)) .nil))))))) (.ret (.bin .Mult (.var 2) (.var 3))))))))
def t16 : T := (.seq (.asg (.var 3) (.call 14 (.cons (.var 0) (.cons (.var 1) .nil)))) (.seq (.iff (.cmp .NotEq (.bf .repr (.cons (.lst (.cons (.call 8 (.cons (.var 0) (.cons (.var 1) .nil))) (.cons (.callk 8 [1, 0] .nil (.cons (.var 1) (.cons (.var 0) .nil))) (.cons (.call 8 (.cons (.var 1) (.cons (.var 0) .nil))) (.cons (.call 8 (.cons (.neg (.var 0)) (.cons (.var 1) .nil))) .nil))))) .nil)) (.bf .repr (.cons (.bin .Mult (.lst (.cons (.var 3) .nil)) (.con (.int 4))) .nil))) (.ret (.con (.bl false))) .pass) (.seq (.asg (.var 4) (.ite (.and (.cmp .NotEq (.var 0) (.con (.int 0))) (.cmp .NotEq (.var 1) (.con (.int 0)))) (.bin .FloorDiv (.bf .abs (.cons (.bin .Mult (.var 0) (.var 1)) .nil)) (.var 3)) (.con (.int 0)))) (.seq (.iff (.and (.chain .Lt .LtE (.con (.int 0)) (.var 4) (.bin .Pow (.con (.int 10)) (.con (.int 40)))) (.cmp .NotEq (.lst (.cons (.call 8 (.cons (.var 4) (.cons (.var 0) .nil))) (.cons (.call 8 (.cons (.var 1) (.cons (.var 4) .nil))) .nil))) (.lst (.cons (.bf .abs (.cons (.var 0) .nil)) (.cons (.bf .abs (.cons (.var 1) .nil)) .nil))))) (.ret (.con (.bl false))) .pass) (.seq (.iff (.cmp .NotEq (.bf .repr (.cons (.lst (.cons (.call 9 (.cons (.var 0) (.cons (.var 1) .nil))) (.cons (.callk 9 [1, 0] .nil (.cons (.var 1) (.cons (.var 0) .nil))) (.cons (.call 9 (.cons (.var 1) (.cons (.neg (.var 0)) .nil))) .nil)))) .nil)) (.bf .repr (.cons (.bin .Mult (.lst (.cons (.var 4) .nil)) (.con (.int 3))) .nil))) (.ret (.con (.bl false))) .pass) (.seq (.for (.var 5) (.it (.lst (.cons (.call 10 (.cons (.var 0) (.cons (.var 1) .nil))) (.cons (.callk 10 [1, 0] .nil (.cons (.var 1) (.cons (.var 0) .nil))) .nil)))) (.seq (.iff (.or (.nt (.bf .isinst (.cons (.var 5) (.cons (.con (.ty "tuple")) .nil)))) (.cmp .NotEq (.bf .len (.cons (.var 5) .nil)) (.con (.int 2)))) (.ret (.con (.bl false))) .pass) (.seq (.iff (.cmp .NotEq (.comp [6] (.var 6) (.it (.var 5)) (.or (.bf .isinst (.cons (.var 6) (.cons (.con (.ty "bool")) .nil))) (.nt (.bf .isinst (.cons (.var 6) (.cons (.con (.ty "int")) .nil))))) (.var 6)) (.lst .nil)) (.ret (.con (.bl false))) .pass) (.iff (.cmp .NotEq (.bin .Add (.bin .Mult (.idx (.var 5) (.con (.int 0))) (.var 0)) (.bin .Mult (.idx (.var 5) (.con (.int 1))) (.var 1))) (.var 3)) (.ret (.con (.bl false))) .pass)))) (.seq (.iff (.and (.cmp .Lt (.bf .abs (.cons (.var 0) .nil)) (.bin .Pow (.con (.int 10)) (.con (.int 20)))) (.cmp .Lt (.bf .abs (.cons (.var 1) .nil)) (.bin .Pow (.con (.int 10)) (.con (.int 20))))) (.iff (.or (.cmp .NotEq (.call 8 (.cons (.var 0) (.cons (.bin .Add (.var 1) (.bin .Mult (.var 2) (.var 0))) .nil))) (.var 3)) (.cmp .NotEq (.call 8 (.cons (.bin .Mult (.var 0) (.var 2)) (.cons (.bin .Mult (.var 1) (.var 2)) .nil))) (.bin .Mult (.var 3) (.bf .abs (.cons (.var 2) .nil))))) (.ret (.con (.bl false))) .pass) .pass) (.ret (.and (.cmp .Eq (.bin .Mult (.idx (.call 10 (.cons (.var 0) (.cons (.con (.int 0)) .nil))) (.con (.int 0))) (.var 0)) (.bf .abs (.cons (.var 0) .nil))) (.cmp .Eq (.bin .Mult (.idx (.call 10 (.cons (.con (.int 0)) (.cons (.var 1) .nil))) (.con (.int 1))) (.var 1)) (.bf .abs (.cons (.var 1) .nil))))))))))))
def t17 : T := (.seq (.for (.var 1) (.rng (.cons (.con (.int 4)) .nil)) (.seq (.par [2, 3, 4] (.cons (.call 15 (.cons (.var 0) .nil)) (.cons (.call 15 (.cons (.var 0) .nil)) (.cons (.bin .Sub (.call 12 (.cons (.var 0) (.cons (.con (.int 2000)) .nil))) (.con (.int 999))) .nil)))) (.seq (.iff (.and (.cmp .Gt (.var 1) (.con (.int 1))) (.and (.cmp .Lt (.bf .abs (.cons (.var 2) .nil)) (.bin .Pow (.con (.int 10)) (.con (.int 20)))) (.cmp .Lt (.bf .abs (.cons (.var 3) .nil)) (.bin .Pow (.con (.int 10)) (.con (.int 20)))))) (.par [2, 3] (.cons (.bin .Mult (.var 2) (.bin .Add (.con (.int 1)) (.bf .abs (.cons (.var 4) .nil)))) (.cons (.bin .Mult (.var 3) (.bin .Add (.con (.int 1)) (.bf .abs (.cons (.var 4) .nil)))) .nil))) .pass) (.iff (.nt (.call 16 (.cons (.var 2) (.cons (.var 3) (.cons (.var 4) .nil))))) (.ret (.con (.bl false))) .pass)))) (.ret (.and (.cmp .Eq (.call 8 (.cons (.con (.int 0)) (.cons (.con (.int 0)) .nil))) (.con (.int 0))) (.cmp .Eq (.call 9 (.cons (.con (.int 0)) (.cons (.con (.int 0)) .nil))) (.con (.int 0))))))
def t18 : T := (.ret (.bf .all (.cons (.comp [1] (.var 1) (.rng (.cons (.bf .max (.cons (.con (.int 2)) (.cons (.bf .min (.cons (.bf .len (.cons (.var 0) .nil)) (.cons (.con (.int 3)) .nil))) .nil))) .nil)) (.con (.bl true)) (.call 17 (.cons (.call 11 (.cons (.var 0) (.cons (.var 1) .nil))) .nil))) .nil)))
def fs : List Fn := [⟨1, 1, t0⟩, ⟨3, 3, t1⟩, ⟨3, 3, t2⟩, ⟨1, 1, t3⟩, ⟨2, 2, t4⟩, ⟨2, 2, t5⟩, ⟨2, 7, t6⟩, ⟨2, 2, t7⟩, ⟨2, 2, t8⟩, ⟨2, 2, t9⟩, ⟨2, 2, t10⟩, ⟨2, 5, t11⟩, ⟨2, 4, t12⟩, ⟨2, 2, t13⟩, ⟨2, 2, t14⟩, ⟨1, 5, t15⟩, ⟨3, 7, t16⟩, ⟨1, 5, t17⟩, ⟨1, 2, t18⟩]

theorem r0 (d : Nat) (x : Int) : oRun fs (d + 1) 0 [.d (.int x)] = .ok (.d (.bl true), [none]) [] := by
  rw [run_at rfl rfl]
  simp [t0, startS]
theorem r1 (d : Nat) (x a b : Int) : oRun fs (d + 2) 1 [.d (.int x), .d (.int a), .d (.int b)] = .ok (.d (.bl (decide (a ≤ x) && decide (x ≤ b))), [none, none, none]) [] := by
  rw [run_at rfl rfl]
  by_cases h : a ≤ x <;> simp [t1, startS, r0, h]
theorem r2 (d : Nat) (x a b : Int) (h : a ≤ x) (h2 : x ≤ b) : oRun fs (d + 3) 2 [.d (.int x), .d (.int a), .d (.int b)] = .ok (.d .non, [none, none, none]) [] := by
  rw [run_at rfl rfl]
  simp [t2, startS, r1, h, h2]
theorem r3 (d : Nat) (x : Int) (h : x.natAbs ≤ 10 ^ 40) : oRun fs (d + 4) 3 [.d (.int x)] = .ok (.d .non, [none]) [] := by
  rw [run_at rfl rfl]
  have h1 : -10000000000000000000000000000000000000000 ≤ x := by omega
  have h2 : x ≤ 10000000000000000000000000000000000000000 := by omega
  simp [t3, startS, r2, h1, h2]
theorem r7 (d : Nat) (x y : Int) (h : x.natAbs ≤ 10 ^ 40) (h2 : y.natAbs ≤ 10 ^ 40) : oRun fs (d + 5) 7 [.d (.int x), .d (.int y)] = .ok (.d .non, [none, none]) [] := by
  rw [run_at rfl rfl]
  simp [t7, startS, r3, h, h2]

theorem gcd_loop (st : S → O) (one : ∀ (x y : Nat), 0 < y → st [some (.d (.int x)), some (.d (.int y))] = .nx [some (.d (.int y)), some (.d (.int (x % y : Nat)))]) (stop : ∀ (x : Nat), st [some (.d (.int x)), some (.d (.int (0 : Nat)))] = .bk [some (.d (.int x)), some (.d (.int (0 : Nat)))]) :
    ∀ (k fuel : Nat) (x y : Nat), y < 2 ^ k → 2 * k + 1 ≤ fuel → loopN fuel st [some (.d (.int x)), some (.d (.int y))] = .nx [some (.d (.int (Nat.gcd x y))), some (.d (.int 0))] := by
  intro k
  induction k with
  | zero =>
    intro fuel x y h1 h2
    obtain rfl : y = 0 := by omega
    obtain ⟨f, rfl⟩ : ∃ f, fuel = f + 1 := ⟨fuel - 1, by omega⟩
    unfold loopN
    rw [stop x]
    simp
  | succ k ih =>
    intro fuel x y h1 h2
    obtain ⟨f, rfl⟩ : ∃ f, fuel = f + 1 := ⟨fuel - 1, by omega⟩
    by_cases hy : y = 0
    · subst hy
      unfold loopN
      rw [stop x]
      simp
    · unfold loopN
      rw [one x y (by omega)]
      dsimp only
      have lt : x % y < y := Nat.mod_lt _ (by omega)
      have g1 : Nat.gcd x y = Nat.gcd y (x % y) := by
        rw [Nat.gcd_comm x y, Nat.gcd_rec y x, Nat.gcd_comm]
      by_cases hs : x % y < 2 ^ k
      · rw [ih f y (x % y) hs (by omega), g1]
      · obtain ⟨f2, rfl⟩ : ∃ f2, f = f2 + 1 := ⟨f - 1, by omega⟩
        have p0 : 0 < 2 ^ k := Nat.pow_pos (by omega)
        unfold loopN
        rw [one y (x % y) (by omega)]
        dsimp only
        have e : 2 ^ (k + 1) = 2 * 2 ^ k := by rw [Nat.pow_succ]; omega
        have q1 : y % (x % y) = y - x % y := by
          rw [Nat.mod_eq_sub_mod (by omega), Nat.mod_eq_of_lt (by omega)]
        rw [ih f2 (x % y) (y % (x % y)) (by omega) (by omega), g1]
        have g2 : Nat.gcd y (x % y) = Nat.gcd (x % y) (y % (x % y)) := by
          rw [Nat.gcd_comm y, Nat.gcd_rec (x % y) y, Nat.gcd_comm]
        rw [g2]
theorem r4 (d : Nat) (x y : Int) (h : y.natAbs < 2 ^ 200) : oRun fs (d + 1) 4 [.d (.int x), .d (.int y)] = .ok (.d (.int (Int.gcd x y)), [none, none]) [] := by
  rw [run_at rfl rfl]
  have g := gcd_loop (oW (oRun fs d) (.cmp .Gt (.var 1) (.con (.int 0))) (.par [0, 1] (.cons (.var 1) (.cons (.bin .Mod (.var 0) (.var 1)) .nil)))) (fun x y h => by
    have h' : (0 : Int) < (y : Int) := by omega
    simp [h, bin_mod h']) (fun x => by simp) 200 FUEL x.natAbs y.natAbs h (by decide)
  simp [t4, startS, x_whl, g]
  rfl
theorem r14 (d : Nat) (x y : Int) (h : y.natAbs < 2 ^ 200) : oRun fs (d + 1) 14 [.d (.int x), .d (.int y)] = .ok (.d (.int (Int.gcd x y)), [none, none]) [] := by
  rw [run_at rfl rfl]
  have g := gcd_loop (oW (oRun fs d) (.cmp .Gt (.var 1) (.con (.int 0))) (.par [0, 1] (.cons (.var 1) (.cons (.bin .Mod (.bf .int (.cons (.var 0) .nil)) (.var 1)) .nil)))) (fun x y h => by
    have h' : (0 : Int) < (y : Int) := by omega
    simp [h, bin_mod h']) (fun x => by simp) 200 FUEL x.natAbs y.natAbs h (by decide)
  simp [t14, startS, x_whl, g]
  rfl
theorem small4 {j : Int} (h : j.natAbs < 2 ^ 200) : j.natAbs < W4 := Nat.lt_of_lt_of_le h (by unfold W4; exact Nat.pow_le_pow_right (by decide) (by decide))
theorem smallM {j : Int} (h : j.natAbs < 2 ^ 200) : j.natAbs < WM := Nat.lt_of_lt_of_le h (by unfold WM; exact Nat.pow_le_pow_right (by decide) (by decide))
theorem mulM {i j : Int} (h : i.natAbs < WM) (h2 : j.natAbs < WM) : mulOk i j = true := by
  unfold mulOk
  rw [Bool.or_eq_true, Bool.and_eq_true]
  exact .inr ⟨decide_eq_true h, decide_eq_true h2⟩
theorem mul_ok {i j : Int} (h : i.natAbs < 2 ^ 200) (h2 : j.natAbs < 2 ^ 200) : mulOk i j = true := mulM (smallM h) (smallM h2)
theorem r5 (d : Nat) (x y : Int) (h : y.natAbs < 2 ^ 200) (hx : x.natAbs < 2 ^ 200) : oRun fs (d + 2) 5 [.d (.int x), .d (.int y)] = .ok (.d (.int (Int.lcm x y)), [none, none]) [] := by
  rw [run_at rfl rfl]
  by_cases zx : x = 0
  · subst zx
    simp [t5, startS]
  · by_cases zy : y = 0
    · subst zy
      simp [t5, startS, zx]
    · have mo : mulOk x y = true := mul_ok hx h
      have gp : 0 < Int.gcd x y := Int.gcd_pos_of_ne_zero_left y zx
      have gl : Int.gcd x y ≤ y.natAbs := Nat.gcd_le_right _ (by omega)
      have dv := bin_div (i := ((x * y).natAbs : Nat)) (j := (Int.gcd x y : Nat)) (by omega) (small4 (by simp; omega))
      simp [t5, startS, zx, zy, bin_mul mo, r4 d x y h, dv]
      rw [Int.lcm, Nat.lcm, Int.natAbs_mul]
      rfl
theorem fm_pos (l r : Int) (h : 0 < r) : 0 ≤ l - l.fdiv r * r ∧ l - l.fdiv r * r < r := by
  have e : l.fdiv r = l / r := Int.fdiv_eq_ediv_of_nonneg l (by omega)
  have q : l - l / r * r = l % r := by rw [Int.emod_def, Int.mul_comm]
  rw [e, q]
  exact ⟨Int.emod_nonneg _ (by omega), Int.emod_lt_of_pos _ h⟩
theorem fm_neg (l r : Int) (h : r < 0) : r < l - l.fdiv r * r ∧ l - l.fdiv r * r ≤ 0 := by
  have e : l.fdiv r = (-l).fdiv (-r) := by rw [Int.neg_fdiv_neg]
  obtain ⟨a, b⟩ := fm_pos (-l) (-r) (by omega)
  rw [← e, Int.mul_neg] at a b
  constructor <;> omega
theorem fm_lt (l r : Int) (h : r ≠ 0) : (l - l.fdiv r * r).natAbs < r.natAbs := by
  rcases Int.lt_or_gt_of_ne h with q | q
  · have := fm_neg l r q
    omega
  · have := fm_pos l r q
    omega
theorem fd_le (l r : Int) (h : r ≠ 0) : (l.fdiv r).natAbs ≤ l.natAbs := by
  have key : ∀ l r : Int, 0 < r → (l.fdiv r).natAbs ≤ l.natAbs := fun l r h => by
    have e : l.fdiv r = l / r := Int.fdiv_eq_ediv_of_nonneg l (by omega)
    obtain ⟨a, b⟩ := fm_pos l r h
    rw [e] at a b ⊢
    rcases (by omega : l < 0 ∨ 0 ≤ l) with p | p
    · have n : l / r < 0 := Int.ediv_neg_of_neg_of_pos p h
      have : l ≤ l / r := by
        have h1 : l / r * r ≤ l / r * 1 := Int.mul_le_mul_of_nonpos_left (by omega) (by omega)
        have h2 := Int.lt_ediv_add_one_mul_self l h
        rw [Int.add_mul, Int.one_mul] at h2
        have h3 : l / r * r ≤ l := Int.ediv_mul_le l (by omega)
        have h4 : (l / r + 1) * r ≤ (l / r + 1) * 1 := Int.mul_le_mul_of_nonpos_left (by omega) (by omega)
        rw [Int.add_mul, Int.one_mul] at h4
        omega
      omega
    · have n : 0 ≤ l / r := Int.ediv_nonneg p (by omega)
      have : l / r ≤ l := Int.ediv_le_self r p
      omega
  rcases Int.lt_or_gt_of_ne h with q | q
  · have e : l.fdiv r = (-l).fdiv (-r) := by rw [Int.neg_fdiv_neg]
    rw [e]
    have := key (-l) (-r) (by omega)
    omega
  · exact key l r q
/-- two turns halve -/
theorem fm_two (l r : Int) (h : r ≠ 0) (h2 : l - l.fdiv r * r ≠ 0) : (r - r.fdiv (l - l.fdiv r * r) * (l - l.fdiv r * r)).natAbs ≤ r.natAbs - (l - l.fdiv r * r).natAbs := by
  have lt := fm_lt l r h
  have sgn : (0 < r ∧ 0 < l - l.fdiv r * r) ∨ (r < 0 ∧ l - l.fdiv r * r < 0) := by
    rcases Int.lt_or_gt_of_ne h with q | q
    · have := fm_neg l r q
      omega
    · have := fm_pos l r q
      omega
  generalize hm : l - l.fdiv r * r = m at *
  generalize ht : r.fdiv m = t
  rcases sgn with ⟨a, b⟩ | ⟨a, b⟩
  · have f := fm_pos r m b
    rw [ht] at f
    have t1 : 1 ≤ t := by
      rcases (by omega : t < 1 ∨ 1 ≤ t) with z | z
      · have : t * m ≤ 0 * m := Int.mul_le_mul_of_nonneg_right (by omega) (by omega)
        omega
      · exact z
    have : 1 * m ≤ t * m := Int.mul_le_mul_of_nonneg_right t1 (by omega)
    omega
  · have f := fm_neg r m b
    rw [ht] at f
    have t1 : 1 ≤ t := by
      rcases (by omega : t < 1 ∨ 1 ≤ t) with z | z
      · have : 0 * m ≤ t * m := Int.mul_le_mul_of_nonpos_right (by omega) (by omega)
        omega
      · exact z
    have : t * m ≤ 1 * m := Int.mul_le_mul_of_nonpos_right t1 (by omega)
    omega
theorem gcd_turn (l r t : Int) : Int.gcd r (l - t * r) = Int.gcd l r := by
  rw [Int.gcd_comm l r]
  apply Nat.dvd_antisymm
  · refine Int.dvd_gcd (Int.gcd_dvd_left ..) ?_
    have h1 : (Int.gcd r (l - t * r) : Int) ∣ l - t * r := Int.gcd_dvd_right ..
    have h2 : (Int.gcd r (l - t * r) : Int) ∣ r := Int.gcd_dvd_left ..
    have h3 := Int.dvd_add h1 (Int.dvd_trans h2 (Int.dvd_mul_left t r))
    rwa [Int.sub_add_cancel] at h3
  · refine Int.dvd_gcd (Int.gcd_dvd_left ..) ?_
    have h1 : (Int.gcd r l : Int) ∣ l := Int.gcd_dvd_right ..
    have h2 : (Int.gcd r l : Int) ∣ r := Int.gcd_dvd_left ..
    exact Int.dvd_sub h1 (Int.dvd_trans h2 (Int.dvd_mul_left t r))

/-- the state of the loop in combined_of -/
def S6 (x y l r a b c e : Int) (t : Option Vl) : S := [some (.d (.int x)), some (.d (.int y)), some (.d (.int l)), some (.d (.int r)), some (.d (.tup [.int a, .int b])), some (.d (.tup [.int c, .int e])), t]
def c6 : T := .cmp .NotEq (.var 3) (.con (.int 0))
def b6 : T := match t6 with
  | .seq _ (.seq (.whl _ b) _) => b
  | _ => .nil
theorem go6 (Φ : Call) (x y l r a b c e : Int) (t : Option Vl) (h : r ≠ 0) (hr : r.natAbs < 2 ^ 200) (hl : l.natAbs < 2 ^ 200) (hc : c.natAbs < WM) (he : e.natAbs < WM) :
    oW Φ c6 b6 (S6 x y l r a b c e t) = .nx (S6 x y r (l - l.fdiv r * r) c e (a - l.fdiv r * c) (b - l.fdiv r * e) (some (.d (.int (l.fdiv r))))) := by
  have q := fd_le l r h
  have q2 : (l.fdiv r).natAbs < WM := smallM (by omega)
  have d1 := bin_fdiv (i := l) h (small4 hr)
  have m1 : mulOk (l.fdiv r) r = true := mulM q2 (smallM hr)
  have m2 : mulOk (l.fdiv r) c = true := mulM q2 hc
  have m3 : mulOk (l.fdiv r) e = true := mulM q2 he
  simp [S6, c6, b6, t6, h, d1, bin_mul m1, bin_mul m2, bin_mul m3]
theorem stop6 (Φ : Call) (x y l a b c e : Int) (t : Option Vl) : oW Φ c6 b6 (S6 x y l 0 a b c e t) = .bk (S6 x y l 0 a b c e t) := by
  simp [S6, c6, b6]

theorem grow {a q c : Int} {t : Nat} (ha : a.natAbs < 2 ^ t) (hq : q.natAbs < 2 ^ 200) (hc : c.natAbs < 2 ^ t) : (a - q * c).natAbs < 2 ^ (t + 201) := by
  have h1 : (q * c).natAbs ≤ 2 ^ 200 * 2 ^ t := by
    rw [Int.natAbs_mul]
    exact Nat.mul_le_mul (by omega) (by omega)
  have h2 : 2 ^ (t + 201) = 2 ^ 200 * 2 ^ t + 2 ^ 200 * 2 ^ t := by
    rw [show t + 201 = t + 200 + 1 from rfl, Nat.pow_succ, Nat.pow_add, Nat.mul_comm (2 ^ t)]
    omega
  have h3 : 2 ^ t ≤ 2 ^ 200 * 2 ^ t := Nat.le_mul_of_pos_left _ (by decide)
  omega
theorem upW {c : Int} {t n : Nat} (h : c.natAbs < 2 ^ t) (ht : t ≤ 100000) : c.natAbs < WM := Nat.lt_of_lt_of_le h (by unfold WM; exact Nat.pow_le_pow_right (by decide) ht)
theorem upT {c : Int} {t n : Nat} (h : c.natAbs < 2 ^ t) (ht : t ≤ n) : c.natAbs < 2 ^ n := Nat.lt_of_lt_of_le h (Nat.pow_le_pow_right (by decide) ht)
theorem lin {a b c e x y l r q : Int} (h1 : a * x + b * y = l) (h2 : c * x + e * y = r) : (a - q * c) * x + (b - q * e) * y = l - q * r := by
  rw [← h1, ← h2]
  simp only [Int.sub_mul, Int.mul_add, Int.mul_assoc]
  omega
theorem loop6 (Φ : Call) (x y : Int) : ∀ (k fuel t : Nat) (l r a b c e : Int) (u : Option Vl), r.natAbs < 2 ^ k → k ≤ 200 → 2 * k + 1 ≤ fuel → l.natAbs < 2 ^ 200 → a.natAbs < 2 ^ t → b.natAbs < 2 ^ t → c.natAbs < 2 ^ t → e.natAbs < 2 ^ t → t + 201 * (2 * k + 1) ≤ 100000 → a * x + b * y = l → c * x + e * y = r →
    ∃ l' a' b' c' e' u', loopN fuel (oW Φ c6 b6) (S6 x y l r a b c e u) = .nx (S6 x y l' 0 a' b' c' e' u') ∧ a' * x + b' * y = l' ∧ l'.natAbs = Int.gcd l r ∧ a'.natAbs < WM ∧ b'.natAbs < WM := by
  have fin : ∀ (fuel t : Nat) (l a b c e : Int) (u : Option Vl), 1 ≤ fuel → a.natAbs < 2 ^ t → b.natAbs < 2 ^ t → t ≤ 100000 → a * x + b * y = l → ∃ l' a' b' c' e' u', loopN fuel (oW Φ c6 b6) (S6 x y l 0 a b c e u) = .nx (S6 x y l' 0 a' b' c' e' u') ∧ a' * x + b' * y = l' ∧ l'.natAbs = Int.gcd l 0 ∧ a'.natAbs < WM ∧ b'.natAbs < WM := fun fuel t l a b c e u hf ha hb ht hl => by
    obtain ⟨f, rfl⟩ : ∃ f, fuel = f + 1 := ⟨fuel - 1, by omega⟩
    refine ⟨l, a, b, c, e, u, ?_, hl, by simp, upW (n := 0) ha ht, upW (n := 0) hb ht⟩
    unfold loopN
    rw [stop6]
  intro k
  induction k with
  | zero =>
    intro fuel t l r a b c e u h1 h2 h3 h4 h5 h6 h7 h8 h9 h10 h11
    obtain rfl : r = 0 := by omega
    exact fin fuel t l a b c e u (by omega) h5 h6 (by omega) h10
  | succ k ih =>
    intro fuel t l r a b c e u h1 h2 h3 h4 h5 h6 h7 h8 h9 h10 h11
    by_cases hr : r = 0
    · subst hr
      exact fin fuel t l a b c e u (by omega) h5 h6 (by omega) h10
    · obtain ⟨f, rfl⟩ : ∃ f, fuel = f + 1 := ⟨fuel - 1, by omega⟩
      have r200 : r.natAbs < 2 ^ 200 := upT h1 h2
      have q1 := fd_le l r hr
      have lt := fm_lt l r hr
      have a1 := grow h5 (by omega : (l.fdiv r).natAbs < 2 ^ 200) h7
      have b1 := grow h6 (by omega : (l.fdiv r).natAbs < 2 ^ 200) h8
      have l1 := lin (q := l.fdiv r) h10 h11
      unfold loopN
      rw [go6 Φ x y l r a b c e u hr r200 h4 (upW (n := 0) h7 (by omega)) (upW (n := 0) h8 (by omega))]
      dsimp only
      have g1 := gcd_turn l r (l.fdiv r)
      by_cases hs : (l - l.fdiv r * r).natAbs < 2 ^ k
      · obtain ⟨l', a', b', c', e', u', z1, z2, z3, z4⟩ := ih f (t + 201) r _ c e _ _ (some (.d (.int (l.fdiv r)))) hs (by omega) (by omega) r200 (upT h7 (by omega)) (upT h8 (by omega)) a1 b1 (by omega) h11 l1
        exact ⟨l', a', b', c', e', u', z1, z2, by rw [z3, g1], z4⟩
      · have hm : l - l.fdiv r * r ≠ 0 := by
          intro z
          rw [z] at hs
          exact hs (Nat.pow_pos (by omega))
        have two := fm_two l r hr hm
        generalize hmm : l - l.fdiv r * r = m at *
        obtain ⟨f2, rfl⟩ : ∃ f2, f = f2 + 1 := ⟨f - 1, by omega⟩
        have p2 : 2 ^ (k + 1) = 2 * 2 ^ k := by rw [Nat.pow_succ]; omega
        have q2 := fd_le r m hm
        have a2 := grow (upT h7 (by omega : t ≤ t + 201)) (by omega : (r.fdiv m).natAbs < 2 ^ 200) a1
        have b2 := grow (upT h8 (by omega : t ≤ t + 201)) (by omega : (r.fdiv m).natAbs < 2 ^ 200) b1
        have l2 := lin (q := r.fdiv m) h11 l1
        unfold loopN
        rw [go6 Φ x y r m c e _ _ _ hm (by omega) r200 (upW (n := 0) a1 (by omega)) (upW (n := 0) b1 (by omega))]
        dsimp only
        have g2 := gcd_turn r m (r.fdiv m)
        obtain ⟨l', a', b', c', e', u', z1, z2, z3, z4⟩ := ih f2 (t + 201 + 201) m _ _ _ _ _ (some (.d (.int (r.fdiv m)))) (by omega) (by omega) (by omega) (by omega) (upT a1 (by omega)) (upT b1 (by omega)) a2 b2 (by omega) l1 l2
        exact ⟨l', a', b', c', e', u', z1, z2, by rw [z3, g2, g1], z4⟩
theorem r6 (d : Nat) (x y : Int) (hx : x.natAbs < 2 ^ 199) (hy : y.natAbs < 2 ^ 199) : ∃ p q : Int, oRun fs (d + 1) 6 [.d (.int x), .d (.int y)] = .ok (.d (.tup [.int p, .int q]), [none, none]) [] ∧ p * x + q * y = Int.gcd x y ∧ p.natAbs < WM ∧ q.natAbs < WM := by
  obtain ⟨l, a, b, c, e, u, z1, z2, z3, z4, z5⟩ := loop6 (oRun fs d) x y 199 FUEL 1 x y 1 0 0 1 none (by omega) (by omega) (by decide) (by omega) (by decide) (by decide) (by decide) (by decide) (by omega) (by omega) (by omega)
  have hw : oX (oRun fs d) (.whl c6 b6) (S6 x y x y 1 0 0 1 none) = .nx (S6 x y l 0 a b c e u) := by rw [x_whl]; exact z1
  simp only [c6, b6, t6, S6] at hw
  by_cases hl : 0 ≤ l
  · refine ⟨a, b, ?_, by omega, z4, z5⟩
    rw [run_at rfl rfl]
    simp [t6, startS, hw, hl]
  · refine ⟨-a, -b, ?_, ?_, by omega, by omega⟩
    · rw [run_at rfl rfl]
      simp [t6, startS, hw, hl]
    · rw [Int.neg_mul, Int.neg_mul]
      omega
theorem r8 (d : Nat) (x y : Int) (h : x.natAbs ≤ 10 ^ 40) (h2 : y.natAbs ≤ 10 ^ 40) : oRun fs (d + 6) 8 [.d (.int x), .d (.int y)] = .ok (.d (.int (Int.gcd x y)), [none, none]) [] := by
  rw [run_at rfl rfl]
  simp [t8, startS, r7 d x y h h2, r4 (d + 4) x y (by omega)]
theorem r9 (d : Nat) (x y : Int) (h : x.natAbs ≤ 10 ^ 40) (h2 : y.natAbs ≤ 10 ^ 40) : oRun fs (d + 6) 9 [.d (.int x), .d (.int y)] = .ok (.d (.int (Int.lcm x y)), [none, none]) [] := by
  rw [run_at rfl rfl]
  simp [t9, startS, r7 d x y h h2, r5 (d + 3) x y (by omega) (by omega)]
theorem r10 (d : Nat) (x y : Int) (h : x.natAbs ≤ 10 ^ 40) (h2 : y.natAbs ≤ 10 ^ 40) : ∃ p q : Int, oRun fs (d + 6) 10 [.d (.int x), .d (.int y)] = .ok (.d (.tup [.int p, .int q]), [none, none]) [] ∧ p * x + q * y = Int.gcd x y ∧ p.natAbs < WM ∧ q.natAbs < WM := by
  obtain ⟨p, q, e, z⟩ := r6 (d + 4) x y (by omega) (by omega)
  refine ⟨p, q, ?_, z⟩
  rw [run_at rfl rfl]
  simp [t10, startS, r7 d x y h h2, e]
/-- the law's own keg -/
def keg (a b c : Int) : List D := [.int a, .int b, .int c]
structure KegOk (a b c : Int) : Prop where
  ha : 0 ≤ a
  hb : 0 ≤ b
  hb2 : b < 2147482801
theorem mulS {i j : Int} (h : i.natAbs < 2 ^ 64) : mulOk i j = true := by
  unfold mulOk
  rw [Bool.or_eq_true, Bool.or_eq_true]
  exact .inl (.inl (decide_eq_true (Nat.lt_of_lt_of_eq h (by unfold W64; rfl))))
theorem mulS' {i j : Int} (h : j.natAbs < 2 ^ 64) : mulOk i j = true := by
  unfold mulOk
  rw [Bool.or_eq_true, Bool.or_eq_true]
  exact .inl (.inr (decide_eq_true (Nat.lt_of_lt_of_eq h (by unfold W64; rfl))))
theorem r12 (d : Nat) (a b c u : Int) (ok : KegOk a b c) (hu : 0 < u) (hu2 : u.natAbs < 2 ^ 200) : ∃ r a' b' c', oRun fs (d + 1) 12 [.own true (keg a b c), .d (.int u)] = .ok (.d (.int r), [some (.own true (keg a' b' c')), none]) [] ∧ KegOk a' b' c' ∧ 0 ≤ r ∧ r < u := by
  by_cases h : 0 < a
  · refine ⟨a % u, a / u, b, c, ?_, ⟨Int.ediv_nonneg ok.ha (by omega), ok.hb, ok.hb2⟩, Int.emod_nonneg _ (by omega), Int.emod_lt_of_pos _ hu⟩
    rw [run_at rfl rfl]
    simp [t12, startS, keg, h, bf_divmod hu (small4 hu2)]
  · have d1 := bin_div (i := b) (j := 8) (by decide) (by decide +kernel)
    have m1 := bin_mod (i := b / 8) (j := 43003) (by decide)
    have k1 : mulOk b (b / 8 % 43003 + 89) = true := mulS (by have := ok.hb; have := ok.hb2; omega)
    have k2 : mulOk 10103 (c + 1) = true := mulS (by decide)
    have p0 : (0 : Int) < 2147482801 := by decide
    have m2 := bin_mod (i := b * (b / 8 % 43003 + 89) + 10103 * (c + 1) + 53) p0
    generalize hb : (b * (b / 8 % 43003 + 89) + 10103 * (c + 1) + 53) % 2147482801 = b' at m2
    have d2 := bin_div (i := b') (j := 8192) (by decide) (by decide +kernel)
    have m3 := bin_mod (i := b' / 8192) hu
    refine ⟨b' / 8192 % u, a, b', c + 1, ?_, ⟨ok.ha, ?_, ?_⟩, Int.emod_nonneg _ (by omega), Int.emod_lt_of_pos _ hu⟩
    · rw [run_at rfl rfl]
      simp [t12, startS, keg, h, d1, m1, bin_mul k1, bin_mul k2, m2, d2, m3]
    · rw [← hb]
      exact Int.emod_nonneg _ (by decide)
    · rw [← hb]
      exact Int.emod_lt_of_pos _ p0
/-- a thing of a list -/
theorem r13 (d : Nat) (a b c : Int) (xs : List D) (ok : KegOk a b c) (hx : 0 < xs.length) (hx2 : xs.length < 2 ^ 100) : ∃ (i : Nat) (v : D) (a' b' c' : Int), oRun fs (d + 2) 13 [.own true (keg a b c), .own false xs] = .ok (.d v, [some (.own true (keg a' b' c')), none]) [] ∧ KegOk a' b' c' ∧ xs[i]? = some v := by
  obtain ⟨r, a', b', c', e, ok', r0, r1⟩ := r12 d a b c xs.length ok (by omega) (by omega)
  obtain ⟨n, rfl⟩ : ∃ n : Nat, r = (n : Int) := ⟨r.toNat, by omega⟩
  have hn : n < xs.length := by omega
  refine ⟨n, xs[n], a', b', c', ?_, ok', List.getElem?_eq_getElem hn⟩
  rw [run_at rfl rfl]
  simp [t13, startS, e, hn]

end MI.K01

set_option Elab.async false
set_option linter.all false
set_option maxRecDepth 100000
set_option maxHeartbeats 4000000
set_option exponentiation.threshold 300
namespace MI.K01
open MI PySem
def b15 : T := match t15 with
  | .seq _ (.seq _ (.seq _ (.seq _ (.seq (.for _ _ b) _)))) => b
  | _ => .nil
theorem loop15 (d : Nat) (way side : Int) : ∀ (ds : List D) (a b c v : Int) (u : Option Vl), (∀ x ∈ ds, ∃ n : Int, x = .int n) → KegOk a b c → v.natAbs * 9000001 ^ ds.length < 2 ^ 150 →
    ∃ a' b' c' v' u', loopL (oF (oRun fs (d + 2)) (.var 4) b15) ds [some (.own true (keg a b c)), some (.d (.int way)), some (.d (.int side)), some (.d (.int v)), u] = .nx [some (.own true (keg a' b' c')), some (.d (.int way)), some (.d (.int side)), some (.d (.int v')), u'] ∧ KegOk a' b' c' ∧ v'.natAbs ≤ v.natAbs * 9000001 ^ ds.length
  | [], a, b, c, v, u, hd, ok, h => ⟨a, b, c, v, u, rfl, ok, by simp⟩
  | x :: ds, a, b, c, v, u, hd, ok, h => by
    obtain ⟨n, rfl⟩ := hd x List.mem_cons_self
    obtain ⟨r, a1, b1, c1, e1, ok1, z1, z2⟩ := r12 (d + 1) a b c 9000000 ok (by decide) (by decide)
    have le : (v * (2 + r)).natAbs ≤ v.natAbs * 9000001 := by
      rw [Int.natAbs_mul]
      exact Nat.mul_le_mul_left _ (by omega)
    have le2 : (v * (2 + r)).natAbs * 9000001 ^ ds.length ≤ v.natAbs * 9000001 ^ (ds.length + 1) := by
      rw [Nat.pow_succ, Nat.mul_comm (9000001 ^ ds.length), ← Nat.mul_assoc]
      exact Nat.mul_le_mul_right _ le
    obtain ⟨a2, b2, c2, v2, u2, e2, ok2, h2⟩ := loop15 d way side ds a1 b1 c1 (v * (2 + r)) (some (.d (.int n))) (fun x hx => hd x (List.mem_cons_of_mem _ hx)) ok1 (Nat.lt_of_le_of_lt le2 h)
    refine ⟨a2, b2, c2, v2, u2, ?_, ok2, Nat.le_trans h2 le2⟩
    have st : oF (oRun fs (d + 2)) (.var 4) b15 (.int n) [some (.own true (keg a b c)), some (.d (.int way)), some (.d (.int side)), some (.d (.int v)), u] = .nx [some (.own true (keg a1 b1 c1)), some (.d (.int way)), some (.d (.int side)), some (.d (.int (v * (2 + r)))), some (.d (.int n))] := by
      simp [b15, t15, e1, bin_mul (mulS' (i := v) (j := 2 + r) (by omega))]
    rw [loopL_cons, st]
    exact e2
theorem rangeL_int (lo : Int) (n : Nat) : ∀ x ∈ rangeL lo n, ∃ k : Int, x = .int k := fun x hx => by
  unfold rangeL at hx
  obtain ⟨k, _, rfl⟩ := List.mem_map.mp hx
  exact ⟨_, rfl⟩
theorem p30 : bin .Mult (.int 2) (.int 1000000000000000000000000000000) = some (.d (.int 2000000000000000000000000000000)) := by
  have e : (2:Int) * 1000000000000000000000000000000 = 2000000000000000000000000000000 := by decide
  rw [bin_mul (mulS (by decide)), e]

theorem r15a (d : Nat) (a b c w sd a1 b1 c1 a2 b2 c2 : Int) (ok2 : KegOk a2 b2 c2) (e1 : oRun fs (d + 2) 12 [.own true (keg a b c), .d (.int 8)] = .ok (.d (.int w), [some (.own true (keg a1 b1 c1)), none]) []) (e2 : oRun fs (d + 2) 13 [.own true (keg a1 b1 c1), .own false [.int 1, .int 1, .int (-1)]] = .ok (.d (.int sd), [some (.own true (keg a2 b2 c2)), none]) []) (hsd : sd.natAbs = 1) (h4 : w < 4) :
    ∃ x a' b' c', oRun fs (d + 3) 15 [.own true (keg a b c)] = .ok (.d (.int x), [some (.own true (keg a' b' c'))]) [] ∧ KegOk a' b' c' ∧ x.natAbs ≤ 10 ^ 40 := by
  obtain ⟨r, a3, b3, c3, e3, ok3, z1, z2⟩ := r12 (d + 1) a2 b2 c2 200 ok2 (by decide) (by decide)
  refine ⟨sd * r, a3, b3, c3, ?_, ok3, ?_⟩
  · rw [run_at rfl rfl]
    simp [t15, startS, e1, e2, h4, e3, bin_mul (mulS (i := sd) (j := r) (by omega))]
  · rw [Int.natAbs_mul, hsd]
    omega
theorem big4 {i : Nat} {s : D} (hs : [D.int 10000000000000000000000000000000000000000, .int 9999999999999999999999999999999999999999, .int 2000000000000000000000000000000, .int 0][i]? = some s) : ∃ r : Int, s = .int r ∧ r.natAbs ≤ 10 ^ 40 := by
  rcases i with _ | _ | _ | _ | i
  · exact ⟨10000000000000000000000000000000000000000, (Option.some.inj hs).symm, by omega⟩
  · exact ⟨9999999999999999999999999999999999999999, (Option.some.inj hs).symm, by omega⟩
  · exact ⟨2000000000000000000000000000000, (Option.some.inj hs).symm, by omega⟩
  · exact ⟨0, (Option.some.inj hs).symm, by omega⟩
  · simp at hs
theorem r15b (d : Nat) (a b c sd a1 b1 c1 a2 b2 c2 : Int) (ok2 : KegOk a2 b2 c2) (e1 : oRun fs (d + 2) 12 [.own true (keg a b c), .d (.int 8)] = .ok (.d (.int 4), [some (.own true (keg a1 b1 c1)), none]) []) (e2 : oRun fs (d + 2) 13 [.own true (keg a1 b1 c1), .own false [.int 1, .int 1, .int (-1)]] = .ok (.d (.int sd), [some (.own true (keg a2 b2 c2)), none]) []) (hsd : sd.natAbs = 1) :
    ∃ x a' b' c', oRun fs (d + 3) 15 [.own true (keg a b c)] = .ok (.d (.int x), [some (.own true (keg a' b' c'))]) [] ∧ KegOk a' b' c' ∧ x.natAbs ≤ 10 ^ 40 := by
  obtain ⟨i, s, a3, b3, c3, e3, ok3, hs⟩ := r13 d a2 b2 c2 [.int 10000000000000000000000000000000000000000, .int 9999999999999999999999999999999999999999, .int 2000000000000000000000000000000, .int 0] ok2 (by decide) (by decide)
  obtain ⟨r, rfl, hr⟩ := big4 hs
  have p1 := bin_pow (i := 10) (j := 40) (by decide) (by decide) (by decide)
  have p2 := bin_pow (i := 10) (j := 30) (by decide) (by decide) (by decide)
  have p3 := p30
  have p4 : bin .Mult (.int sd) (.int r) = _ := bin_mul (mulS (i := sd) (j := r) (by omega))
  refine ⟨sd * r, a3, b3, c3, ?_, ok3, ?_⟩
  · rw [run_at rfl rfl]
    simp [t15, startS, e1, e2, p1, p2, p3, p4, e3]
  · rw [Int.natAbs_mul, hsd]
    omega
theorem fives {i : Nat} {s : D} (hs : [D.int 2, .int 3, .int 5][i]? = some s) : ∃ n : Nat, s = .int n ∧ n ≤ 5 := by
  rcases i with _ | _ | _ | i
  · exact ⟨2, (Option.some.inj hs).symm, by omega⟩
  · exact ⟨3, (Option.some.inj hs).symm, by omega⟩
  · exact ⟨5, (Option.some.inj hs).symm, by omega⟩
  · simp at hs
theorem pow9 {n : Nat} (hn : n ≤ 5) : 9000001 ^ n ≤ 10 ^ 36 := Nat.le_trans (Nat.pow_le_pow_right (by decide) hn) (by decide)
theorem for15 (d : Nat) (w sd a2 b2 c2 a3 b3 c3 a4 b4 c4 v : Int) (n : Nat) (u : Option Vl) (e3 : oRun fs (d + 2) 13 [.own true (keg a2 b2 c2), .own false [.int 2, .int 3, .int 5]] = .ok (.d (.int n), [some (.own true (keg a3 b3 c3)), none]) []) (hn : n ≤ 5)
    (e4 : loopL (oF (oRun fs (d + 2)) (.var 4) b15) (rangeL 0 n) [some (.own true (keg a3 b3 c3)), some (.d (.int w)), some (.d (.int sd)), some (.d (.int 1)), none] = .nx [some (.own true (keg a4 b4 c4)), some (.d (.int w)), some (.d (.int sd)), some (.d (.int v)), u]) :
    oX (oRun fs (d + 2)) (.for (.var 4) (.rng (.cons (.call 13 (.cons (.var 0) (.cons (.lst (.cons (.con (.int 2)) (.cons (.con (.int 3)) (.cons (.con (.int 5)) .nil)))) .nil))) .nil)) b15) [some (.own true (keg a2 b2 c2)), some (.d (.int w)), some (.d (.int sd)), some (.d (.int 1)), none] = .nx [some (.own true (keg a4 b4 c4)), some (.d (.int w)), some (.d (.int sd)), some (.d (.int v)), u] := by
  have h : oE (oRun fs (d + 2)) (.call 13 (.cons (.var 0) (.cons (.lst (.cons (.con (.int 2)) (.cons (.con (.int 3)) (.cons (.con (.int 5)) .nil)))) .nil))) [some (.own true (keg a2 b2 c2)), some (.d (.int w)), some (.d (.int sd)), some (.d (.int 1)), none] = .ok (.d (.int (n : Int))) [some (.own true (keg a3 b3 c3)), some (.d (.int w)), some (.d (.int sd)), some (.d (.int 1)), none] := by
    simp [e3]
  rw [x_for, rng1_of h (Nat.le_trans hn (by decide))]
  exact e4
theorem r15c (d : Nat) (a b c w sd a1 b1 c1 a2 b2 c2 : Int) (ok2 : KegOk a2 b2 c2) (e1 : oRun fs (d + 2) 12 [.own true (keg a b c), .d (.int 8)] = .ok (.d (.int w), [some (.own true (keg a1 b1 c1)), none]) []) (e2 : oRun fs (d + 2) 13 [.own true (keg a1 b1 c1), .own false [.int 1, .int 1, .int (-1)]] = .ok (.d (.int sd), [some (.own true (keg a2 b2 c2)), none]) []) (hsd : sd.natAbs = 1) (h4 : ¬ w < 4) (h5 : w ≠ 4) :
    ∃ x a' b' c', oRun fs (d + 3) 15 [.own true (keg a b c)] = .ok (.d (.int x), [some (.own true (keg a' b' c'))]) [] ∧ KegOk a' b' c' ∧ x.natAbs ≤ 10 ^ 40 := by
  obtain ⟨i, s, a3, b3, c3, e3, ok3, hs⟩ := r13 d a2 b2 c2 [.int 2, .int 3, .int 5] ok2 (by decide) (by decide)
  obtain ⟨n, rfl, hn⟩ := fives hs
  have hp := pow9 hn
  obtain ⟨a4, b4, c4, v, u, e4, ok4, hv⟩ := loop15 d w sd (rangeL 0 n) a3 b3 c3 1 none (rangeL_int 0 n) ok3 (by
    rw [rangeL_len, show (1 : Int).natAbs = 1 from rfl, Nat.one_mul]
    exact Nat.lt_of_le_of_lt hp (by decide))
  rw [rangeL_len, show (1 : Int).natAbs = 1 from rfl, Nat.one_mul] at hv
  have hv : v.natAbs ≤ 10 ^ 40 := Nat.le_trans hv (Nat.le_trans hp (by decide))
  have p4 : bin .Mult (.int sd) (.int v) = _ := bin_mul (mulS (i := sd) (j := v) (by rw [hsd]; decide))
  refine ⟨sd * v, a4, b4, c4, ?_, ok4, ?_⟩
  · rw [run_at rfl rfl]
    have f := for15 d w sd a2 b2 c2 a3 b3 c3 a4 b4 c4 v n u e3 hn e4
    simp only [b15, t15] at f
    simp [t15, startS, e1, e2, h4, h5, f, p4]
  · rw [Int.natAbs_mul, hsd, Nat.one_mul]
    exact hv
theorem side {i : Nat} {s : D} (hs : [D.int 1, .int 1, .int (-1)][i]? = some s) : ∃ sd : Int, s = .int sd ∧ sd.natAbs = 1 := by
  rcases i with _ | _ | _ | i
  · exact ⟨1, (Option.some.inj hs).symm, by omega⟩
  · exact ⟨1, (Option.some.inj hs).symm, by omega⟩
  · exact ⟨-1, (Option.some.inj hs).symm, by omega⟩
  · simp at hs
theorem r15 (d : Nat) (a b c : Int) (ok : KegOk a b c) :
    ∃ x a' b' c', oRun fs (d + 3) 15 [.own true (keg a b c)] = .ok (.d (.int x), [some (.own true (keg a' b' c'))]) [] ∧ KegOk a' b' c' ∧ x.natAbs ≤ 10 ^ 40 := by
  obtain ⟨w, a1, b1, c1, e1, ok1, w0, w8⟩ := r12 (d + 1) a b c 8 ok (by decide) (by decide)
  obtain ⟨i, s, a2, b2, c2, e2, ok2, hs⟩ := r13 d a1 b1 c1 [.int 1, .int 1, .int (-1)] ok1 (by decide) (by decide)
  obtain ⟨sd, rfl, hsd⟩ := side hs
  by_cases h4 : w < 4
  · exact r15a d a b c w sd a1 b1 c1 a2 b2 c2 ok2 e1 e2 hsd h4
  · by_cases h5 : w = 4
    · subst h5
      exact r15b d a b c sd a1 b1 c1 a2 b2 c2 ok2 e1 e2 hsd
    · exact r15c d a b c w sd a1 b1 c1 a2 b2 c2 ok2 e1 e2 hsd h4 h5
end MI.K01

set_option Elab.async false
set_option linter.all false
set_option maxRecDepth 100000
set_option maxHeartbeats 4000000
set_option exponentiation.threshold 300
namespace MI.K01
open MI PySem

/-- the two ways in which numbers are shown twice and compared -/
theorem same4 (g : Int) (hg : g.natAbs < 2 ^ 400) : bf1 .repr [.lst [.int g, .int g, .int g, .int g]] = some (.d (.str (PyData.list ([g, g, g, g].map .int)).shown)) := repr_ints [g, g, g, g] (fun n hn => by simp at hn; subst hn; exact log_of hg) (by simp)
theorem same3 (g : Int) (hg : g.natAbs < 2 ^ 400) : bf1 .repr [.lst [.int g, .int g, .int g]] = some (.d (.str (PyData.list ([g, g, g].map .int)).shown)) := repr_ints [g, g, g] (fun n hn => by simp at hn; subst hn; exact log_of hg) (by simp)
def u16 (n : Nat) : T → T
  | .seq a b => match n with
    | 0 => a
    | n + 1 => u16 n b
  | t => t
def rest16 (n : Nat) : T → T := fun t => match n, t with
  | 0, t => t
  | n + 1, .seq _ b => rest16 n b
  | _, _ => .nil
/-- what the state is behind the first steps -/
def S16 (x y z g m : Int) (t e : Option Vl) : S := [some (.d (.int x)), some (.d (.int y)), some (.d (.int z)), some (.d (.int g)), some (.d (.int m)), t, e]
theorem mul4 (g : Int) : bin .Mult (.lst [.int g]) (.int 4) = some (.own false [.int g, .int g, .int g, .int g]) := rfl
theorem mul3 (g : Int) : bin .Mult (.lst [.int g]) (.int 3) = some (.own false [.int g, .int g, .int g]) := rfl
theorem s16a (d : Nat) (x y z : Int) (hx : x.natAbs ≤ 10 ^ 40) (hy : y.natAbs ≤ 10 ^ 40) : oX (oRun fs (d + 7)) (u16 0 t16) [some (.d (.int x)), some (.d (.int y)), some (.d (.int z)), none, none, none, none] = .nx [some (.d (.int x)), some (.d (.int y)), some (.d (.int z)), some (.d (.int (Int.gcd x y))), none, none, none] := by
  simp [u16, t16, r14 (d + 6) x y (by omega)]
theorem gcd_small (x y : Int) (hx : x.natAbs ≤ 10 ^ 40) (hy : y.natAbs ≤ 10 ^ 40) : Int.gcd x y ≤ 10 ^ 40 := by
  by_cases h : x.natAbs = 0
  · rw [Int.gcd, h, Nat.gcd_zero_left]
    exact hy
  · exact Nat.le_trans (Nat.gcd_le_left _ (by omega)) hx
theorem s16b (d : Nat) (x y z : Int) (hx : x.natAbs ≤ 10 ^ 40) (hy : y.natAbs ≤ 10 ^ 40) : oX (oRun fs (d + 7)) (u16 1 t16) [some (.d (.int x)), some (.d (.int y)), some (.d (.int z)), some (.d (.int (Int.gcd x y))), none, none, none] = .nx [some (.d (.int x)), some (.d (.int y)), some (.d (.int z)), some (.d (.int (Int.gcd x y))), none, none, none] := by
  have g := gcd_small x y hx hy
  have e1 := r8 (d + 1) x y hx hy
  have e2 := r8 (d + 1) y x hy hx
  have e3 := r8 (d + 1) (-x) y (by omega) hy
  rw [Int.gcd_comm] at e2
  rw [Int.neg_gcd] at e3
  have sm := same4 (Int.gcd x y) (by omega)
  simp [u16, t16, pick, e1, e2, e3, mul4, sm]
theorem lcm_small (x y : Int) (hx : x.natAbs ≤ 10 ^ 40) (hy : y.natAbs ≤ 10 ^ 40) : Int.lcm x y ≤ 10 ^ 80 := by
  have h : Int.lcm x y ≤ x.natAbs * y.natAbs := Nat.div_le_self _ _
  exact Nat.le_trans h (Nat.le_trans (Nat.mul_le_mul hx hy) (by decide))
theorem s16c (d : Nat) (x y z : Int) (hx : x.natAbs ≤ 10 ^ 40) (hy : y.natAbs ≤ 10 ^ 40) : oX (oRun fs (d + 7)) (u16 2 t16) [some (.d (.int x)), some (.d (.int y)), some (.d (.int z)), some (.d (.int (Int.gcd x y))), none, none, none] = .nx (S16 x y z (Int.gcd x y) (Int.lcm x y) none none) := by
  have g := gcd_small x y hx hy
  by_cases zx : x = 0
  · subst zx
    simp [u16, t16, S16]
  · by_cases zy : y = 0
    · subst zy
      simp [u16, t16, S16, zx]
    · have mo : mulOk x y = true := mul_ok (by omega) (by omega)
      have gp : 0 < Int.gcd x y := Int.gcd_pos_of_ne_zero_left y zx
      have dv := bin_div (i := ((x * y).natAbs : Nat)) (j := (Int.gcd x y : Nat)) (by omega) (small4 (by simp; omega))
      simp [u16, t16, S16, zx, zy, bin_mul mo, dv]
      rw [Int.lcm, Nat.lcm, Int.natAbs_mul]
      rfl

theorem gcd_lcm (x y : Int) : Int.gcd (Int.lcm x y) x = x.natAbs := by
  show Nat.gcd (Int.natAbs (Nat.lcm x.natAbs y.natAbs : Nat)) x.natAbs = _
  rw [Int.natAbs_natCast]
  exact Nat.gcd_eq_right (Nat.dvd_lcm_left _ _)
theorem gcd_lcm' (x y : Int) : Int.gcd y (Int.lcm x y) = y.natAbs := by
  show Nat.gcd y.natAbs (Int.natAbs (Nat.lcm x.natAbs y.natAbs : Nat)) = _
  rw [Int.natAbs_natCast]
  exact Nat.gcd_eq_left (Nat.dvd_lcm_right _ _)
theorem pow40 : bin .Pow (.int 10) (.int 40) = some (.d (.int 10000000000000000000000000000000000000000)) := by
  rw [bin_pow (by decide) (by decide) (by decide)]
  rfl
theorem pow20 : bin .Pow (.int 10) (.int 20) = some (.d (.int 100000000000000000000)) := by
  rw [bin_pow (by decide) (by decide) (by decide)]
  rfl
theorem s16d' (d : Nat) (x y z g m : Int) (h : 0 < m → m ≤ 10000000000000000000000000000000000000000 → oRun fs (d + 7) 8 [.d (.int m), .d (.int x)] = .ok (.d (.int x.natAbs), [none, none]) [] ∧ oRun fs (d + 7) 8 [.d (.int y), .d (.int m)] = .ok (.d (.int y.natAbs), [none, none]) []) : oX (oRun fs (d + 7)) (u16 3 t16) (S16 x y z g m none none) = .nx (S16 x y z g m none none) := by
  by_cases h0 : 0 < m
  · by_cases h1 : m ≤ 10000000000000000000000000000000000000000
    · obtain ⟨e1, e2⟩ := h h0 h1
      have ne := ne_ints [(x.natAbs : Int), (y.natAbs : Int)]
      simp only [List.map_cons, List.map_nil] at ne
      simp [u16, t16, S16, h0, h1, pow40, e1, e2, ne]
    · simp [u16, t16, S16, h0, h1, pow40]
  · simp [u16, t16, S16, h0, pow40]
theorem s16d (d : Nat) (x y z : Int) (hx : x.natAbs ≤ 10 ^ 40) (hy : y.natAbs ≤ 10 ^ 40) : oX (oRun fs (d + 7)) (u16 3 t16) (S16 x y z (Int.gcd x y) (Int.lcm x y) none none) = .nx (S16 x y z (Int.gcd x y) (Int.lcm x y) none none) := by
  refine s16d' d x y z _ _ fun h0 h1 => ?_
  have e1 := r8 (d + 1) (Int.lcm x y) x (by omega) hx
  have e2 := r8 (d + 1) y (Int.lcm x y) hy (by omega)
  rw [gcd_lcm] at e1
  rw [gcd_lcm'] at e2
  exact ⟨e1, e2⟩
theorem s16e (d : Nat) (x y z : Int) (hx : x.natAbs ≤ 10 ^ 40) (hy : y.natAbs ≤ 10 ^ 40) : oX (oRun fs (d + 7)) (u16 4 t16) (S16 x y z (Int.gcd x y) (Int.lcm x y) none none) = .nx (S16 x y z (Int.gcd x y) (Int.lcm x y) none none) := by
  have g := lcm_small x y hx hy
  have e1 := r9 (d + 1) x y hx hy
  have e2 := r9 (d + 1) y (-x) hy (by omega)
  have q : Int.lcm y (-x) = Int.lcm x y := by
    show Nat.lcm y.natAbs (-x).natAbs = Nat.lcm x.natAbs y.natAbs
    rw [Int.natAbs_neg, Nat.lcm_comm]
  rw [q] at e2
  have sm := same3 (Int.lcm x y) (by omega)
  simp [u16, t16, S16, pick, e1, e2, mul3, sm]
theorem eq_nil : cmp .NotEq (.lst []) (.lst []) = some false := ne_ints []
def b16 : T := match u16 5 t16 with
  | .for _ _ b => b
  | _ => .nil
theorem comp16 (Φ : Call) (x y z g m p q : Int) : oE Φ (.comp [6] (.var 6) (.it (.var 5)) (.or (.bf .isinst (.cons (.var 6) (.cons (.con (.ty "bool")) .nil))) (.nt (.bf .isinst (.cons (.var 6) (.cons (.con (.ty "int")) .nil))))) (.var 6)) (S16 x y z g m (some (.d (.tup [.int p, .int q]))) none) = .ok (.own false []) (S16 x y z g m (some (.d (.tup [.int p, .int q]))) none) := by
  rw [e_comp]
  simp [S16, wipeS, compL, turnC, joinO, unwipe]
theorem b16_ok (Φ : Call) (x y z g m p q : Int) (t : Option Vl) (h : p * x + q * y = g) (hx : x.natAbs < 2 ^ 200) (hy : y.natAbs < 2 ^ 200) (hp : p.natAbs < WM) (hq : q.natAbs < WM) :
    oF Φ (.var 5) b16 (.tup [.int p, .int q]) (S16 x y z g m t none) = .nx (S16 x y z g m (some (.d (.tup [.int p, .int q]))) none) := by
  have c := comp16 Φ x y z g m p q
  have m1 := bin_mul (mulM hp (smallM hx))
  have m2 := bin_mul (mulM hq (smallM hy))
  simp only [S16] at c
  simp [b16, u16, t16, S16, c, eq_nil, m1, m2, h]
theorem s16f (d : Nat) (x y z : Int) (hx : x.natAbs ≤ 10 ^ 40) (hy : y.natAbs ≤ 10 ^ 40) : ∃ t, oX (oRun fs (d + 7)) (u16 5 t16) (S16 x y z (Int.gcd x y) (Int.lcm x y) none none) = .nx (S16 x y z (Int.gcd x y) (Int.lcm x y) t none) := by
  obtain ⟨p, q, e, h, hp, hq⟩ := r10 (d + 1) x y hx hy
  refine ⟨some (.d (.tup [.int p, .int q])), ?_⟩
  have one := fun t => b16_ok (oRun fs (d + 7)) x y z (Int.gcd x y) (Int.lcm x y) p q t h (by omega) (by omega) hp hq
  show oX (oRun fs (d + 7)) (.for (.var 5) (.it (.lst (.cons (.call 10 (.cons (.var 0) (.cons (.var 1) .nil))) (.cons (.callk 10 [1, 0] .nil (.cons (.var 1) (.cons (.var 0) .nil))) .nil)))) b16) _ = _
  have it : oI (oRun fs (d + 7)) (.it (.lst (.cons (.call 10 (.cons (.var 0) (.cons (.var 1) .nil))) (.cons (.callk 10 [1, 0] .nil (.cons (.var 1) (.cons (.var 0) .nil))) .nil)))) (S16 x y z (Int.gcd x y) (Int.lcm x y) none none) = .ok [.tup [.int p, .int q], .tup [.int p, .int q]] (S16 x y z (Int.gcd x y) (Int.lcm x y) none none) := by
    simp [S16, pick, e]
  rw [x_for, it]
  dsimp only
  rw [loopL_cons, one]
  dsimp only
  rw [loopL_cons, one]
  rfl

theorem gcd_shift (x y z : Int) : Int.gcd x (y + z * x) = Int.gcd x y := by
  have h := gcd_turn y x (-z)
  rw [Int.neg_mul, Int.sub_neg] at h
  rw [h, Int.gcd_comm]
theorem s16g' (d : Nat) (x y z g m : Int) (t : Option Vl) (mxz : mulOk x z = true) (myz : mulOk y z = true) (mzx : mulOk z x = true) (mgz : mulOk g (z.natAbs : Int) = true) (h : (x.natAbs : Int) < 100000000000000000000 → (y.natAbs : Int) < 100000000000000000000 → oRun fs (d + 7) 8 [.d (.int x), .d (.int (y + z * x))] = .ok (.d (.int g), [none, none]) [] ∧ oRun fs (d + 7) 8 [.d (.int (x * z)), .d (.int (y * z))] = .ok (.d (.int (g * z.natAbs)), [none, none]) []) :
    oX (oRun fs (d + 7)) (u16 6 t16) (S16 x y z g m t none) = .nx (S16 x y z g m t none) := by
  have m1 := bin_mul mxz
  have m2 := bin_mul myz
  have m3 := bin_mul mzx
  have m4 := bin_mul mgz
  by_cases h0 : (x.natAbs : Int) < 100000000000000000000
  · by_cases h1 : (y.natAbs : Int) < 100000000000000000000
    · obtain ⟨e1, e2⟩ := h h0 h1
      generalize hx : (x.natAbs : Int) = ax at *
      generalize hy : (y.natAbs : Int) = ay at *
      generalize hz : (z.natAbs : Int) = az at *
      simp [u16, t16, S16, hx, hy, hz, h0, h1, pow20, m1, m2, m3, m4, e1, e2]
    · generalize hx : (x.natAbs : Int) = ax at *
      generalize hy : (y.natAbs : Int) = ay at *
      simp [u16, t16, S16, hx, hy, h0, h1, pow20]
  · generalize hx : (x.natAbs : Int) = ax at *
    simp [u16, t16, S16, hx, h0, pow20]
theorem s16g (d : Nat) (x y z : Int) (t : Option Vl) (hx : x.natAbs ≤ 10 ^ 40) (hy : y.natAbs ≤ 10 ^ 40) (hz : z.natAbs ≤ 1000) : oX (oRun fs (d + 7)) (u16 6 t16) (S16 x y z (Int.gcd x y) (Int.lcm x y) t none) = .nx (S16 x y z (Int.gcd x y) (Int.lcm x y) t none) := by
  have g := gcd_small x y hx hy
  refine s16g' d x y z _ _ t (mulS' (by omega)) (mulS' (by omega)) (mulS (by omega)) (mulS' (by omega)) fun h0 h1 => ?_
  have b1 : (z * x).natAbs ≤ 1000 * 10 ^ 20 := by
    rw [Int.natAbs_mul]
    exact Nat.mul_le_mul hz (by omega)
  have b2 : (x * z).natAbs ≤ 10 ^ 20 * 1000 := by
    rw [Int.natAbs_mul]
    exact Nat.mul_le_mul (by omega) hz
  have b3 : (y * z).natAbs ≤ 10 ^ 20 * 1000 := by
    rw [Int.natAbs_mul]
    exact Nat.mul_le_mul (by omega) hz
  have e1 := r8 (d + 1) x (y + z * x) hx (by omega)
  have e2 := r8 (d + 1) (x * z) (y * z) (by omega) (by omega)
  rw [gcd_shift] at e1
  rw [Int.gcd_mul_right] at e2
  exact ⟨e1, by rw [Int.natCast_mul] at e2; exact e2⟩
theorem s16h (d : Nat) (x y z g m : Int) (t : Option Vl) (hx : x.natAbs ≤ 10 ^ 40) (hy : y.natAbs ≤ 10 ^ 40) : oX (oRun fs (d + 7)) (rest16 7 t16) (S16 x y z g m t none) = .rt (.d (.bl true)) (S16 x y z g m t none) := by
  obtain ⟨p, q, e, h, hp, hq⟩ := r10 (d + 1) x 0 hx (by decide)
  obtain ⟨p2, q2, e2, h2, hp2, hq2⟩ := r10 (d + 1) 0 y (by decide) hy
  have m1 := bin_mul (mulM hp (smallM (j := x) (by omega)))
  have m2 := bin_mul (mulM hq2 (smallM (j := y) (by omega)))
  have h : p * x = (x.natAbs : Int) := by simpa using h
  have h2 : q2 * y = (y.natAbs : Int) := by simpa using h2
  rw [h] at m1
  rw [h2] at m2
  simp [rest16, t16, S16, e, e2, m1, m2]
theorem r16 (d : Nat) (x y z : Int) (hx : x.natAbs ≤ 10 ^ 40) (hy : y.natAbs ≤ 10 ^ 40) (hz : z.natAbs ≤ 1000) : oRun fs (d + 8) 16 [.d (.int x), .d (.int y), .d (.int z)] = .ok (.d (.bl true), [none, none, none]) [] := by
  obtain ⟨t, ef⟩ := s16f d x y z hx hy
  have a := s16a d x y z hx hy
  have b := s16b d x y z hx hy
  have c := s16c d x y z hx hy
  have dd := s16d d x y z hx hy
  have e := s16e d x y z hx hy
  have g := s16g d x y z t hx hy hz
  have h := s16h d x y z (Int.gcd x y) (Int.lcm x y) t hx hy
  have tr : t16 = .seq (u16 0 t16) (.seq (u16 1 t16) (.seq (u16 2 t16) (.seq (u16 3 t16) (.seq (u16 4 t16) (.seq (u16 5 t16) (.seq (u16 6 t16) (rest16 7 t16))))))) := rfl
  have all : oX (oRun fs (d + 7)) t16 [some (.d (.int x)), some (.d (.int y)), some (.d (.int z)), none, none, none, none] = .rt (.d (.bl true)) (S16 x y z (Int.gcd x y) (Int.lcm x y) t none) := by
    rw [tr, x_seq_nx a, x_seq_nx b, x_seq_nx c, x_seq_nx dd, x_seq_nx e, x_seq_nx ef, x_seq_nx g, h]
  have fin := run_rt (fns := fs) (d := d + 7) (k := 16) (f := ⟨3, 7, t16⟩) (args := [.d (.int x), .d (.int y), .d (.int z)]) rfl rfl all
  rw [fin]
  simp [S16]
end MI.K01

set_option Elab.async false
set_option linter.all false
set_option maxRecDepth 100000
set_option maxHeartbeats 4000000
set_option exponentiation.threshold 300
namespace MI.K01
open MI PySem

def b17 : T := match t17 with
  | .seq (.for _ _ b) _ => b
  | _ => .nil
def p17 (n : Nat) : T := match n, b17 with
  | 0, .seq a _ => a
  | 1, .seq _ (.seq a _) => a
  | 2, .seq _ (.seq _ a) => a
  | _, _ => .nil
def S17 (k : List D) (n x y z : Int) : S := [some (.own false k), some (.d (.int n)), some (.d (.int x)), some (.d (.int y)), some (.d (.int z))]
theorem p17_0 (Φ : Call) (k k1 k2 k3 : List D) (n x y r : Int) (u v w : Option Vl) (e1 : Φ 15 [.own true k] = .ok (.d (.int x), [some (.own true k1)]) []) (e2 : Φ 15 [.own true k1] = .ok (.d (.int y), [some (.own true k2)]) []) (e3 : Φ 12 [.own true k2, .d (.int 2000)] = .ok (.d (.int r), [some (.own true k3), none]) []) :
    oX Φ (p17 0) [some (.own false k), some (.d (.int n)), u, v, w] = .nx (S17 k3 n x y (r - 999)) := by
  simp [p17, b17, t17, e1, e2, e3, S17]
def c17 : T := match p17 1 with
  | .iff c _ _ => c
  | _ => .nil
theorem c17_is (Φ : Call) (s : S) (n x y : Int) (h1 : s[1]? = some (some (.d (.int n)))) (h2 : s[2]? = some (some (.d (.int x)))) (h3 : s[3]? = some (some (.d (.int y)))) : oE Φ c17 s = .ok (.d (.bl (decide (n > 1) && (decide ((x.natAbs : Int) < 100000000000000000000) && decide ((y.natAbs : Int) < 100000000000000000000))))) s := by
  generalize hb1 : decide (n > 1) = b1
  generalize hb2 : decide ((x.natAbs : Int) < 100000000000000000000) = b2
  generalize hb3 : decide ((y.natAbs : Int) < 100000000000000000000) = b3
  have q1 : cmp .Gt (.int n) (.int 1) = some b1 := by rw [cmp_gt, ← hb1]
  have q2 : cmp .Lt (.int x.natAbs) (.int 100000000000000000000) = some b2 := by rw [cmp_lt, ← hb2]
  have q3 : cmp .Lt (.int y.natAbs) (.int 100000000000000000000) = some b3 := by rw [cmp_lt, ← hb3]
  cases b1 <;> cases b2 <;> cases b3 <;> simp [-cmp_lt, -cmp_gt, c17, p17, b17, t17, h1, h2, h3, pow20, q1, q2, q3]

theorem p17_no (Φ : Call) (k : List D) (n x y z : Int) (h : (decide (n > 1) && (decide ((x.natAbs : Int) < 100000000000000000000) && decide ((y.natAbs : Int) < 100000000000000000000))) = false) : oX Φ (p17 1) (S17 k n x y z) = .nx (S17 k n x y z) := by
  have c := c17_is Φ (S17 k n x y z) n x y rfl rfl rfl
  rw [h] at c
  show oX Φ (.iff c17 _ _) _ = _
  rw [x_if, c]
  simp
theorem p17_yes (Φ : Call) (k : List D) (n x y z x' y' : Int) (h : (decide (n > 1) && (decide ((x.natAbs : Int) < 100000000000000000000) && decide ((y.natAbs : Int) < 100000000000000000000))) = true) (m1 : bin .Mult (.int x) (.int (1 + (z.natAbs : Int))) = some (.d (.int x'))) (m2 : bin .Mult (.int y) (.int (1 + (z.natAbs : Int))) = some (.d (.int y'))) : oX Φ (p17 1) (S17 k n x y z) = .nx (S17 k n x' y' z) := by
  have c := c17_is Φ (S17 k n x y z) n x y rfl rfl rfl
  rw [h] at c
  have e : p17 1 = .iff c17 (.par [2, 3] (.cons (.bin .Mult (.var 2) (.bin .Add (.con (.int 1)) (.bf .abs (.cons (.var 4) .nil)))) (.cons (.bin .Mult (.var 3) (.bin .Add (.con (.int 1)) (.bf .abs (.cons (.var 4) .nil)))) .nil))) .pass := rfl
  rw [e, x_if, c]
  simp [S17, m1, m2]
theorem p17_2 (Φ : Call) (k : List D) (n x y z : Int) (f : Φ 16 [.d (.int x), .d (.int y), .d (.int z)] = .ok (.d (.bl true), [none, none, none]) []) : oX Φ (p17 2) (S17 k n x y z) = .nx (S17 k n x y z) := by
  simp [p17, b17, t17, S17, f]
theorem turn17 (d n : Nat) (a b c : Int) (ok : KegOk a b c) (t u v w : Option Vl) : ∃ a' b' c' x y z, oF (oRun fs (d + 8)) (.var 1) b17 (.int n) [some (.own false (keg a b c)), t, u, v, w] = .nx (S17 (keg a' b' c') n x y z) ∧ KegOk a' b' c' := by
  obtain ⟨x, a1, b1, c1, e1, ok1, hx⟩ := r15 (d + 5) a b c ok
  obtain ⟨y, a2, b2, c2, e2, ok2, hy⟩ := r15 (d + 5) a1 b1 c1 ok1
  obtain ⟨r, a3, b3, c3, e3, ok3, z0, z1⟩ := r12 (d + 7) a2 b2 c2 2000 ok2 (by decide) (by decide)
  have hz : (r - 999).natAbs ≤ 1000 := by omega
  have first := p17_0 (oRun fs (d + 8)) _ _ _ _ n x y r u v w e1 e2 e3
  have seq : b17 = .seq (p17 0) (.seq (p17 1) (p17 2)) := rfl
  have bnd : oF (oRun fs (d + 8)) (.var 1) b17 (.int n) [some (.own false (keg a b c)), t, u, v, w] = oX (oRun fs (d + 8)) b17 [some (.own false (keg a b c)), some (.d (.int n)), u, v, w] := by
    rw [stepF_s]
    simp
  cases h : (decide ((n : Int) > 1) && (decide ((x.natAbs : Int) < 100000000000000000000) && decide ((y.natAbs : Int) < 100000000000000000000))) with
  | false =>
    refine ⟨a3, b3, c3, x, y, r - 999, ?_, ok3⟩
    rw [bnd, seq, x_seq_nx first, x_seq_nx (p17_no _ _ _ _ _ _ h), p17_2 _ _ _ _ _ _ (r16 d x y _ hx hy hz)]
  | true =>
    have h2 := h
    simp only [Bool.and_eq_true, decide_eq_true_eq] at h2
    have q1 : (x * (1 + ((r - 999).natAbs : Int))).natAbs ≤ 10 ^ 20 * 1001 := by
      rw [Int.natAbs_mul]
      exact Nat.mul_le_mul (by omega) (by omega)
    have q2 : (y * (1 + ((r - 999).natAbs : Int))).natAbs ≤ 10 ^ 20 * 1001 := by
      rw [Int.natAbs_mul]
      exact Nat.mul_le_mul (by omega) (by omega)
    refine ⟨a3, b3, c3, x * (1 + ((r - 999).natAbs : Int)), y * (1 + ((r - 999).natAbs : Int)), r - 999, ?_, ok3⟩
    rw [bnd, seq, x_seq_nx first, x_seq_nx (p17_yes _ _ _ _ _ _ _ _ h (bin_mul (mulS' (by have := hz; omega))) (bin_mul (mulS' (by have := hz; omega)))), p17_2 _ _ _ _ _ _ (r16 d _ _ _ (Nat.le_trans q1 (by decide)) (Nat.le_trans q2 (by decide)) hz)]
theorem turn17' (d n : Nat) (a b c m x y z : Int) (ok : KegOk a b c) : ∃ a' b' c' x' y' z', oF (oRun fs (d + 8)) (.var 1) b17 (.int n) (S17 (keg a b c) m x y z) = .nx (S17 (keg a' b' c') n x' y' z') ∧ KegOk a' b' c' := turn17 d n a b c ok _ _ _ _
theorem loop_nx {f : D → S → O} {x : D} {r : List D} {s s' : S} (h : f x s = .nx s') : loopL f (x :: r) s = loopL f r s' := by
  rw [loopL_cons, h]
theorem r17 (d : Nat) (a b c : Int) (ok : KegOk a b c) : oRun fs (d + 9) 17 [.own false (keg a b c)] = .ok (.d (.bl true), [none]) [] := by
  obtain ⟨a1, b1, c1, x1, y1, z1, e1, ok1⟩ := turn17 d 0 a b c ok none none none none
  obtain ⟨a2, b2, c2, x2, y2, z2, e2, ok2⟩ := turn17' d 1 a1 b1 c1 (0 : Nat) x1 y1 z1 ok1
  obtain ⟨a3, b3, c3, x3, y3, z3, e3, ok3⟩ := turn17' d 2 a2 b2 c2 (1 : Nat) x2 y2 z2 ok2
  obtain ⟨a4, b4, c4, x4, y4, z4, e4, ok4⟩ := turn17' d 3 a3 b3 c3 (2 : Nat) x3 y3 z3 ok3
  have lp : oX (oRun fs (d + 8)) (.for (.var 1) (.rng (.cons (.con (.int 4)) .nil)) b17) [some (.own false (keg a b c)), none, none, none, none] = .nx (S17 (keg a4 b4 c4) (3 : Nat) x4 y4 z4) := by
    have it : oI (oRun fs (d + 8)) (.rng (.cons (.con (.int 4)) .nil)) [some (.own false (keg a b c)), none, none, none, none] = .ok (rangeL 0 4) [some (.own false (keg a b c)), none, none, none, none] := rng1_of (n := 4) (e_con _) (by decide)
    rw [x_for, it]
    have rg : rangeL 0 4 = [.int (0 : Nat), .int (1 : Nat), .int (2 : Nat), .int (3 : Nat)] := rfl
    rw [rg]
    dsimp only
    rw [loop_nx e1, loop_nx e2, loop_nx e3, loop_nx e4, loopL_nil]
  have f8 := r8 (d + 2) 0 0 (by decide) (by decide)
  have f9 := r9 (d + 2) 0 0 (by decide) (by decide)
  have rt : oX (oRun fs (d + 8)) (.ret (.and (.cmp .Eq (.call 8 (.cons (.con (.int 0)) (.cons (.con (.int 0)) .nil))) (.con (.int 0))) (.cmp .Eq (.call 9 (.cons (.con (.int 0)) (.cons (.con (.int 0)) .nil))) (.con (.int 0))))) (S17 (keg a4 b4 c4) (3 : Nat) x4 y4 z4) = .rt (.d (.bl true)) (S17 (keg a4 b4 c4) (3 : Nat) x4 y4 z4) := by
    simp at f8 f9
    simp [f8, f9]
  have all : oX (oRun fs (d + 8)) t17 [some (.own false (keg a b c)), none, none, none, none] = .rt (.d (.bl true)) (S17 (keg a4 b4 c4) (3 : Nat) x4 y4 z4) := (x_seq_nx lp).trans rt
  have fin := run_rt (fns := fs) (d := d + 8) (k := 17) (f := ⟨1, 5, t17⟩) (args := [.own false (keg a b c)]) rfl rfl all
  rw [fin]
  simp [S17]
end MI.K01

set_option Elab.async false
set_option linter.all false
set_option maxRecDepth 100000
set_option maxHeartbeats 4000000
set_option exponentiation.threshold 300
namespace MI.K01
open MI PySem

def cl (ns : List Int) : D := .lst (ns.map .int)
def b11 : T := match t11 with
  | .seq _ (.seq _ (.seq (.for _ _ b) _)) => b
  | _ => .nil
def S11 (ns : List Int) (n v k : Int) (u : Option Vl) : S := [some (.d (cl ns)), some (.d (.int n)), some (.d (.int v)), some (.d (.int k)), u]
theorem turn11 (Φ : Call) (ns : List Int) (n v k : Int) (u : Option Vl) (i : Nat) (hi : i < ns.length) (h8 : i < 8) : ∃ k', oF Φ (.var 4) b11 (.int i) (S11 ns n v k u) = .nx (S11 ns n v k' (some (.d (.int i)))) := by
  have m1 := bin_mul (mulS (i := 38) (j := (i : Int)) (by decide))
  have m2 := bin_mul (mulS' (i := k) (j := 30259 + 38 * (i : Int)) (by omega))
  have m3 := bin_mul (mulS (i := 73) (j := ns[i]) (by decide))
  have md := bin_mod (i := k * (30259 + 38 * (i : Int)) + 73 * ns[i] + 23003) (j := 2147482801) (by decide)
  refine ⟨(k * (30259 + 38 * (i : Int)) + 73 * ns[i] + 23003) % 2147482801, ?_⟩
  simp [b11, t11, S11, cl, m1, m2, m3, md, hi]
theorem loop11 (Φ : Call) (ns : List Int) (n v : Int) : ∀ (is : List Nat) (k : Int) (u : Option Vl), (∀ i ∈ is, i < ns.length ∧ i < 8) → ∃ k' u', loopL (oF Φ (.var 4) b11) (is.map fun i => .int (i : Nat)) (S11 ns n v k u) = .nx (S11 ns n v k' u')
  | [], k, u, _ => ⟨k, u, by simp⟩
  | i :: is, k, u, h => by
    obtain ⟨h1, h2⟩ := h i List.mem_cons_self
    obtain ⟨k1, e1⟩ := turn11 Φ ns n v k u i h1 h2
    obtain ⟨k2, u2, e2⟩ := loop11 Φ ns n v is k1 _ fun j hj => h j (List.mem_cons_of_mem _ hj)
    exact ⟨k2, u2, by rw [List.map_cons, loop_nx e1, e2]⟩
theorem range_eq (n : Nat) : rangeL 0 n = (List.range n).map fun i => .int (i : Nat) := by
  unfold rangeL
  simp
def p11 (n : Nat) : T := match n, t11 with
  | 0, .seq a _ => a
  | 1, .seq _ (.seq a _) => a
  | 2, .seq _ (.seq _ (.seq a _)) => a
  | 3, .seq _ (.seq _ (.seq _ a)) => a
  | _, _ => .nil
theorem p11_0 (Φ : Call) (ns : List Int) (i : Nat) : ∃ v, oX Φ (p11 0) [some (.d (cl ns)), some (.d (.int i)), none, none, none] = .nx [some (.d (cl ns)), some (.d (.int i)), some (.d (.int v)), none, none] := by
  by_cases h : i < ns.length
  · exact ⟨ns[i], by simp [p11, t11, cl, h]⟩
  · exact ⟨0, by simp [p11, t11, cl, h]⟩
theorem p11_1 (Φ : Call) (ns : List Int) (i : Nat) (v : Int) (hi : i < 3) : oX Φ (p11 1) [some (.d (cl ns)), some (.d (.int i)), some (.d (.int v)), none, none] = .nx (S11 ns i v (258779 + 23011 * i) none) := by
  have m1 := bin_mul (mulS (i := 23011) (j := (i : Int)) (by decide))
  simp [p11, t11, cl, m1, S11]
theorem min_eq (n : Nat) : (if (8 : Int) < (n : Int) then (8 : Int) else (n : Int)) = ((min n 8 : Nat) : Int) := by
  split <;> omega
theorem p11_2 (Φ : Call) (ns : List Int) (n v k : Int) (u : Option Vl) : ∃ k' u', oX Φ (p11 2) (S11 ns n v k u) = .nx (S11 ns n v k' u') := by
  obtain ⟨k', u', e⟩ := loop11 Φ ns n v (List.range (min ns.length 8)) k u fun i hi => by
    rw [List.mem_range] at hi
    omega
  refine ⟨k', u', ?_⟩
  have ev : oE Φ (.bf .min (.cons (.bf .len (.cons (.var 0) .nil)) (.cons (.con (.int 8)) .nil))) (S11 ns n v k u) = .ok (.d (.int ((min ns.length 8 : Nat) : Int))) (S11 ns n v k u) := by
    rw [← min_eq]
    simp [S11, cl]
  have pe : p11 2 = .for (.var 4) (.rng (.cons (.bf .min (.cons (.bf .len (.cons (.var 0) .nil)) (.cons (.con (.int 8)) .nil))) .nil)) b11 := rfl
  rw [pe, x_for, rng1_of ev (by omega)]
  dsimp only
  rw [range_eq]
  exact e
theorem pow18 : bin .Pow (.int 10) (.int 18) = some (.d (.int 1000000000000000000)) := by
  rw [bin_pow (by decide) (by decide) (by decide)]
  rfl
theorem p11_3 (Φ : Call) (ns : List Int) (n v k : Int) (u : Option Vl) : ∃ a b c, oX Φ (p11 3) (S11 ns n v k u) = .rt (.own false (keg a b c)) (S11 ns n v k u) ∧ KegOk a b c := by
  have m1 := bin_mul (mulS' (i := k) (j := 47) (by decide))
  have m2 := bin_mul (mulS' (i := v) (j := 937) (by decide))
  have p0 : (0 : Int) < 2147482801 := by decide
  have md := bin_mod (i := k * 47 + v * 937) p0
  generalize hb : (k * 47 + v * 937) % 2147482801 = b at md
  generalize hb1 : decide (v < 0) = b1
  generalize hb2 : decide (1000000000000000000 ≤ v) = b2
  have q1 : cmp .Lt (.int v) (.int 0) = some b1 := by rw [cmp_lt, ← hb1]
  have q2 : cmp .GtE (.int v) (.int 1000000000000000000) = some b2 := by rw [cmp_ge, ← hb2]
  have ok : ∀ a : Int, 0 ≤ a → KegOk a b 1 := fun a ha => ⟨ha, by rw [← hb]; exact Int.emod_nonneg _ (by decide), by rw [← hb]; exact Int.emod_lt_of_pos _ p0⟩
  generalize hv : (v.natAbs : Int) = av
  have av0 : 0 ≤ av := by omega
  cases b1 <;> cases b2
  · exact ⟨0, b, 1, by simp [-cmp_lt, -cmp_ge, p11, t11, S11, q1, q2, pow18, m1, m2, md, keg], ok _ (by decide)⟩
  · exact ⟨av, b, 1, by simp [-cmp_lt, -cmp_ge, p11, t11, S11, q1, q2, pow18, m1, m2, md, keg, hv], ok _ av0⟩
  · exact ⟨av, b, 1, by simp [-cmp_lt, -cmp_ge, p11, t11, S11, q1, q2, pow18, m1, m2, md, keg, hv], ok _ av0⟩
  · exact ⟨av, b, 1, by simp [-cmp_lt, -cmp_ge, p11, t11, S11, q1, q2, pow18, m1, m2, md, keg, hv], ok _ av0⟩
theorem r11 (d : Nat) (ns : List Int) (i : Nat) (hi : i < 3) : ∃ a b c, oRun fs (d + 1) 11 [.d (cl ns), .d (.int i)] = .ok (.own false (keg a b c), [none, none]) [] ∧ KegOk a b c := by
  obtain ⟨v, e0⟩ := p11_0 (oRun fs d) ns i
  have e1 := p11_1 (oRun fs d) ns i v hi
  obtain ⟨k, u, e2⟩ := p11_2 (oRun fs d) ns i v (258779 + 23011 * i) none
  obtain ⟨a, b, c, e3, ok⟩ := p11_3 (oRun fs d) ns i v k u
  have tr : t11 = .seq (p11 0) (.seq (p11 1) (.seq (p11 2) (p11 3))) := rfl
  have all : oX (oRun fs d) t11 [some (.d (cl ns)), some (.d (.int i)), none, none, none] = .rt (.own false (keg a b c)) (S11 ns i v k u) := by
    rw [tr, x_seq_nx e0, x_seq_nx e1, x_seq_nx e2, e3]
  have fin := run_rt (fns := fs) (d := d) (k := 11) (f := ⟨2, 5, t11⟩) (args := [.d (cl ns), .d (.int i)]) rfl rfl all
  exact ⟨a, b, c, by rw [fin]; simp [S11], ok⟩
theorem all_true (n : Nat) : bf1 .all [.lst (List.replicate n (.bl true))] = some (.d (.bl true)) := by
  have h : ∀ n, boolsOf (List.replicate n (.bl true)) = some (List.replicate n true) := fun n => by
    induction n with
    | zero => rfl
    | succ n ih =>
      rw [List.replicate_succ]
      show (boolsOf (List.replicate n (.bl true))).map (true :: ·) = _
      rw [ih]
      rfl
  show (boolsOf _).map _ = _
  rw [h]
  simp
theorem comp18 (f : D → S → Option (Option D × S)) (s : S) : ∀ (xs : List D), (∀ x ∈ xs, f x s = some (some (.bl true), s)) → compL f xs s = some (List.replicate xs.length (.bl true), s)
  | [], _ => rfl
  | x :: xs, h => by
    have e := comp18 f s xs fun y hy => h y (List.mem_cons_of_mem _ hy)
    show (match f x s with
      | none => none
      | some (y, s1) => match compL f xs s1 with
        | none => none
        | some (ys, s2) => some (joinO y ys, s2)) = _
    rw [h x List.mem_cons_self]
    dsimp only
    rw [e]
    rfl
theorem turn18 (d : Nat) (ns : List Int) (i : Nat) (hi : i < 3) : turnC (oRun fs (d + 9)) [1] (.var 1) (.con (.bl true)) (.call 17 (.cons (.call 11 (.cons (.var 0) (.cons (.var 1) .nil))) .nil)) (.int i) [some (.d (cl ns)), none] = some (some (.bl true), [some (.d (cl ns)), none]) := by
  obtain ⟨a, b, c, e, ok⟩ := r11 (d + 8) ns i hi
  have f := r17 d a b c ok
  simp [turnC, e, f, wipeS]
theorem max_eq (n : Nat) : (if (2 : Int) < (if (3 : Int) < (n : Int) then (3 : Int) else (n : Int)) then (if (3 : Int) < (n : Int) then (3 : Int) else (n : Int)) else (2 : Int)) = ((max 2 (min n 3) : Nat) : Int) := by
  split <;> split <;> omega
theorem r18 (d : Nat) (ns : List Int) : oRun fs (d + 10) 18 [.d (cl ns)] = .ok (.d (.bl true), [none]) [] := by
  have ev : oE (oRun fs (d + 9)) (.bf .max (.cons (.con (.int 2)) (.cons (.bf .min (.cons (.bf .len (.cons (.var 0) .nil)) (.cons (.con (.int 3)) .nil))) .nil))) [some (.d (cl ns)), none] = .ok (.d (.int ((max 2 (min ns.length 3) : Nat) : Int))) [some (.d (cl ns)), none] := by
    rw [← max_eq]
    simp [cl]
  have cp := comp18 (turnC (oRun fs (d + 9)) [1] (.var 1) (.con (.bl true)) (.call 17 (.cons (.call 11 (.cons (.var 0) (.cons (.var 1) .nil))) .nil))) [some (.d (cl ns)), none] (rangeL 0 (max 2 (min ns.length 3))) fun x hx => by
    rw [range_eq] at hx
    obtain ⟨i, hi, rfl⟩ := List.mem_map.mp hx
    rw [List.mem_range] at hi
    exact turn18 d ns i (by omega)
  rw [rangeL_len] at cp
  have c : oE (oRun fs (d + 9)) (.comp [1] (.var 1) (.rng (.cons (.bf .max (.cons (.con (.int 2)) (.cons (.bf .min (.cons (.bf .len (.cons (.var 0) .nil)) (.cons (.con (.int 3)) .nil))) .nil))) .nil)) (.con (.bl true)) (.call 17 (.cons (.call 11 (.cons (.var 0) (.cons (.var 1) .nil))) .nil))) [some (.d (cl ns)), none] = .ok (.own false (List.replicate (max 2 (min ns.length 3)) (.bl true))) [some (.d (cl ns)), none] := by
    rw [e_comp, rng1_of ev (by omega), bind_ok']
    have w : wipeS [some (.d (cl ns)), none] [1] = [some (.d (cl ns)), none] := rfl
    rw [w, cp]
    dsimp only
    rw [List.length_replicate, if_pos (by rw [fits_s]; exact decide_eq_true (by omega))]
    rfl
  have all : oX (oRun fs (d + 9)) t18 [some (.d (cl ns)), none] = .rt (.d (.bl true)) [some (.d (cl ns)), none] := by
    have tr : t18 = .ret (.bf .all (.cons (.comp [1] (.var 1) (.rng (.cons (.bf .max (.cons (.con (.int 2)) (.cons (.bf .min (.cons (.bf .len (.cons (.var 0) .nil)) (.cons (.con (.int 3)) .nil))) .nil))) .nil)) (.con (.bl true)) (.call 17 (.cons (.call 11 (.cons (.var 0) (.cons (.var 1) .nil))) .nil))) .nil)) := rfl
    rw [tr, x_ret, e_bf_comp, l_cons', c, bind_ok', l_nil', bind_ok', dat_own, bind_ok', all_true]
    rfl
  have fin := run_rt (fns := fs) (d := d + 9) (k := 18) (f := ⟨1, 2, t18⟩) (args := [.d (cl ns)]) rfl rfl all
  rw [fin]
  simp
end MI.K01

namespace MI
abbrev KFS : List Fn := K01.fs
theorem KGO (ns : List Int) : oRun KFS 60 18 [.d (.lst (ns.map .int))] = .ok (.d (.bl true), [none]) [] := K01.r18 50 ns
end MI

set_option Elab.async false
set_option linter.all false
set_option maxRecDepth 100000
set_option maxHeartbeats 0
namespace MI.HD
open PySem PySem.Spec PyProof.Rows L2 MI
abbrev R : PySem.W.OpenRow := PySem.W.OpenLaw.row PySem.Challenge.rw_restlands_k01_whole_divisors_of_two
def m : Md := ⟨desX PySem.Challenge.pw_restlands_k01_whole_divisors_of_two [("_law_pair_right", ["each"]), ("law", ["at"])], [("MOST_NUMBER", 10 ^ 40)]⟩
def lawAt : Nat := 18
def topAt : Nat := 25
def loose : List PySem.Str := ["NotRight", "InvalidNumber", "MOST_NUMBER", "is_integer", "is_between", "check_between", "check_number", "common_of", "multiple_of", "combined_of", "check_two", "common", "multiple", "combined", "_law_keg", "_law_tap", "_law_any", "_law_common", "_law_whole", "_law_pair_right", "_law_right"]
abbrev hk : PySem.W.Hook := He.hookD 4 m.fa m.fn
def ob (s : PySem.W.SharedT) : He.AlD := He.obsDG 4 m.fa m.fn (HandSHeadRun.getT s)
theorem ob_eq (s : PySem.W.SharedT) : ob s = hk.obs s.abs := He.obsDG_eq (HandSHeadRun.getT_eq s)
theorem m_ok : m.ok = true := by kernel_rfl
theorem run (w : World) : HandSHeadRun.RunEq R (PySem.W.view R.prog [topAt]) hk ob 1500 loose w := by
  intro os
  kernel_rfl
theorem room : Room 60 callerA := ⟨rfl, by decide, by decide⟩
theorem holds (go : ∀ ns : List Int, ns.length ≤ 63 → (∀ z ∈ ns, Builtin.Int.intBits z ≤ 1048576) → ∃ os s, MI.run m.fns 60 lawAt [.d (.lst (ns.map .int))] = .ok (.d (.bl true), os) s) : PySem.Challenge.rw_restlands_k01_whole_divisors_of_two.Holds := by
  w_on; o_law
  refine HandSHeadRun.head_any (r := PySem.W.OpenLaw.row PySem.Challenge.rw_restlands_k01_whole_divisors_of_two) (q := PySem.W.view (PySem.W.OpenLaw.row PySem.Challenge.rw_restlands_k01_whole_divisors_of_two).prog [topAt]) (H := hk) (ob := ob) (M := 1500) (loose := loose) (d := HandSHeadRun.topDef (PySem.W.OpenLaw.row PySem.Challenge.rw_restlands_k01_whole_divisors_of_two).prog topAt) (kwd := []) ob_eq
    (by kernel_rfl) (fun s => by kernel_rfl) run (by kernel_rfl) (by kernel_rfl) (by kernel_rfl) (by rfl) (by first | assumption | decide +kernel) (by decide +kernel) ⟨rfl, rfl, rfl, rfl, rfl, by decide +kernel⟩ ?hw ?hc
  case hw => w_witness2
  case hc => exact law_end (l := PySem.Challenge.rw_restlands_k01_whole_divisors_of_two) (i := lawAt) (x := "cells") m m_ok rfl (by decide) (by kernel_rfl) room (by kernel_rfl) go
end MI.HD

theorem MI.HD.fns_eq : MI.HD.m.fns = MI.KFS := by kernel_rfl
theorem PySem.Challenge.cw_restlands_k01_whole_divisors_of_two_holds : PySem.Challenge.rw_restlands_k01_whole_divisors_of_two.Holds := by
  refine MI.HD.holds fun ns _ _ => ⟨[none], [], ?_⟩
  rw [MI.HD.fns_eq, ← MI.oRun_eq]
  exact MI.KGO ns
